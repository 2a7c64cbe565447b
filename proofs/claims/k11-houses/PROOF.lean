import PyProof.Rows.All
import Wide.All
import OpenK.AllK
import Wide.FinOn
import HandS.ForMost
import HandS.ForExc
import HandS.TryMany
import HandS.Lambda
import HandS.EndTab
import HandS.Walk
import HandS.Codes
import HandS.RaiseMore
import HandS.More
import HandS.Nested
import HandS.TupAny
import HandS.Wide
import HandS.Conv
import KE.DataCmp
import PyProof.Rows.InDataRows
import HandS.Dict
import HandS.Iter
import HandS.Rev
import HandS.Comp
import HandS.WordsExc
import HandS.Sort
import HandS.SortInts
import HandS.IsInst
import HandS.Small
import HandS.Style
import HandS.Defaults
import HandS.HeadHook4
import HandS.NestedK
import KE.GoesMore
import KE.GoesEnum
import HandS.GenList
import PyProof.GenCompD
import PyProof.CodeObjX
import PyProof.ConsumeS
import PyProof.SumAny
import HandS.Replace
import HandS.Strs
import HandS.RevTup
import HandS.DictTup
import HandS.DictComp
import KE.SortData
import KE.DataMinMax
import HandS.SetFor
import HandS.Flt
import KE.KStateDown
import HandS.Base
import HandS.Call
import HandS.Ends
import HandS.Words
import HandS.Head0
import HandS.Head1
import HandS.Head2
import HandS.HeadEnd
import HandS.HeadHook1
import HandS.HeadHook2
import HandS.HeadHook3
import PyProof.ExcBaseAll.ValueError
import HandS.HeadWalk
import PySem.Challenge.RW_cardhall_k11_houses
set_option Elab.async false
set_option linter.all false
set_option maxRecDepth 100000
section
set_option maxHeartbeats 2000000
namespace CardH
open PySem PySem.Spec PyProof.Rows L2

/-- a value as a tree: lists and dicts in it never change; .ref i is the i-th object of the store -/
inductive Vl where
  | non | bl (b : Bool) | int (i : Int) | str (x : Str)
  | tup (xs : List Vl) | lst (xs : List Vl) | dct (t : Bool) (kvs : List (Vl × Vl)) | ref (i : Nat)
  /-- the law's script: read only -/
  | scr (ns : List Int)
  /-- a tuple of the module's own; one that no more is told of (a dict's key) -/
  | ktp (xs : List Vl) | stp (xs : List Vl)
/-- what a slot or a field holds: a value, or a list, a dict of its own that may be changed in place -/
inductive Fv where
  | val (x : Vl) | ol (xs : List Vl) | od (t : Bool) (kvs : List (Vl × Vl))
def Fv.toVl : Fv → Vl
  | .val x => x
  | .ol xs => .lst xs
  | .od t kvs => .dct t kvs
inductive Ob where
  | lst (xs : List Vl) | ins (C : Nat) (fs : List (Nat × Fv))
  /-- a dict; lk: it is walked just now; t: its keys are tuples -/
  | dct (lk t : Bool) (kvs : List (Vl × Vl))
structure Ex where
  cls : Nat
  row : Option Int := none
abbrev Gst := List Ob
abbrev LEnv := List (Option Fv)
inductive R (α : Type) where
  | ok (a : α) (G : Gst) | exn (c : Ex) (G : Gst) | bad
inductive SR where
  | nx (e : LEnv) (G : Gst) | rt (v : Vl) (G : Gst) | bk (e : LEnv) (G : Gst) | ct (e : LEnv) (G : Gst) | ex (c : Ex) (e : LEnv) (G : Gst) | bad
abbrev DE := LEnv → Gst → R Vl
abbrev DT := LEnv → Gst → R Bool
abbrev DA := LEnv → Gst → R (List Vl)
abbrev DS := LEnv → Gst → SR

inductive Role where
  | no | froz | slot (i : Nat) | fld (i : Nat) (f : Nat) | obj (i : Nat)
  /-- a list being made: nobody else knows it -/
  | tmp
  deriving DecidableEq
def keyOf : Vl → Option Key
  | .int i => some (.inl i)
  | .str x => some (.inr x)
  | _ => none
def keysOf : List Vl → Option (List Key)
  | [] => some []
  | x :: xs => match keyOf x, keysOf xs with
    | some k, some ks => some (k :: ks)
    | _, _ => none
def okK1 : Vl → Bool
  | .str x => x.cps.all (· < 0x110000)
  | _ => true
/-- a key's texts are texts -/
def okK : Vl → Bool
  | .stp xs => xs.all okK1
  | x => okK1 x
def keyTOf : Vl → Option (List Key)
  | .stp xs => keysOf xs
  | _ => none

/-- a tuple, a list of the written part -/
def KTup (K : PySem.W.Frag) (a : Addr) (xs : List V) : Prop := ∃ (o : Obj) (its : Array Value) (n : Nat), K.lookup a = some o ∧ o.cls = .type "tuple" ∧ o.data = .seq its n ∧ its.size ≤ sizeLine ∧ Vals xs its.toList
def KLst (K : PySem.W.Frag) (a : Addr) (xs : List V) : Prop := ∃ (o : Obj) (its : Array Value) (n : Nat), K.lookup a = some o ∧ o.cls = .type "list" ∧ o.dict = none ∧ o.data = .seq its n ∧ its.size ≤ sizeLine ∧ Vals xs its.toList

def okStr (x : Str) : Bool := x.cps.all (· < 0x110000)
/-- where things stand -/
structure Wd where
  Γ : Addr → Role
  ρ : List Addr
  H : Hp

section
variable (K : PySem.W.Frag) (W : Wd)
mutual
def Rep : Vl → V → Prop
  | .non, v => v = .non
  | .bl b, v => v = .bl b
  | .int i, v => v = .int i
  | .str x, v => v = .str x ∧ okStr x = true
  | .tup xs, v => ∃ a vs o, v = .ref a ∧ W.Γ a = .no ∧ W.H a = some (.frz o (.tup vs)) ∧ o.dict = none ∧ Reps xs vs
  | .stp xs, v => ∃ a vs, v = .ref a ∧ W.H a = some (.tup vs) ∧ Reps xs vs
  | .lst xs, v => ∃ a vs, v = .ref a ∧ W.Γ a = .froz ∧ W.H a = some (.lst vs) ∧ Reps xs vs
  | .dct false kvs, v => ∃ a o ks, v = .ref a ∧ W.Γ a = .froz ∧ W.H a = some (.frz o (.dK ks)) ∧ RepK kvs ks
  | .dct true kvs, v => ∃ a o ks, v = .ref a ∧ W.Γ a = .froz ∧ W.H a = some (.frz o (.dT ks)) ∧ RepT kvs ks
  | .ref i, v => ∃ a, v = .ref a ∧ W.ρ[i]? = some a
  | .ktp xs, v => ∃ a vs, v = .ref a ∧ KTup K a vs ∧ Reps xs vs
  | .scr ns, v => ∃ a, v = .ref a ∧ ((W.Γ a = .no ∧ Rd W.H a (.lst (ns.map V.int))) ∨ KLst K a (ns.map V.int))
def Reps : List Vl → List V → Prop
  | [], vs => vs = []
  | x :: xs, vs => ∃ v r, vs = v :: r ∧ Rep x v ∧ Reps xs r
def RepK : List (Vl × Vl) → List (Key × V) → Prop
  | [], ks => ks = []
  | (k, x) :: kvs, ks => ∃ q v r, ks = (q, v) :: r ∧ (keyOf k = some q ∧ okK k = true) ∧ Rep x v ∧ RepK kvs r
def RepT : List (Vl × Vl) → List (List Key × V) → Prop
  | [], ks => ks = []
  | (k, x) :: kvs, ks => ∃ q v r, ks = (q, v) :: r ∧ (keyTOf k = some q ∧ okK k = true) ∧ Rep x v ∧ RepT kvs r
end
end

/-- what is not changed by anybody: all but objects and what their fields own -/
def Role.still : Role → Bool
  | .obj _ => false
  | .fld _ _ => false
  | _ => true
/-- W' comes behind W; p: nothing that stood is changed -/
structure Ext (p : Bool) (W W' : Wd) : Prop where
  role : ∀ a, W.H a ≠ none → W'.Γ a = W.Γ a
  keep : ∀ a o, W.H a = some o → (∀ ps, o ≠ .tbl ps) → (p = true ∨ (W.Γ a).still = true) → W'.H a = some o
  tups : ∀ a xs, W.H a = some (.tup xs) → W'.H a = some (.tup xs)
  frz : ∀ a o u, W.H a = some (.frz o u) → W'.H a = some (.frz o u)
  there : ∀ a, W.H a ≠ none → W'.H a ≠ none
  pre : ∃ r, W'.ρ = W.ρ ++ r
/-- .. but what is being made -/
structure ExtR (p : Bool) (S : Role → Bool) (W W' : Wd) : Prop where
  role : ∀ a, W.H a ≠ none → S (W.Γ a) = false → W'.Γ a = W.Γ a
  keep : ∀ a o, W.H a = some o → (∀ ps, o ≠ .tbl ps) → S (W.Γ a) = false → (p = true ∨ (W.Γ a).still = true) → W'.H a = some o
  tups : ∀ a xs, W.H a = some (.tup xs) → W'.H a = some (.tup xs)
  frz : ∀ a o u, W.H a = some (.frz o u) → S (W.Γ a) = false → W'.H a = some (.frz o u)
  there : ∀ a, W.H a ≠ none → W'.H a ≠ none
  pre : ∃ r, W'.ρ = W.ρ ++ r
theorem Ext.toR {p : Bool} {W W' : Wd} (e : Ext p W W') : ExtR p (fun _ => false) W W' := ⟨fun a h _ => e.role a h, fun a o h nt _ hp => e.keep a o h nt hp, e.tups, fun a o u h _ => e.frz a o u h, e.there, e.pre⟩
theorem Ext.refl {p : Bool} {W : Wd} : Ext p W W := ⟨fun _ _ => rfl, fun _ _ h _ _ => h, fun _ _ h => h, fun _ _ _ h => h, fun _ h => h, [], by simp⟩
theorem Ext.trans {p q : Bool} {W W1 W2 : Wd} (a : Ext p W W1) (b : Ext q W1 W2) : Ext (p && q) W W2 where
  role := fun x h => (b.role x (a.there x h)).trans (a.role x h)
  keep := fun x o h nt hp => by
    have h1 : W1.H x = some o := a.keep x o h nt (hp.imp (fun z => (Bool.and_eq_true _ _ ▸ z).1) id)
    exact b.keep x o h1 nt (hp.imp (fun z => (Bool.and_eq_true _ _ ▸ z).2) fun z => by rw [a.role x (by rw [h]; simp)]; exact z)
  tups := fun x xs h => b.tups x xs (a.tups x xs h)
  frz := fun x o u h => b.frz x o u (a.frz x o u h)
  there := fun x h => b.there x (a.there x h)
  pre := by
    obtain ⟨r, e⟩ := a.pre
    obtain ⟨r', e'⟩ := b.pre
    exact ⟨r ++ r', by rw [e', e, List.append_assoc]⟩
theorem Ext.mono {p q : Bool} {W W' : Wd} (a : Ext p W W') (h : q = true → p = true) : Ext q W W' :=
  ⟨a.role, fun x o hx nt hp => a.keep x o hx nt (hp.imp h id), a.tups, a.frz, a.there, a.pre⟩
theorem Ext.weak {p : Bool} {W W' : Wd} (a : Ext true W W') : Ext p W W' := a.mono fun _ => rfl
theorem ExtR.refl {p : Bool} {S : Role → Bool} {W : Wd} : ExtR p S W W := ⟨fun _ _ _ => rfl, fun _ _ h _ _ _ => h, fun _ _ h => h, fun _ _ _ h _ => h, fun _ h => h, [], by simp⟩
theorem ExtR.trans {p : Bool} {S : Role → Bool} {W W1 W2 : Wd} (a : ExtR p S W W1) (b : ExtR p S W1 W2) : ExtR p S W W2 where
  role := fun x h hs => by
    have h1 := a.role x h hs
    exact (b.role x (a.there x h) (by rw [h1]; exact hs)).trans h1
  keep := fun x o h nt hs hp => by
    have hn : W.H x ≠ none := by rw [h]; simp
    have h1 := a.role x hn hs
    exact b.keep x o (a.keep x o h nt hs hp) nt (by rw [h1]; exact hs) (by rw [h1]; exact hp)
  tups := fun x xs h => b.tups x xs (a.tups x xs h)
  frz := fun x o u h hs => b.frz x o u (a.frz x o u h hs) (by rw [a.role x (by rw [h]; simp) hs]; exact hs)
  there := fun x h => b.there x (a.there x h)
  pre := by
    obtain ⟨r, e⟩ := a.pre
    obtain ⟨r', e'⟩ := b.pre
    exact ⟨r ++ r', by rw [e', e, List.append_assoc]⟩
def isSl : Role → Bool
  | .slot _ => true
  | _ => false
/-- a slot's own list, dict may be written -/
abbrev ExtS (W W' : Wd) : Prop := ExtR false isSl W W'
theorem Ext.toS {p : Bool} {W W' : Wd} (e : Ext p W W') : ExtS W W' := ⟨fun a h _ => e.role a h, fun a o h nt _ hp => e.keep a o h nt (hp.imp (fun z => nomatch z) id), e.tups, fun a o u h _ => e.frz a o u h, e.there, e.pre⟩
theorem ExtR.ref {p : Bool} {S : Role → Bool} {W W' : Wd} (a : ExtR p S W W') {i : Nat} {x : Addr} (h : W.ρ[i]? = some x) : W'.ρ[i]? = some x := by
  obtain ⟨r, e⟩ := a.pre
  rw [e, List.getElem?_append_left (List.getElem?_eq_some_iff.mp h).1, h]
theorem rd_some {H : Hp} {a : Addr} {u : HO} (h : Rd H a u) : H a ≠ none := by
  rcases h with h | ⟨o, h⟩ <;> rw [h] <;> simp
theorem rd_keep {p : Bool} {S : Role → Bool} {W W' : Wd} (e : ExtR p S W W') {a : Addr} {u : HO} (ht : S (W.Γ a) = false) (hp : p = true ∨ (W.Γ a).still = true) (nt : ∀ ps, u ≠ .tbl ps) (h : Rd W.H a u) : Rd W'.H a u := by
  rcases h with h | ⟨o, h⟩
  · exact .inl (e.keep a _ h nt ht hp)
  · exact .inr ⟨o, e.keep a _ h (fun _ z => nomatch z) ht hp⟩

section
variable {K : PySem.W.Frag} {p : Bool} {S : Role → Bool} {W W' : Wd}
mutual
theorem Rep.extR (e : ExtR p S W W') (h0 : S .no = false) (h1' : S .froz = false) : ∀ (x : Vl) (v : V), Rep K W x v → Rep K W' x v
  | .non, _, h => h
  | .bl _, _, h => h
  | .int _, _, h => h
  | .str _, _, h => h
  | .tup xs, v, h => by
    obtain ⟨a, vs, o, e1, g, h1, hd, h2⟩ := h
    exact ⟨a, vs, o, e1, (e.role a (by rw [h1]; simp) (by rw [g]; exact h0)).trans g, e.keep a _ h1 (fun _ z => nomatch z) (by rw [g]; exact h0) (.inr (by rw [g]; rfl)), hd, Reps.extR e h0 h1' xs vs h2⟩
  | .stp xs, v, h => by
    obtain ⟨a, vs, e1, h1, h2⟩ := h
    exact ⟨a, vs, e1, e.tups a vs h1, Reps.extR e h0 h1' xs vs h2⟩
  | .lst xs, v, h => by
    obtain ⟨a, vs, e1, g, h1, h2⟩ := h
    exact ⟨a, vs, e1, (e.role a (by rw [h1]; simp) (by rw [g]; exact h1')).trans g, e.keep a _ h1 (fun _ z => nomatch z) (by rw [g]; exact h1') (.inr (by rw [g]; rfl)), Reps.extR e h0 h1' xs vs h2⟩
  | .dct false kvs, v, h => by
    obtain ⟨a, o, ks, e1, g, r, h2⟩ := h
    exact ⟨a, o, ks, e1, (e.role a (by rw [r]; simp) (by rw [g]; exact h1')).trans g, e.frz a _ _ r (by rw [g]; exact h1'), RepK.extR e h0 h1' kvs ks h2⟩
  | .dct true kvs, v, h => by
    obtain ⟨a, o, ks, e1, g, r, h2⟩ := h
    exact ⟨a, o, ks, e1, (e.role a (by rw [r]; simp) (by rw [g]; exact h1')).trans g, e.frz a _ _ r (by rw [g]; exact h1'), RepT.extR e h0 h1' kvs ks h2⟩
  | .ref i, v, h => by
    obtain ⟨a, e1, h1⟩ := h
    exact ⟨a, e1, e.ref h1⟩
  | .ktp xs, v, h => by
    obtain ⟨a, vs, e1, h1, h2⟩ := h
    exact ⟨a, vs, e1, h1, Reps.extR e h0 h1' xs vs h2⟩
  | .scr ns, v, h => by
    obtain ⟨a, e1, h1⟩ := h
    exact ⟨a, e1, h1.imp (fun ⟨g, r⟩ => ⟨(e.role a (rd_some r) (by rw [g]; exact h0)).trans g, rd_keep e (by rw [g]; exact h0) (.inr (by rw [g]; rfl)) (fun _ z => nomatch z) r⟩) id⟩
theorem Reps.extR (e : ExtR p S W W') (h0 : S .no = false) (h1' : S .froz = false) : ∀ (xs : List Vl) (vs : List V), Reps K W xs vs → Reps K W' xs vs
  | [], _, h => h
  | x :: xs, vs, h => by
    obtain ⟨v, r, e1, h1, h2⟩ := h
    exact ⟨v, r, e1, Rep.extR e h0 h1' x v h1, Reps.extR e h0 h1' xs r h2⟩
theorem RepK.extR (e : ExtR p S W W') (h0 : S .no = false) (h1' : S .froz = false) : ∀ (kvs : List (Vl × Vl)) (ks : List (Key × V)), RepK K W kvs ks → RepK K W' kvs ks
  | [], _, h => h
  | (k, x) :: kvs, ks, h => by
    obtain ⟨q, v, r, e1, e2, h1, h2⟩ := h
    exact ⟨q, v, r, e1, e2, Rep.extR e h0 h1' x v h1, RepK.extR e h0 h1' kvs r h2⟩
theorem RepT.extR (e : ExtR p S W W') (h0 : S .no = false) (h1' : S .froz = false) : ∀ (kvs : List (Vl × Vl)) (ks : List (List Key × V)), RepT K W kvs ks → RepT K W' kvs ks
  | [], _, h => h
  | (k, x) :: kvs, ks, h => by
    obtain ⟨q, v, r, e1, e2, h1, h2⟩ := h
    exact ⟨q, v, r, e1, e2, Rep.extR e h0 h1' x v h1, RepT.extR e h0 h1' kvs r h2⟩
end

theorem Rep.ext (e : Ext p W W') (x : Vl) (v : V) (h : Rep K W x v) : Rep K W' x v := Rep.extR e.toR rfl rfl x v h
theorem Reps.ext (e : Ext p W W') (xs : List Vl) (vs : List V) (h : Reps K W xs vs) : Reps K W' xs vs := Reps.extR e.toR rfl rfl xs vs h
theorem RepK.ext (e : Ext p W W') (kvs : List (Vl × Vl)) (ks : List (Key × V)) (h : RepK K W kvs ks) : RepK K W' kvs ks := RepK.extR e.toR rfl rfl kvs ks h
theorem RepT.ext (e : Ext p W W') (kvs : List (Vl × Vl)) (ks : List (List Key × V)) (h : RepT K W kvs ks) : RepT K W' kvs ks := RepT.extR e.toR rfl rfl kvs ks h

theorem Reps.length : ∀ {xs : List Vl} {vs : List V}, Reps K W xs vs → xs.length = vs.length
  | [], _, h => by cases h; rfl
  | _ :: xs, _, h => by
    obtain ⟨v, r, rfl, _, h2⟩ := h
    simp [Reps.length h2]
theorem Reps.get : ∀ {xs : List Vl} {vs : List V} {i : Nat} {x : Vl}, Reps K W xs vs → xs[i]? = some x → ∃ v, vs[i]? = some v ∧ Rep K W x v
  | [], _, _, _, _, h => by simp at h
  | y :: xs, _, 0, x, h, e => by
    obtain ⟨v, r, rfl, h1, _⟩ := h
    simp at e; subst e; exact ⟨v, rfl, h1⟩
  | y :: xs, _, i + 1, x, h, e => by
    obtain ⟨v, r, rfl, _, h2⟩ := h
    obtain ⟨u, a, b⟩ := Reps.get (i := i) h2 (by simpa using e)
    exact ⟨u, by simpa using a, b⟩
theorem Reps.get' : ∀ {xs : List Vl} {vs : List V} {i : Nat} {v : V}, Reps K W xs vs → vs[i]? = some v → ∃ x, xs[i]? = some x ∧ Rep K W x v := fun {xs vs i v} h e => by
  have l := h.length
  have hi : i < vs.length := (List.getElem?_eq_some_iff.mp e).1
  obtain ⟨u, a, b⟩ := h.get (i := i) (x := xs[i]'(by omega)) (by simp [l, hi])
  rw [e] at a; cases a
  exact ⟨_, by simp [l, hi], b⟩
theorem Reps.append : ∀ {xs ys : List Vl} {vs us : List V}, Reps K W xs vs → Reps K W ys us → Reps K W (xs ++ ys) (vs ++ us)
  | [], _, _, _, h, g => by cases h; exact g
  | _ :: _, _, _, _, h, g => by
    obtain ⟨v, r, rfl, h1, h2⟩ := h
    exact ⟨v, _, rfl, h1, Reps.append h2 g⟩
theorem Reps.take : ∀ {xs : List Vl} {vs : List V} (n : Nat), Reps K W xs vs → Reps K W (xs.take n) (vs.take n)
  | _, _, 0, _ => by simp [Reps]
  | [], _, _ + 1, h => by cases h; simp [Reps]
  | _ :: _, _, n + 1, h => by
    obtain ⟨v, r, rfl, h1, h2⟩ := h
    exact ⟨v, _, rfl, h1, Reps.take n h2⟩
theorem Reps.drop : ∀ {xs : List Vl} {vs : List V} (n : Nat), Reps K W xs vs → Reps K W (xs.drop n) (vs.drop n)
  | _, _, 0, h => h
  | [], _, _ + 1, h => by cases h; simp [Reps]
  | _ :: _, _, n + 1, h => by
    obtain ⟨v, r, rfl, h1, h2⟩ := h
    exact Reps.drop n h2
theorem Reps.reverse {xs : List Vl} {vs : List V} (h : Reps K W xs vs) : Reps K W xs.reverse vs.reverse := by
  induction xs generalizing vs with
  | nil => cases h; simp [Reps]
  | cons x xs ih =>
    obtain ⟨v, r, rfl, h1, h2⟩ := h
    simp only [List.reverse_cons]
    exact (ih h2).append ⟨v, [], rfl, h1, rfl⟩
theorem Reps.set : ∀ {xs : List Vl} {vs : List V} (i : Nat) {x : Vl} {v : V}, Reps K W xs vs → Rep K W x v → Reps K W (xs.set i x) (vs.set i v)
  | [], _, _, _, _, h, _ => by cases h; simp [Reps]
  | _ :: _, _, 0, _, _, h, g => by
    obtain ⟨v, r, rfl, h1, h2⟩ := h
    exact ⟨_, r, rfl, g, h2⟩
  | _ :: _, _, i + 1, _, _, h, g => by
    obtain ⟨v, r, rfl, h1, h2⟩ := h
    exact ⟨v, _, rfl, h1, Reps.set i h2 g⟩
theorem Reps.one {x : Vl} {v : V} (h : Rep K W x v) : Reps K W [x] [v] := ⟨v, [], rfl, h, rfl⟩
theorem Reps.eraseIdx : ∀ {xs : List Vl} {vs : List V} (i : Nat), Reps K W xs vs → Reps K W (xs.eraseIdx i) (vs.eraseIdx i)
  | [], _, _, h => by cases h; simp [Reps]
  | _ :: _, _, 0, h => by
    obtain ⟨v, r, rfl, h1, h2⟩ := h
    exact h2
  | _ :: _, _, i + 1, h => by
    obtain ⟨v, r, rfl, h1, h2⟩ := h
    exact ⟨v, _, rfl, h1, Reps.eraseIdx i h2⟩
end

/-- what is told of the text's written part -/
structure Kt where
  K : PySem.W.Frag
  mg : Str → Option Value
  cls : Nat → Addr
  exc : Nat → Value
  names : List Str
  T : List NdefX.NTab

def FvRep (K : PySem.W.Frag) (W : Wd) (r : Role) : Fv → V → Prop
  | .val x, v => Rep K W x v
  | .ol xs, v => ∃ a vs, v = .ref a ∧ W.Γ a = r ∧ W.H a = some (.lst vs) ∧ Reps K W xs vs
  | .od false kvs, v => ∃ a ks, v = .ref a ∧ W.Γ a = r ∧ Rd W.H a (.dK ks) ∧ RepK K W kvs ks
  | .od true kvs, v => ∃ a ks, v = .ref a ∧ W.Γ a = r ∧ Rd W.H a (.dT ks) ∧ RepT K W kvs ks
def Fv.own : Fv → Bool
  | .val _ => false
  | _ => true
theorem FvRep.extR {K : PySem.W.Frag} {p : Bool} {S : Role → Bool} {W W' : Wd} {r : Role} (e : ExtR p S W W') (h0 : S .no = false) (h1' : S .froz = false) (ht : S r = false) (hp : p = true ∨ r.still = true) : ∀ (x : Fv) (v : V), FvRep K W r x v → FvRep K W' r x v
  | .val x, v, h => Rep.extR e h0 h1' x v h
  | .ol xs, v, h => by
    obtain ⟨a, vs, e1, g, h1, h2⟩ := h
    exact ⟨a, vs, e1, (e.role a (by rw [h1]; simp) (by rw [g]; exact ht)).trans g, e.keep a _ h1 (fun _ z => nomatch z) (by rw [g]; exact ht) (by rw [g]; exact hp), Reps.extR e h0 h1' _ _ h2⟩
  | .od false kvs, v, h => by
    obtain ⟨a, ks, e1, g, h1, h2⟩ := h
    exact ⟨a, ks, e1, (e.role a (rd_some h1) (by rw [g]; exact ht)).trans g, rd_keep e (by rw [g]; exact ht) (by rw [g]; exact hp) (fun _ z => nomatch z) h1, RepK.extR e h0 h1' _ _ h2⟩
  | .od true kvs, v, h => by
    obtain ⟨a, ks, e1, g, h1, h2⟩ := h
    exact ⟨a, ks, e1, (e.role a (rd_some h1) (by rw [g]; exact ht)).trans g, rd_keep e (by rw [g]; exact ht) (by rw [g]; exact hp) (fun _ z => nomatch z) h1, RepT.extR e h0 h1' _ _ h2⟩
def FldsRep (kt : Kt) (W : Wd) (i : Nat) : List (Nat × Fv) → List (Str × V) → Prop
  | [], fv => fv = []
  | (f, x) :: fs, fv => ∃ nm v r, kt.names[f]? = some nm ∧ fv = (nm, v) :: r ∧ FvRep kt.K W (.fld i f) x v ∧ FldsRep kt W i fs r
theorem FldsRep.extR {kt : Kt} {S : Role → Bool} {W W' : Wd} {i : Nat} (e : ExtR true S W W') (h0 : S .no = false) (h1' : S .froz = false) (hf : ∀ f, S (.fld i f) = false) : ∀ (fs : List (Nat × Fv)) (fv : List (Str × V)), FldsRep kt W i fs fv → FldsRep kt W' i fs fv
  | [], _, h => h
  | (f, x) :: fs, fv, h => by
    obtain ⟨nm, v, r, hn, e1, h1, h2⟩ := h
    exact ⟨nm, v, r, hn, e1, FvRep.extR e h0 h1' (hf f) (.inl rfl) _ _ h1, FldsRep.extR e h0 h1' hf fs r h2⟩
/-- of a class's instances: it is plain, none of its own names is a field's -/
def FldsOk (kt : Kt) (C : Nat) (fs : List (Nat × Fv)) : Prop := Cls kt.K (kt.cls C) ∧ ∀ f nm, f ∈ fs.map (·.1) → kt.names[f]? = some nm → NoAttr kt.K (kt.cls C) nm
/-- a dict's pairs as they lie -/
def DRep (K : PySem.W.Frag) (W : Wd) (t : Bool) (kvs : List (Vl × Vl)) (u : HO) : Prop := match t with
  | false => ∃ ks, u = .dK ks ∧ RepK K W kvs ks
  | true => ∃ ks, u = .dT ks ∧ RepT K W kvs ks
def DAt (W : Wd) (a : Addr) (lk : Bool) (u : HO) : Prop := match lk with
  | false => W.H a = some u
  | true => ∃ o, W.H a = some (.frz o u)
theorem DRep.extR {K : PySem.W.Frag} {p : Bool} {S : Role → Bool} {W W' : Wd} {t : Bool} {kvs : List (Vl × Vl)} {u : HO} (e : ExtR p S W W') (h0 : S .no = false) (h1' : S .froz = false) (h : DRep K W t kvs u) : DRep K W' t kvs u := by
  cases t with
  | false => obtain ⟨ks, e1, r⟩ := h; exact ⟨ks, e1, RepK.extR e h0 h1' _ _ r⟩
  | true => obtain ⟨ks, e1, r⟩ := h; exact ⟨ks, e1, RepT.extR e h0 h1' _ _ r⟩
theorem DRep.ext {K : PySem.W.Frag} {p : Bool} {W W' : Wd} {t : Bool} {kvs : List (Vl × Vl)} {u : HO} (e : Ext p W W') (h : DRep K W t kvs u) : DRep K W' t kvs u := h.extR e.toR rfl rfl
theorem DRep.plain {K : PySem.W.Frag} {W : Wd} {t : Bool} {kvs : List (Vl × Vl)} {u : HO} (h : DRep K W t kvs u) : ∀ ps, u ≠ .tbl ps := fun ps z => by
  cases t <;> obtain ⟨ks, e1, r⟩ := h <;> rw [e1] at z <;> cases z
theorem DAt.some {W : Wd} {a : Addr} {lk : Bool} {u : HO} (h : DAt W a lk u) : W.H a ≠ none := by
  cases lk with
  | false => have h : W.H a = _ := h; rw [h]; simp
  | true => obtain ⟨o, h⟩ := h; rw [h]; simp
theorem DAt.rd {W : Wd} {a : Addr} {lk : Bool} {u : HO} (h : DAt W a lk u) : Rd W.H a u := by
  cases lk with
  | false => exact .inl h
  | true => exact .inr h
theorem DAt.keep {S : Role → Bool} {W W' : Wd} {a : Addr} {lk : Bool} {u : HO} (e : ExtR true S W W') (hs : S (W.Γ a) = false) (nt : ∀ ps, u ≠ .tbl ps) (h : DAt W a lk u) : DAt W' a lk u := by
  cases lk with
  | false => exact e.keep a u h nt hs (.inl rfl)
  | true => obtain ⟨o, h⟩ := h; exact ⟨o, e.frz a o u h hs⟩
theorem DAt.same {W W' : Wd} {a : Addr} {lk : Bool} {u : HO} (e : W'.H a = W.H a) (h : DAt W a lk u) : DAt W' a lk u := by
  cases lk with
  | false => exact e.trans h
  | true => obtain ⟨o, h⟩ := h; exact ⟨o, e.trans h⟩
def ObRep (kt : Kt) (W : Wd) (i : Nat) (a : Addr) : Ob → Prop
  | .dct lk t kvs => ∃ u, DRep kt.K W t kvs u ∧ DAt W a lk u
  | .lst xs => ∃ vs, W.H a = some (.lst vs) ∧ Reps kt.K W xs vs
  | .ins C fs => ∃ dx fv, W.H a = some (.ins (kt.cls C) dx fv) ∧ FldsRep kt W i fs fv ∧ FldsOk kt C fs
structure RG (kt : Kt) (W : Wd) (G : Gst) : Prop where
  len : W.ρ.length = G.length
  ob : ∀ i o, G[i]? = some o → ∃ a, W.ρ[i]? = some a ∧ W.Γ a = .obj i ∧ ObRep kt W i a o
structure WOk (kt : Kt) (W : Wd) (G : Gst) : Prop where
  tr : ∀ a, W.Γ a ≠ .no → W.H a ≠ none
  rg : RG kt W G
  tabs : NdefX.TabsN kt.T W.H
  tb : ∀ b ps, W.H b = some (.tbl ps) → True
/-- no list, no dict of a slot's or a field's own is locked by a walk -/
def Role.lockable : Role → Bool
  | .slot _ => false
  | .fld _ _ => false
  | _ => true
def NoLock (W : Wd) : Prop := ∀ a o u, W.H a = some (.frz o u) → (W.Γ a).lockable = true
structure Bs where
  W0 : Wd
  p : Bool
  lk : Bool
structure RE (kt : Kt) (H0 : Hp) (W : Wd) (σ : L2.St) (env : LEnv) : Prop where
  len : env.length = σ.length
  sl : ∀ i fv, env[i]? = some (some fv) → ∃ v, σ[i]? = some (some v) ∧ FvRep kt.K W (.slot i) fv v ∧ (fv.own = true → ∀ a, v = .ref a → H0 a = none)
structure RAll (kt : Kt) (B : Bs) (W : Wd) (σ : L2.St) (env : LEnv) (G : Gst) : Prop where
  ok : WOk kt W G
  re : RE kt B.W0.H W σ env
  si : Ext B.p B.W0 W
  nl : B.lk = false → NoLock W
/-- a new object is told of -/
def Wd.alloc (W : Wd) (p : Addr) (o : HO) (r : Role) : Wd := ⟨fun a => if a = p then r else W.Γ a, W.ρ, upd W.H p o⟩
/-- what may be laid anew -/
def okO : HO → Bool
  | .lst _ => true
  | .tup _ => true
  | .dK _ => true
  | .dT _ => true
  | .frz _ (.tup _) => true
  | .frz _ (.dK _) => true
  | .frz _ (.dT _) => true
  | .rng _ _ => true
  | _ => false
/-- .. at that role -/
def okA (o : HO) (r : Role) : Bool := match o with
  | .frz _ _ => decide (r = .no ∨ r = .froz)
  | _ => true
def okR : Role → Bool
  | .no => true
  | .froz => true
  | .slot _ => true
  | _ => false
section
variable {kt : Kt} {B : Bs} {W W' : Wd} {σ : L2.St} {env : LEnv} {G : Gst} {p : Addr} {o : HO} {r : Role}
theorem Ext.alloc (hp : W.H p = none) : Ext true W (W.alloc p o r) where
  role := fun a ha => if_neg (fun e => ha (by rw [e]; exact hp))
  keep := fun a u h _ _ => (upd_ne (ne_of_none h hp)).trans h
  tups := fun a xs h => (upd_ne (ne_of_none h hp)).trans h
  frz := fun a o u h => (upd_ne (ne_of_none h hp)).trans h
  there := fun a h => by
    show upd W.H p o a ≠ none
    rw [upd_ne (fun e => h (by rw [e]; exact hp))]; exact h
  pre := ⟨[], by simp [Wd.alloc]⟩
theorem RE.extR {H0 : Hp} (h : RE kt H0 W σ env) {q : Bool} {S : Role → Bool} (e : ExtR q S W W') (h0 : S .no = false) (h1' : S .froz = false) (hs : ∀ i, S (.slot i) = false) : RE kt H0 W' σ env :=
  ⟨h.len, fun i fv hi => let ⟨v, a, b, c⟩ := h.sl i fv hi; ⟨v, a, FvRep.extR e h0 h1' (hs i) (.inr rfl) _ _ b, c⟩⟩
theorem RE.ext {H0 : Hp} (h : RE kt H0 W σ env) {q : Bool} (e : Ext q W W') : RE kt H0 W' σ env := h.extR e.toR rfl rfl fun _ => rfl
theorem RG.extR (h : RG kt W G) {S : Role → Bool} (e : ExtR true S W W') (h0 : S .no = false) (h1' : S .froz = false) (ho : ∀ i, S (.obj i) = false) (hf : ∀ i f, S (.fld i f) = false) (hr : W'.ρ = W.ρ) : RG kt W' G := by
  refine ⟨by rw [hr]; exact h.len, fun i o hi => ?_⟩
  obtain ⟨a, h1, h2, h3⟩ := h.ob i o hi
  refine ⟨a, by rw [hr]; exact h1, ?_, ?_⟩
  · refine (e.role a ?_ (by rw [h2]; exact ho i)).trans h2
    cases o with
    | lst xs => obtain ⟨vs, q, _⟩ := h3; rw [q]; simp
    | dct lk t kvs => obtain ⟨u, _, q⟩ := h3; exact q.some
    | ins C fs => obtain ⟨dx, fv, q, _⟩ := h3; rw [q]; simp
  · cases o with
    | lst xs =>
      obtain ⟨vs, q, z⟩ := h3
      exact ⟨vs, e.keep a _ q (fun _ z => nomatch z) (by rw [h2]; exact ho i) (.inl rfl), Reps.extR e h0 h1' _ _ z⟩
    | dct lk t kvs =>
      obtain ⟨u, q, z⟩ := h3
      exact ⟨u, q.extR e h0 h1', z.keep e (by rw [h2]; exact ho i) q.plain⟩
    | ins C fs =>
      obtain ⟨dx, fv, q, z, k⟩ := h3
      exact ⟨dx, fv, e.keep a _ q (fun _ z => nomatch z) (by rw [h2]; exact ho i) (.inl rfl), FldsRep.extR e h0 h1' (hf i) _ _ z, k⟩
theorem RG.ext (h : RG kt W G) (e : Ext true W W') (hr : W'.ρ = W.ρ) : RG kt W' G := h.extR e.toR rfl rfl (fun _ => rfl) (fun _ _ => rfl) hr
theorem tabsN_upd {T : List NdefX.NTab} {H : Hp} (h : NdefX.TabsN T H) (hp : H p = none) : NdefX.TabsN T (upd H p o) :=
  h.ext fun b u q => (upd_ne (ne_of_none q hp)).trans q
theorem WOk.alloc (h : WOk kt W G) (hp : W.H p = none) (ho : okO o = true) : WOk kt (W.alloc p o r) G where
  tr := fun a ha => by
    show upd W.H p o a ≠ none
    by_cases e : a = p
    · rw [e, upd_same]; simp
    · rw [upd_ne e]
      refine h.tr a fun z => ha ?_
      show (if a = p then r else W.Γ a) = .no
      rw [if_neg e]; exact z
  rg := h.rg.ext (Ext.alloc hp) rfl
  tabs := tabsN_upd h.tabs hp
  tb := fun b ps q => by
    have q : upd W.H p o b = some (.tbl ps) := q
    by_cases e : b = p
    · rw [e, upd_same] at q; cases q; cases ho
    · rw [upd_ne e] at q; exact h.tb b ps q
theorem NoLock.alloc (h : NoLock W) (ho : okA o r = true) : NoLock (W.alloc p o r) := fun a u z q => by
  have q : upd W.H p o a = some (.frz u z) := q
  by_cases e : a = p
  · rw [e, upd_same] at q
    cases q
    have hr : r = .no ∨ r = .froz := of_decide_eq_true ho
    have g : (W.alloc p (.frz u z) r).Γ a = r := if_pos e
    rw [g]
    rcases hr with hr | hr <;> rw [hr] <;> rfl
  · rw [upd_ne e] at q
    have g : (W.alloc p o r).Γ a = W.Γ a := if_neg e
    rw [g]
    exact h a u z q
theorem RAll.alloc (h : RAll kt B W σ env G) (hp : W.H p = none) (ho : okO o = true) (ha : okA o r = true) : RAll kt B (W.alloc p o r) σ env G :=
  ⟨h.ok.alloc hp ho, h.re.ext (Ext.alloc hp), (h.si.trans (Ext.alloc (o := o) (r := r) hp)).mono (fun z => by rw [z]; rfl), fun z => (h.nl z).alloc ha⟩
end

/-! ### the judgements -/
inductive Md where
  | s | k | f
def Md.lets : Md → Role → Bool
  | .s, _ => false
  | _, .tmp => false
  | .k, .slot _ => true
  | .k, _ => false
  | .f, _ => true
/-- a value, or a list, a dict that a slot, a field owns, looked at in place -/
def Pk (K : PySem.W.Frag) (W : Wd) (m : Md) (x : Vl) (v : V) : Prop := Rep K W x v ∨ ∃ r fv, m.lets r = true ∧ fv.toVl = x ∧ FvRep K W r fv v
theorem Pk.ext {K : PySem.W.Frag} {p : Bool} {W W' : Wd} {m : Md} {x : Vl} {v : V} (e : Ext p W W') (hp : p = true ∨ m ≠ .f) (h : Pk K W m x v) : Pk K W' m x v := by
  rcases h with h | ⟨r, fv, h1, h2, h3⟩
  · exact .inl (h.ext e)
  · refine .inr ⟨r, fv, h1, h2, FvRep.extR e.toR rfl rfl rfl ?_ _ _ h3⟩
    rcases hp with hp | hp
    · exact .inl hp
    · right
      cases m <;> cases r <;> first | rfl | exact absurd rfl hp | cases h1
theorem Pk.strict {K : PySem.W.Frag} {W : Wd} {x : Vl} {v : V} (h : Pk K W .s x v) : Rep K W x v := by
  rcases h with h | ⟨r, fv, h1, _⟩
  · exact h
  · cases h1
theorem Pk.any {K : PySem.W.Frag} {W : Wd} {m : Md} {x : Vl} {v : V} (h : Pk K W m x v) : Pk K W .f x v := h.imp id fun ⟨r, fv, h1, h2, h3⟩ => ⟨r, fv, by cases m <;> cases r <;> (first | rfl | (cases h1)), h2, h3⟩
theorem Pk.weak {K : PySem.W.Frag} {W : Wd} {m : Md} {x : Vl} {v : V} (h : Pk K W .s x v) : Pk K W m x v := .inl h.strict

/-- what lies with an exception -/
def ExOk (c : Ex) (od : Option Addr) (H : Hp) : Prop := match c.row with
  | none => True
  | some i => ∃ d, od = some d ∧ H d = some (.xd [("row", .int i)])

/-- what names this is unfolded ahead of what does not -/
def hgt0 : Nat := Nat.zero
def hgt1 : Nat := hgt0
def hgt2 : Nat := hgt1
def hgt3 : Nat := hgt2
def R.bind {α β : Type} (r : R α) (f : α → Gst → R β) : R β := (fun _ : Nat => match r with
  | .ok a G => f a G
  | .exn c G => .exn c G
  | .bad => .bad) hgt3
@[simp] theorem R.bind_ok {α β : Type} (a : α) (G : Gst) (f : α → Gst → R β) : (R.ok a G).bind f = f a G := rfl
@[simp] theorem R.bind_exn {α β : Type} (c : Ex) (G : Gst) (f : α → Gst → R β) : (R.exn c G : R α).bind f = .exn c G := rfl
@[simp] theorem R.bind_bad {α β : Type} (f : α → Gst → R β) : (R.bad : R α).bind f = .bad := rfl

section
variable (kt : Kt) (B : Bs) (p : Bool) (σ : L2.St) (env : LEnv) (W : Wd) (Wish : WX)
/-- what is wanted behind r; Z: how the answer lies -/
def PoX {α β : Type} (Z : Wd → α → β → Prop) (r : R α) (Q : β → Hp → Prop) : Prop := match r with
  | .bad => False
  | .ok x G' => ∀ W' v, Ext p W W' → RAll kt B W' σ env G' → Z W' x v → Q v W'.H
  | .exn c G' => ∀ W' od, Ext p W W' → RAll kt B W' σ env G' → ExOk c od W'.H → Wish (kt.exc c.cls) od σ W'.H
def rdX {α β : Type} (Z : Wd → α → β → Prop) (d : LEnv → Gst → R α) : L2.St → Hp → (β → Hp → Prop) → Prop := fun σ H Q =>
  ∃ W env G, W.H = H ∧ RAll kt B W σ env G ∧ PoX kt B p σ env W Wish Z (d env G) Q
end
def ZB : Wd → Bool → Bool → Prop := fun _ a b => a = b
section
variable {kt : Kt} {B : Bs} {p q : Bool} {σ : L2.St} {env : LEnv} {W W1 : Wd} {Wish : WX} {α β γ δ : Type} {Z : Wd → α → β → Prop} {Z' : Wd → γ → δ → Prop}
theorem PoX.mono {r : R α} {Q Q' : β → Hp → Prop} (h : PoX kt B p σ env W Wish Z r Q) (hq : ∀ v H, Q v H → Q' v H) : PoX kt B p σ env W Wish Z r Q' := by
  cases r with
  | bad => exact h
  | exn c G => exact h
  | ok x G => exact fun W' v e A z => hq _ _ (h W' v e A z)
theorem PoX.shift {r : R α} {Q : β → Hp → Prop} (h : PoX kt B (p && q) σ env W Wish Z r Q) (e : Ext p W W1) : PoX kt B q σ env W1 Wish Z r Q := by
  cases r with
  | bad => exact h
  | exn c G => exact fun W' od e' A z => h W' od (e.trans e') A z
  | ok x G => exact fun W' v e' A z => h W' v (e.trans e') A z
theorem PoX.bindE {r : R α} {f : α → Gst → R γ} {Q : δ → Hp → Prop} (h : PoX kt B (p && q) σ env W Wish Z' (r.bind f) Q) :
    PoX kt B p σ env W Wish Z r (fun v H1 => ∃ W1 x G1, W1.H = H1 ∧ Ext p W W1 ∧ RAll kt B W1 σ env G1 ∧ Z W1 x v ∧ PoX kt B q σ env W1 Wish Z' (f x G1) Q) := by
  cases r with
  | bad => exact h
  | exn c G => exact fun W' od e A z => h W' od (e.mono fun z => (Bool.and_eq_true _ _ ▸ z).1) A z
  | ok x G => exact fun W' v e A z => ⟨W', x, G, rfl, e, A, z, PoX.shift h e⟩
end

theorem _root_.L2.PE.imp {X : Cx} {e : Expr} {t t' : TE} (h : PE X e t) (i : ∀ σ H Q, t' σ H Q → t σ H Q) : PE X e t' := ⟨fun pins s σ H Q I q => h.run pins s σ H Q I (i σ H Q q)⟩
theorem _root_.L2.PT.imp {X : Cx} {e : Expr} {t t' : TT} (h : PT X e t) (i : ∀ σ H Q, t' σ H Q → t σ H Q) : PT X e t' := ⟨fun pins s σ H Q I q => h.run pins s σ H Q I (i σ H Q q)⟩
theorem _root_.L2.PW.imp {X : Cx} {e : Expr} {t t' : TT} (h : PW X e t) (i : ∀ σ H Q, t' σ H Q → t σ H Q) : PW X e t' := ⟨fun w pins s σ H Q I q => h.run w pins s σ H Q I (i σ H Q q)⟩
theorem _root_.L2.PA.imp {X : Cx} {e : List Expr} {t t' : TA} (h : PA X e t) (i : ∀ σ H Q, t' σ H Q → t σ H Q) : PA X e t' := ⟨fun pos pins s σ H Q I q => h.run pos pins s σ H Q I (i σ H Q q)⟩
theorem _root_.L2.PS.imp {X : Cx} {e : Stmt} {t t' : TS} (h : PS X e t) (i : ∀ D σ H, t' D σ H → t D σ H) : PS X e t' := ⟨fun pins s σ H D I q => h.run pins s σ H D I (i D σ H q)⟩
theorem _root_.L2.PSs.imp {X : Cx} {e : List Stmt} {t t' : TS} (h : PSs X e t) (i : ∀ D σ H, t' D σ H → t D σ H) : PSs X e t' := ⟨fun pins s σ H D I q => h.run pins s σ H D I (i D σ H q)⟩

/-- e as d; p: changes nothing that stood; m: how the answer may lie -/
def SX (kt : Kt) (B : Bs) (X : Cx) (p : Bool) (m : Md) (e : Expr) (d : DE) : Prop := ∀ Wish, Takes X Wish → PE X e (rdX kt B p Wish (fun W x v => Pk kt.K W m x v) d)
def ST (kt : Kt) (B : Bs) (X : Cx) (p : Bool) (e : Expr) (d : DT) : Prop := ∀ Wish, Takes X Wish → PT X e (rdX kt B p Wish ZB d)
def SW (kt : Kt) (B : Bs) (X : Cx) (p : Bool) (e : Expr) (d : DT) : Prop := ∀ Wish, Takes X Wish → PW X e (rdX kt B p Wish ZB d)
def SA (kt : Kt) (B : Bs) (X : Cx) (p : Bool) (es : List Expr) (d : DA) : Prop := ∀ Wish, Takes X Wish → PA X es (rdX kt B p Wish (fun W x v => Reps kt.K W x v) d)
end CardH
end
section
set_option maxHeartbeats 2000000
namespace CardH
open PySem PySem.Spec PyProof.Rows L2

/-! ### how values lie -/
section
variable {K : PySem.W.Frag} {W : Wd} {m : Md} {v : V}
theorem Pk.val {x : Vl} (h : Pk K W m x v) (h1 : ∀ xs, x ≠ .lst xs) (h2 : ∀ t kvs, x ≠ .dct t kvs) : Rep K W x v := by
  rcases h with h | ⟨r, fv, _, e, h⟩
  · exact h
  · cases fv with
    | val y => cases e; exact h
    | ol xs => exact absurd e.symm (h1 xs)
    | od t kvs => exact absurd e.symm (h2 t kvs)
theorem Pk.int {i : Int} (h : Pk K W m (.int i) v) : v = .int i := h.val (fun _ z => nomatch z) fun _ _ z => nomatch z
theorem Pk.bl {b : Bool} (h : Pk K W m (.bl b) v) : v = .bl b := h.val (fun _ z => nomatch z) fun _ _ z => nomatch z
theorem Pk.non (h : Pk K W m .non v) : v = .non := h.val (fun _ z => nomatch z) fun _ _ z => nomatch z
theorem Pk.str {x : Str} (h : Pk K W m (.str x) v) : v = .str x ∧ okStr x = true := h.val (fun _ z => nomatch z) fun _ _ z => nomatch z
theorem Pk.tup' {xs : List Vl} (h : Pk K W m (.tup xs) v) : ∃ a vs o, v = .ref a ∧ W.Γ a = .no ∧ W.H a = some (.frz o (.tup vs)) ∧ o.dict = none ∧ Reps K W xs vs := h.val (fun _ z => nomatch z) fun _ _ z => nomatch z
theorem Pk.tup {xs : List Vl} (h : Pk K W m (.tup xs) v) : ∃ a vs, v = .ref a ∧ SqT K W.H a vs ∧ Reps K W xs vs := by
  obtain ⟨a, vs, o, e, _, t, _, r⟩ := h.tup'
  exact ⟨a, vs, e, .inl (.inr ⟨o, t⟩), r⟩
theorem Pk.stp {xs : List Vl} (h : Pk K W m (.stp xs) v) : ∃ a vs, v = .ref a ∧ SqT K W.H a vs ∧ Reps K W xs vs := by
  obtain ⟨a, vs, e, t, r⟩ := h.val (fun _ z => nomatch z) fun _ _ z => nomatch z
  exact ⟨a, vs, e, SqT.of t, r⟩
theorem Pk.ktp {xs : List Vl} (h : Pk K W m (.ktp xs) v) : ∃ a vs, v = .ref a ∧ SqT K W.H a vs ∧ Reps K W xs vs := by
  obtain ⟨a, vs, e, t, r⟩ := h.val (fun _ z => nomatch z) fun _ _ z => nomatch z
  exact ⟨a, vs, e, .inr t, r⟩
theorem Pk.ref {i : Nat} (h : Pk K W m (.ref i) v) : ∃ a, v = .ref a ∧ W.ρ[i]? = some a := h.val (fun _ z => nomatch z) fun _ _ z => nomatch z
theorem Pk.scr {ns : List Int} (h : Pk K W m (.scr ns) v) : ∃ a, v = .ref a ∧ SqL K W.H a (ns.map V.int) := by
  obtain ⟨a, e, t⟩ := h.val (fun _ z => nomatch z) fun _ _ z => nomatch z
  exact ⟨a, e, t.imp (fun z => z.2) id⟩
theorem Pk.lst {xs : List Vl} (h : Pk K W m (.lst xs) v) : ∃ a vs, v = .ref a ∧ W.H a = some (.lst vs) ∧ Reps K W xs vs := by
  rcases h with h | ⟨r, fv, _, e, h⟩
  · obtain ⟨a, vs, e, _, t, r⟩ := h
    exact ⟨a, vs, e, t, r⟩
  · cases fv with
    | val y =>
      cases e
      obtain ⟨a, vs, e, _, t, r⟩ := h
      exact ⟨a, vs, e, t, r⟩
    | ol ys =>
      cases e
      obtain ⟨a, vs, e, _, t, r⟩ := h
      exact ⟨a, vs, e, t, r⟩
    | od t kvs => cases e
theorem Pk.dK {kvs : List (Vl × Vl)} (h : Pk K W m (.dct false kvs) v) : ∃ a ks, v = .ref a ∧ Rd W.H a (.dK ks) ∧ RepK K W kvs ks := by
  rcases h with h | ⟨r, fv, _, e, h⟩
  · obtain ⟨a, o, vs, e, _, t, r⟩ := h
    exact ⟨a, vs, e, .inr ⟨o, t⟩, r⟩
  · cases fv with
    | val y =>
      cases e
      obtain ⟨a, o, vs, e, _, t, r⟩ := h
      exact ⟨a, vs, e, .inr ⟨o, t⟩, r⟩
    | ol ys => cases e
    | od t kvs' =>
      cases e
      obtain ⟨a, vs, e, _, t, r⟩ := h
      exact ⟨a, vs, e, t, r⟩
theorem Pk.dT {kvs : List (Vl × Vl)} (h : Pk K W m (.dct true kvs) v) : ∃ a ks, v = .ref a ∧ Rd W.H a (.dT ks) ∧ RepT K W kvs ks := by
  rcases h with h | ⟨r, fv, _, e, h⟩
  · obtain ⟨a, o, vs, e, _, t, r⟩ := h
    exact ⟨a, vs, e, .inr ⟨o, t⟩, r⟩
  · cases fv with
    | val y =>
      cases e
      obtain ⟨a, o, vs, e, _, t, r⟩ := h
      exact ⟨a, vs, e, .inr ⟨o, t⟩, r⟩
    | ol ys => cases e
    | od t kvs' =>
      cases e
      obtain ⟨a, vs, e, _, t, r⟩ := h
      exact ⟨a, vs, e, t, r⟩
end
section
variable {kt : Kt} {B : Bs} {W : Wd} {σ : L2.St} {env : LEnv} {G : Gst} {p : Addr}
theorem new_lst (A : RAll kt B W σ env G) (hp : W.H p = none) {xs : List Vl} {vs : List V} (h : Reps kt.K W xs vs) :
    Ext true W (W.alloc p (.lst vs) .froz) ∧ RAll kt B (W.alloc p (.lst vs) .froz) σ env G ∧ Rep kt.K (W.alloc p (.lst vs) .froz) (.lst xs) (.ref p) :=
  ⟨Ext.alloc hp, A.alloc hp rfl rfl, p, vs, rfl, if_pos rfl, upd_same, h.ext (Ext.alloc hp)⟩
theorem new_tup (A : RAll kt B W σ env G) (hp : W.H p = none) {o : Obj} (hd : o.dict = none) {xs : List Vl} {vs : List V} (h : Reps kt.K W xs vs) :
    Ext true W (W.alloc p (.frz o (.tup vs)) .no) ∧ RAll kt B (W.alloc p (.frz o (.tup vs)) .no) σ env G ∧ Rep kt.K (W.alloc p (.frz o (.tup vs)) .no) (.tup xs) (.ref p) :=
  ⟨Ext.alloc hp, A.alloc hp rfl rfl, p, vs, o, rfl, if_pos rfl, upd_same, hd, h.ext (Ext.alloc hp)⟩
theorem new_stp (A : RAll kt B W σ env G) (hp : W.H p = none) {xs : List Vl} {vs : List V} (h : Reps kt.K W xs vs) :
    Ext true W (W.alloc p (.tup vs) .no) ∧ RAll kt B (W.alloc p (.tup vs) .no) σ env G ∧ Rep kt.K (W.alloc p (.tup vs) .no) (.stp xs) (.ref p) :=
  ⟨Ext.alloc hp, A.alloc hp rfl rfl, p, vs, rfl, upd_same, h.ext (Ext.alloc hp)⟩
theorem new_dK (A : RAll kt B W σ env G) (hp : W.H p = none) {kvs : List (Vl × Vl)} {ks : List (Key × V)} (h : RepK kt.K W kvs ks) (od : Obj) :
    Ext true W (W.alloc p (.frz od (.dK ks)) .froz) ∧ RAll kt B (W.alloc p (.frz od (.dK ks)) .froz) σ env G ∧ Rep kt.K (W.alloc p (.frz od (.dK ks)) .froz) (.dct false kvs) (.ref p) :=
  ⟨Ext.alloc hp, A.alloc hp rfl (by simp [okA]), p, od, ks, rfl, if_pos rfl, upd_same, h.ext (Ext.alloc hp)⟩
theorem new_dT (A : RAll kt B W σ env G) (hp : W.H p = none) {kvs : List (Vl × Vl)} {ks : List (List Key × V)} (h : RepT kt.K W kvs ks) (od : Obj) :
    Ext true W (W.alloc p (.frz od (.dT ks)) .froz) ∧ RAll kt B (W.alloc p (.frz od (.dT ks)) .froz) σ env G ∧ Rep kt.K (W.alloc p (.frz od (.dT ks)) .froz) (.dct true kvs) (.ref p) :=
  ⟨Ext.alloc hp, A.alloc hp rfl (by simp [okA]), p, od, ks, rfl, if_pos rfl, upd_same, h.ext (Ext.alloc hp)⟩
end

/-! ### tuples laid anew: their objects are known -/
section
variable {X : Cx}
/-- t + u, a new one known -/
def rCatP (K : PySem.W.Frag) : R2 := fun x y H Q => ∃ a b xs ys, x = .ref a ∧ y = .ref b ∧ SqT K H a xs ∧ SqT K H b ys ∧ xs.length + ys.length ≤ sizeLine ∧
  (xs = [] → Q (.ref b) H) ∧ (xs ≠ [] → ys = [] → Q (.ref a) H) ∧ (xs ≠ [] → ys ≠ [] → ∀ p o, H p = none → o.dict = none → Q (.ref p) (upd H p (.frz o (.tup (xs ++ ys)))))
theorem op_catP : OpR X (binaryOp .Add) (rCatP X.K) := by
  intro pins s σ H x y v u Q I rx ry h
  obtain ⟨a, b, xs, ys, rfl, rfl, ha, hb, hz, q0, q1, q2⟩ := h
  cases rx
  cases ry
  obtain ⟨its, r1, p1, _⟩ := I.tuple ha
  obtain ⟨its2, r2, p2, _⟩ := I.tuple hb
  by_cases hx : xs = []
  · subst hx
    cases r1
    exact cat_tup0 p1 p2 ⟨.ref b, H, I, rfl, q0 rfl⟩
  · refine HT.cat_tup p1 p2 (fun z => hx (r1.nil_iff.mp z)) (fun z => ⟨.ref a, H, I, rfl, q1 hx (r2.nil_iff.mp z)⟩) (fun z => ?_) (by rw [← r1.length, ← r2.length]; exact hz)
    refine ⟨.ref s.heap.objs.size, upd _ _ (.frz { cls := .type "tuple", data := .seq (its ++ its2).toArray } (.tup (xs ++ ys))), I.laid (t' := s.toks) (fun b ob q => Heap.get?_push_of_some _ q) (Nat.le_refl _) ?_, rfl, q2 hx (fun w => z (r2.nil_iff.mpr w)) _ _ (I.hok.fresh (Nat.le_refl _)) rfl⟩
    exact ⟨Heap.get?_push_size _ rfl, by rw [List.length_append]; exact hz, _, r1.append r2, IsTup.new _ _⟩
/-- t[lo:hi] -/
def rSlP (K : PySem.W.Frag) : V → Option Int → Option Int → Hp → VK → Prop := fun x lo hi H Q => ∃ a xs, x = .ref a ∧ SqT K H a xs ∧
  (HT.sIx xs.length 0 lo = 0 ∧ HT.sIx xs.length xs.length hi = xs.length → Q (.ref a) H) ∧ (¬ (HT.sIx xs.length 0 lo = 0 ∧ HT.sIx xs.length xs.length hi = xs.length) → ∀ p o, H p = none → o.dict = none → Q (.ref p) (upd H p (.frz o (.tup (cutV xs lo hi)))))
theorem sl_tupP : SlR X (rSlP X.K) := by
  intro pins s σ H x v vl vu lo hi sl Q I rx hs pl pu h
  obtain ⟨a, xs, rfl, hx, q1, q2⟩ := h
  cases rx
  obtain ⟨its, r, ht, hz⟩ := I.tuple hx
  have hlen : its.toArray.size = xs.length := by rw [List.size_toArray]; exact r.length.symm
  refine ⟨"tuple", _, PyProof.Rows.slot_tuple_getitem.lookup, ht.typeIs, ?_⟩
  by_cases hw : HT.sIx xs.length 0 lo = 0 ∧ HT.sIx xs.length xs.length hi = xs.length
  · exact getItem_tuple_whole ht hs pl pu (by rw [hlen]; exact hw) ⟨.ref a, H, I, rfl, q1 hw⟩
  · refine HT.getItem_tuple_cut ht hs pl pu (by rw [hlen]; exact hw) ?_ (by rw [hlen]; exact hz)
    rw [hlen]
    refine ⟨.ref s.heap.objs.size, upd _ _ (.frz { cls := .type "tuple", data := .seq (List.take (HT.sIx xs.length xs.length hi - HT.sIx xs.length 0 lo) (List.drop (HT.sIx xs.length 0 lo) its.toArray.toList)).toArray } (.tup (cutV xs lo hi))), I.laid (t' := s.toks) (fun b ob q => Heap.get?_push_of_some _ q) (Nat.le_refl _) ?_, rfl, q2 hw _ _ (I.hok.fresh (Nat.le_refl _)) rfl⟩
    exact ⟨Heap.get?_push_size _ rfl, Nat.le_trans (cutV_length xs lo hi) hz, _, (r.drop (HT.sIx xs.length 0 lo)).take (HT.sIx xs.length xs.length hi - HT.sIx xs.length 0 lo), IsTup.new _ _⟩
/-- tuple(x), x a list or a tuple -/
theorem call_tupleP : CallR X (.type "tuple") (fun xs H Q => ∃ p ys, xs = [.ref p] ∧ ((SqL X.K H p ys ∧ ∀ l o, H l = none → o.dict = none → Q (.ref l) (upd H l (.frz o (.tup ys)))) ∨ (SqT X.K H p ys ∧ Q (.ref p) H))) := by
  intro pins s σ H xs us Q I r h
  obtain ⟨p, ys, rfl, h⟩ := h
  obtain ⟨u, rfl, rx⟩ := vals1 r
  cases rx
  rcases h with ⟨hq, q⟩ | ⟨hq, q⟩
  · obtain ⟨its, r', pl, hz⟩ := I.list hq
    have hlen := r'.length
    refine call_tuple_list pl.isList (fun h' kp => ?_) (by simp only [List.size_toArray] <;> omega)
    have I1 : Inv X pins σ H { s with heap := h' } := I.kept (t' := s.toks) kp
    have I2 := I1.laid (t' := s.toks) (h' := h'.push { cls := .type "tuple", data := .seq its.toArray }) (a := h'.objs.size) (o := .frz { cls := .type "tuple", data := .seq its.toArray } (.tup ys)) (fun b o e => Heap.get?_push_of_some _ e) (Nat.le_refl _)
      ⟨Heap.get?_push_size _ rfl, hz, its, r', IsTup.new _ _⟩
    exact ⟨.ref h'.objs.size, _, I2, rfl, q _ _ (I1.hok.fresh (Nat.le_refl _)) rfl⟩
  · obtain ⟨its, r', pl, hz⟩ := I.tuple hq
    exact call_tuple_same pl ⟨.ref p, H, I, rfl, q⟩
/-- a tuple of written items -/
def tTupP (t : TA) : TE := fun σ H Q => t σ H fun xs H1 => xs.length ≤ sizeLine ∧ ∀ p o, H1 p = none → o.dict = none → Q (.ref p) (upd H1 p (.frz o (.tup xs)))
theorem pe_tupP {es : List Expr} {t : TA} {pos : Pos} {x1} (h : PA X es t) : PE X (.Tuple es x1 pos) (tTupP t) := by
  refine ⟨fun pins s σ H Q I hq => ?_⟩
  refine wpAny_Tuple_spliced (thn (h.run pos pins s σ H _ I hq) fun us s1 ⟨xs, H1, I1, r, z, q⟩ => ⟨by rw [← r.length]; exact z, ?_⟩)
  have hf : H1 s1.heap.objs.size = none := I1.hok.fresh (Nat.le_refl _)
  refine ⟨.ref s1.heap.objs.size, upd _ _ (.frz { cls := .type "tuple", data := .seq us.toArray } (.tup xs)), I1.laid (t' := s1.toks) (o := .frz { cls := .type "tuple", data := .seq us.toArray } (.tup xs)) (fun b u e => Heap.get?_push_of_some _ e) (Nat.le_refl _) ?_, rfl, q _ _ hf rfl⟩
  exact ⟨Heap.get?_push_size _ rfl, z, us, r, ⟨_, Heap.get?_push_size _ rfl, rfl, _, rfl⟩⟩
end

theorem okStr_append {a b : Str} (h : okStr a = true) (g : okStr b = true) : okStr (a ++ b) = true := by
  show (a.cps ++ b.cps).all _ = true
  rw [Array.all_append]
  simp only [okStr] at h g
  rw [h, g]; rfl

/-! ### operators on values -/
def OpS (kt : Kt) (X : Cx) (f : Value → Value → Sem Value) (o : Vl → Vl → Option Vl) : Prop :=
  ∃ r : R2, OpR X f r ∧ ∀ (B : Bs) (σ : L2.St) (env : LEnv) (G : Gst) (W : Wd) (x y : Vl) (v u : V) (z : Vl) (Q : VK), RAll kt B W σ env G → Pk kt.K W .f x v → Pk kt.K W .f y u → o x y = some z →
    (∀ W' w, Ext true W W' → RAll kt B W' σ env G → Rep kt.K W' z w → Q w W'.H) → r v u W.H Q

def vAdd : Vl → Vl → Option Vl
  | .int i, .int j => some (.int (i + j))
  | .str a, .str b => if a.length + b.length ≤ 16777216 then some (.str (a ++ b)) else none
  | .tup a, .tup b => if a.length + b.length ≤ 16777216 then some (.tup (a ++ b)) else none
  | .lst a, .lst b => if a.length + b.length ≤ 16777216 then some (.lst (a ++ b)) else none
  | _, _ => none
section
variable {kt : Kt} {X : Cx}
theorem ops_add (hK : X.K = kt.K := by rfl) : OpS kt X (binaryOp .Add) vAdd := by
  refine ⟨_, op_add.or (op_add_str.or (op_catP.or op_cat)), fun B σ env G W x y v u z Q A hx hy e q => ?_⟩
  unfold vAdd at e
  split at e
  · cases e
    obtain rfl := hx.int; obtain rfl := hy.int
    exact .inl ⟨_, _, rfl, rfl, q W _ Ext.refl A rfl⟩
  · split at e
    · cases e
      obtain ⟨rfl, h1⟩ := hx.str; obtain ⟨rfl, h2⟩ := hy.str
      exact .inr (.inl ⟨_, _, rfl, rfl, ‹_›, q W _ Ext.refl A ⟨rfl, okStr_append h1 h2⟩⟩)
    · cases e
  · split at e
    · cases e
      obtain ⟨a, vs, rfl, h1, r1⟩ := hx.tup; obtain ⟨b, us, rfl, h2, r2⟩ := hy.tup
      rename_i xs ys hz
      refine .inr (.inr (.inl ⟨a, b, vs, us, rfl, rfl, by rw [hK]; exact h1, by rw [hK]; exact h2, by rw [← r1.length, ← r2.length]; exact hz, fun z => ?_, fun _ z => ?_, fun _ _ p o hp hd => ?_⟩))
      · subst z
        have e1 : xs = [] := List.length_eq_zero_iff.mp (by rw [r1.length]; rfl)
        subst e1
        exact q W _ Ext.refl A (hy.val (fun _ z => nomatch z) fun _ _ z => nomatch z)
      · subst z
        have e1 : ys = [] := List.length_eq_zero_iff.mp (by rw [r2.length]; rfl)
        subst e1
        rw [List.append_nil] at q
        exact q W _ Ext.refl A (hx.val (fun _ z => nomatch z) fun _ _ z => nomatch z)
      · obtain ⟨e1, a1, r⟩ := new_tup A hp hd (r1.append r2)
        exact q _ _ e1 a1 r
    · cases e
  · split at e
    · cases e
      obtain ⟨a, vs, rfl, h1, r1⟩ := hx.lst; obtain ⟨b, us, rfl, h2, r2⟩ := hy.lst
      rename_i xs ys hz
      refine .inr (.inr (.inr ⟨a, b, vs, us, rfl, rfl, h1, h2, by rw [← r1.length, ← r2.length]; exact hz, fun p hp => ?_⟩))
      obtain ⟨e1, a1, r⟩ := new_lst A hp (r1.append r2)
      exact q _ _ e1 a1 r
    · cases e
  · cases e

/-- an operator of two ints -/
theorem ops_int {f : Value → Value → Sem Value} {C : Int → Int → Prop} {g : Int → Int → Vl} {g' : Int → Int → V} {c : Int → Int → Bool} {o : Vl → Vl → Option Vl} (h : OpR X f (rI C g')) (hc : ∀ i j, c i j = true → C i j)
    (hg : ∀ K W i j, Rep K W (g i j) (g' i j)) (ho : ∀ x y z, o x y = some z → ∃ i j, x = .int i ∧ y = .int j ∧ c i j = true ∧ z = g i j) : OpS kt X f o := by
  refine ⟨_, h, fun B σ env G W x y v u z Q A hx hy e q => ?_⟩
  obtain ⟨i, j, rfl, rfl, hc', rfl⟩ := ho x y z e
  obtain rfl := hx.int; obtain rfl := hy.int
  exact ⟨i, j, rfl, rfl, hc i j hc', q W _ Ext.refl A (hg _ _ i j)⟩
def vInt (c : Int → Int → Bool) (g : Int → Int → Vl) : Vl → Vl → Option Vl
  | .int i, .int j => if c i j = true then some (g i j) else none
  | _, _ => none
theorem vInt_some {c : Int → Int → Bool} {g : Int → Int → Vl} (x y z : Vl) (h : vInt c g x y = some z) : ∃ i j, x = .int i ∧ y = .int j ∧ c i j = true ∧ z = g i j := by
  unfold vInt at h
  split at h
  · split at h
    · cases h; exact ⟨_, _, rfl, rfl, ‹_›, rfl⟩
    · cases h
  · cases h
theorem rI0_rI {f : Value → Value → Sem Value} {g : Int → Int → V} (h : OpR X f (rI0 g)) : OpR X f (rI (fun _ _ => True) g) :=
  fun pins s σ H x y v u Q I rx ry ⟨i, j, e1, e2, _, q⟩ => h pins s σ H x y v u Q I rx ry ⟨i, j, e1, e2, q⟩
def vSub : Vl → Vl → Option Vl
  | .int i, .int j => some (.int (i - j))
  | _, _ => none
theorem ops_sub : OpS kt X (binaryOp .Sub) vSub :=
  ops_int (c := fun _ _ => true) (g := fun i j => .int (i - j)) (rI0_rI op_sub) (fun _ _ _ => trivial) (fun _ _ _ _ => rfl) fun x y z h => by
    unfold vSub at h; split at h
    · cases h; exact ⟨_, _, rfl, rfl, rfl, rfl⟩
    · cases h
/-- bounds, told so that no check counts down -/
def sm62 (i : Int) : Bool := Nat.blt i.natAbs 4611686018427387904
def sm64 (i : Int) : Bool := Nat.blt i.natAbs 18446744073709551616
theorem sm62_ok {i : Int} (h : sm62 i = true) : -(2 ^ 62) ≤ i ∧ i < 2 ^ 62 := by
  unfold sm62 at h
  rw [Nat.blt_eq] at h
  omega
theorem sm64_ok {i : Int} (h : sm64 i = true) : -(2 ^ 64) < i ∧ i < 2 ^ 64 := by
  unfold sm64 at h
  rw [Nat.blt_eq] at h
  omega
theorem sm62_of {i : Int} (h : -4611686018427387904 < i ∧ i < 4611686018427387904) : sm62 i = true := by
  unfold sm62
  rw [Nat.blt_eq]
  omega
theorem sm64_of {i : Int} (h : -18446744073709551616 < i ∧ i < 18446744073709551616) : sm64 i = true := by
  unfold sm64
  rw [Nat.blt_eq]
  omega
/-- one factor at least is small -/
def mulOk (i j : Int) : Bool := sm64 i || sm64 j
theorem mulOk_c {i j : Int} (h : mulOk i j = true) : CMul i j := by
  unfold mulOk at h
  rw [Bool.or_eq_true] at h
  exact h.imp sm64_ok sm64_ok
def vFdiv : Vl → Vl → Option Vl := vInt (fun _ j => decide (0 < j) && sm62 j) fun i j => .int (i / j)
def vMod : Vl → Vl → Option Vl := vInt (fun _ j => decide (0 < j)) fun i j => .int (i % j)
def vPow : Vl → Vl → Option Vl := vInt (fun i j => decide (0 ≤ j) && Nat.ble j.natAbs 1000000 && sm64 i) fun i j => .int (i ^ j.toNat)
theorem powOk_c {i j : Int} (h : (decide (0 ≤ j) && Nat.ble j.natAbs 1000000 && sm64 i) = true) : CPow i j := by
  simp only [Bool.and_eq_true, decide_eq_true_eq, Nat.ble_eq] at h
  have h2 := sm64_ok h.2
  exact (show 0 ≤ j ∧ j ≤ 1000000 ∧ i.natAbs < 2 ^ 64 from ⟨h.1.1, by omega, by omega⟩)
theorem ops_fdiv : OpS kt X (binaryOp .FloorDiv) vFdiv :=
  ops_int (g := fun i j => .int (i / j)) op_fdivW (fun i j h => by
    rw [Bool.and_eq_true] at h
    have h := And.intro (of_decide_eq_true h.1) (sm62_ok h.2).2
    exact ⟨h.1, Nat.lt_trans (PySem.Flt.log2_lt_of (k := 62) (by decide) (by omega)) (by decide)⟩) (fun _ _ _ _ => rfl) vInt_some
theorem ops_mod : OpS kt X (binaryOp .Mod) vMod :=
  ops_int (g := fun i j => .int (i % j)) op_mod (fun i j h => of_decide_eq_true h) (fun _ _ _ _ => rfl) vInt_some
theorem ops_pow : OpS kt X (binaryOp .Pow) vPow :=
  ops_int (g := fun i j => .int (i ^ j.toNat)) op_pow (fun i j h => powOk_c h) (fun _ _ _ _ => rfl) vInt_some
def vMul : Vl → Vl → Option Vl
  | .int i, .int j => if mulOk i j = true then some (.int (i * j)) else none
  | .lst xs, .int k => if sm62 k = true ∧ xs.length * k.toNat ≤ 16777216 then some (.lst (List.replicate k.toNat xs).flatten) else none
  | _, _ => none
theorem Reps.rep {K : PySem.W.Frag} {W : Wd} {xs : List Vl} {vs : List V} (h : Reps K W xs vs) : ∀ k : Nat, Reps K W (List.replicate k xs).flatten (List.replicate k vs).flatten
  | 0 => rfl
  | k + 1 => by
    rw [List.replicate_succ, List.replicate_succ, List.flatten_cons, List.flatten_cons]
    exact h.append (Reps.rep h k)
theorem ops_mul : OpS kt X (binaryOp .Mult) vMul := by
  refine ⟨_, op_mul.or op_rep, fun B σ env G W x y v u z Q A hx hy e q => ?_⟩
  unfold vMul at e
  split at e
  · split at e
    · cases e
      obtain rfl := hx.int; obtain rfl := hy.int
      exact .inl ⟨_, _, rfl, rfl, mulOk_c ‹_›, q W _ Ext.refl A rfl⟩
    · cases e
  · split at e
    · cases e
      obtain ⟨a, vs, rfl, h1, r1⟩ := hx.lst; obtain rfl := hy.int
      rename_i xs k hz
      have hz1 := sm62_ok hz.1
      have hz0 : k ≠ -(2 ^ 62) := fun z => by subst z; exact absurd hz.1 (by decide)
      refine .inr ⟨a, k, vs, rfl, rfl, h1, by omega, by omega, by rw [← r1.length]; exact hz.2, fun p hp => ?_⟩
      obtain ⟨e1, a1, r⟩ := new_lst A hp (r1.rep k.toNat)
      exact q _ _ e1 a1 r
    · cases e
  · cases e
end
end CardH
end
section
set_option maxHeartbeats 2000000
namespace CardH
open PySem PySem.Spec PyProof.Rows L2

def okM (p : Bool) (m : Md) : Bool := p || (match m with | .f => false | _ => true)
theorem okM_or {p : Bool} {m : Md} (h : okM p m = true) : p = true ∨ m ≠ .f := by
  cases m
  · exact .inr (fun z => nomatch z)
  · exact .inr (fun z => nomatch z)
  · left; cases p <;> simp_all [okM]
section
variable {kt : Kt} {B : Bs} {p q : Bool} {σ : L2.St} {env : LEnv} {W W1 : Wd} {Wish : WX} {α β γ δ : Type} {Z : Wd → α → β → Prop} {Z' : Wd → γ → δ → Prop}
theorem PoX.bindL {r : R α} {f : α → Gst → R γ} {Q : δ → Hp → Prop} (h : PoX kt B p σ env W Wish Z' (r.bind f) Q) :
    PoX kt B p σ env W Wish Z r (fun v H1 => ∃ W1 x G1, W1.H = H1 ∧ Ext p W W1 ∧ RAll kt B W1 σ env G1 ∧ Z W1 x v ∧ PoX kt B true σ env W1 Wish Z' (f x G1) Q) :=
  PoX.bindE (p := p) (q := true) (by rw [Bool.and_true]; exact h)
/-- o's answer -/
def opt {α : Type} (o : Option α) (G : Gst) : R α := match o with
  | some z => .ok z G
  | none => .bad
end
def dC (x : Vl) : DE := fun _ G => .ok x G
def dVar (i : Nat) : DE := fun env G => match env[i]? with
  | some (some (.val x)) => .ok x G
  | _ => .bad
def dPk (i : Nat) : DE := fun env G => match env[i]? with
  | some (some fv) => .ok fv.toVl G
  | _ => .bad
def dBin (o : Vl → Vl → Option Vl) (da db : DE) : DE := fun env G => (da env G).bind fun x G1 => (db env G1).bind fun y G2 => opt (o x y) G2
def dUn (o : Vl → Option Vl) (da : DE) : DE := fun env G => (da env G).bind fun x G1 => opt (o x) G1
/-- a value's truth -/
def vTru : Vl → Option Bool
  | .non => some false
  | .bl b => some b
  | .int i => some (i != 0)
  | .str x => if x.length ≤ 16777216 then some ((x.length : Int) != 0) else none
  | .tup xs => some (!xs.isEmpty)
  | .lst xs => some (!xs.isEmpty)
  | _ => none
def dTest (da : DE) : DT := fun env G => (da env G).bind fun x G1 => opt (vTru x) G1
def dTB (da : DE) : DT := fun env G => (da env G).bind fun x G1 => match x with
  | .bl b => .ok b G1
  | _ => .bad
def dAnd (t u : DT) : DT := fun env G => (t env G).bind fun c G1 => if c = true then u env G1 else .ok false G1
def dOr (t u : DT) : DT := fun env G => (t env G).bind fun c G1 => if c = true then .ok true G1 else u env G1
def dNot (t : DT) : DT := fun env G => (t env G).bind fun c G1 => .ok (!c) G1
def dBV (t : DT) : DE := fun env G => (t env G).bind fun c G1 => .ok (.bl c) G1
def dIf (t : DT) (da db : DE) : DE := fun env G => (t env G).bind fun c G1 => if c = true then da env G1 else db env G1
/-- a op b op' c -/
def dChain (o o' : Vl → Vl → Option Vl) (da db dc : DE) : DE := fun env G => (da env G).bind fun x G1 => (db env G1).bind fun y G2 => match o x y with
  | some (.bl true) => (dc env G2).bind fun z G3 => opt (o' y z) G3
  | some (.bl false) => .ok (.bl false) G2
  | _ => .bad

section
variable {kt : Kt} {B : Bs} {X : Cx} {p pa pb pc : Bool} {m ma mb mc : Md} {a b c : Expr} {da db dc : DE} {t u : DT} {pos : Pos} {i : Nat}
theorem sx_int {n : Int} {j} : SX kt B X true .s (.Constant (.int n) j pos) (dC (.int n)) := fun Wish _ => pe_int.imp fun σ H Q ⟨W, env, G, e, A, h⟩ => by
  subst e; exact h W _ Ext.refl A (.inl rfl)
theorem sx_bl {n : Bool} {j} : SX kt B X true .s (.Constant (.bool n) j pos) (dC (.bl n)) := fun Wish _ => pe_bl.imp fun σ H Q ⟨W, env, G, e, A, h⟩ => by
  subst e; exact h W _ Ext.refl A (.inl rfl)
theorem sx_non {j} : SX kt B X true .s (.Constant .none j pos) (dC .non) := fun Wish _ => pe_non.imp fun σ H Q ⟨W, env, G, e, A, h⟩ => by
  subst e; exact h W _ Ext.refl A (.inl rfl)
theorem sx_str {x : Str} {j} (ok : okStr x = true := by decide +kernel) : SX kt B X true .s (.Constant (.str x) j pos) (dC (.str x)) := fun Wish _ => pe_str.imp fun σ H Q ⟨W, env, G, e, A, h⟩ => by
  subst e; exact h W _ Ext.refl A (.inl ⟨rfl, ok⟩)
theorem sx_var (i : Nat) {x : Str} (hN : X.N[i]? = some x := by rfl) (hv : Vis X.env.scope x := by first | exact Or.inl rfl | exact Or.inr (Or.inl rfl) | exact Or.inr (Or.inr rfl))
    (hd : (x == ("__debug__" : Str)) = false := by decide) (hcd : (x == ("__classdict__" : Str)) = false := by decide) : SX kt B X true .s (.Name x pos) (dVar i) := fun Wish _ =>
  (pe_var hN hv hd hcd).imp fun σ H Q ⟨W, env, G, e, A, h⟩ => by
    subst e
    unfold dVar at h
    split at h
    · rename_i y hy
      obtain ⟨v, h1, h2, _⟩ := A.re.sl i _ hy
      exact ⟨v, h1, h W _ Ext.refl A (.inl h2)⟩
    · exact h.elim
theorem sx_peek (i : Nat) {x : Str} (hN : X.N[i]? = some x := by rfl) (hv : Vis X.env.scope x := by first | exact Or.inl rfl | exact Or.inr (Or.inl rfl) | exact Or.inr (Or.inr rfl))
    (hd : (x == ("__debug__" : Str)) = false := by decide) (hcd : (x == ("__classdict__" : Str)) = false := by decide) : SX kt B X true .k (.Name x pos) (dPk i) := fun Wish _ =>
  (pe_var hN hv hd hcd).imp fun σ H Q ⟨W, env, G, e, A, h⟩ => by
    subst e
    unfold dPk at h
    split at h
    · rename_i y hy
      obtain ⟨v, h1, h2, _⟩ := A.re.sl i _ hy
      exact ⟨v, h1, h W _ Ext.refl A (.inr ⟨.slot i, y, rfl, rfl, h2⟩)⟩
    · exact h.elim
/-- a constant of the module -/
def GlobIs (kt : Kt) (x : Str) (y : Vl) : Prop := ∃ v u, kt.mg x = some u ∧ RelV v u ∧ ∀ W, Rep kt.K W y v
theorem sx_glob {x : Str} {y : Vl} (g : GlobIs kt x y) (hm : X.mg = kt.mg := by rfl) (hg : Gl X x := by rfl) (hd : (x == ("__debug__" : Str)) = false := by decide) : SX kt B X true .s (.Name x pos) (dC y) := fun Wish _ => by
  obtain ⟨v, u, h1, r, h2⟩ := g
  exact (pe_glob hg (by rw [hm]; exact h1) r hd).imp fun σ H Q ⟨W, env, G, e, A, h⟩ => by
    subst e; exact h W _ Ext.refl A (.inl (h2 W))
theorem sx_weak (h : SX kt B X p .s a da) : SX kt B X p m a da := fun Wish tk => (h Wish tk).imp fun σ H Q ⟨W, env, G, e, A, g⟩ => by
  refine ⟨W, env, G, e, A, ?_⟩
  cases q : da env G with
  | bad => rw [q] at g; exact g
  | exn c G' => rw [q] at g; exact g
  | ok x G' => rw [q] at g; exact fun W' v e' A' z => g W' v e' A' z.weak

theorem opsPo {σ : L2.St} {env : LEnv} {W : Wd} {Wish : WX} {Q : VK} {o : Option Vl} {G : Gst} (h : PoX kt B true σ env W Wish (fun W x v => Pk kt.K W .s x v) (opt o G) Q) :
    ∃ z, o = some z ∧ ∀ W' w, Ext true W W' → RAll kt B W' σ env G → Rep kt.K W' z w → Q w W'.H := by
  cases o with
  | none => exact h.elim
  | some z => exact ⟨z, rfl, fun W' w e A r => h W' w e A (.inl r)⟩
theorem sx_bin {op : Operator} {o : Vl → Vl → Option Vl} (ho : OpS kt X (binaryOp op) o) (ha : SX kt B X pa ma a da) (hb : SX kt B X pb mb b db) (hm : okM pb ma = true := by rfl) :
    SX kt B X (pa && pb) .s (.BinOp a op b pos) (dBin o da db) := fun Wish tk => by
  obtain ⟨r, hr, hs⟩ := ho
  refine (pe_op hr (ha Wish tk) (hb Wish tk)).imp fun σ H Q ⟨W, env, G, e, A, h⟩ => ?_
  subst e
  refine ⟨W, env, G, rfl, A, h.bindE.mono ?_⟩
  rintro v H1 ⟨W1, x, G1, rfl, e1, A1, z1, h1⟩
  refine ⟨W1, env, G1, rfl, A1, h1.bindL.mono ?_⟩
  rintro u H2 ⟨W2, y, G2, rfl, e2, A2, z2, h2⟩
  obtain ⟨z, ez, q⟩ := opsPo h2
  exact hs B σ env G2 W2 x y v u z Q A2 (z1.ext e2 (okM_or hm)).any z2.any ez q
theorem sx_cmp {op : CmpOp} {o : Vl → Vl → Option Vl} (ho : OpS kt X (compareOp op) o) (ha : SX kt B X pa ma a da) (hb : SX kt B X pb mb b db) (hm : okM pb ma = true := by rfl) (hk : behindInMarks op b = false := by first | exact nomark _ | rfl) :
    SX kt B X (pa && pb) .s (.Compare a [op] [b] pos) (dBin o da db) := fun Wish tk => by
  obtain ⟨r, hr, hs⟩ := ho
  refine (pe_cmpR hr (ha Wish tk) (hb Wish tk) hk).imp fun σ H Q ⟨W, env, G, e, A, h⟩ => ?_
  subst e
  refine ⟨W, env, G, rfl, A, h.bindE.mono ?_⟩
  rintro v H1 ⟨W1, x, G1, rfl, e1, A1, z1, h1⟩
  refine ⟨W1, env, G1, rfl, A1, h1.bindL.mono ?_⟩
  rintro u H2 ⟨W2, y, G2, rfl, e2, A2, z2, h2⟩
  obtain ⟨z, ez, q⟩ := opsPo h2
  exact hs B σ env G2 W2 x y v u z Q A2 (z1.ext e2 (okM_or hm)).any z2.any ez q
/-- a comparison as a test -/
theorem st_cmp {op : CmpOp} {o : Vl → Vl → Option Vl} (ho : OpS kt X (compareOp op) o) (ha : SX kt B X pa ma a da) (hb : SX kt B X pb mb b db) (hm : okM pb ma = true := by rfl) (hk : behindInMarks op b = false := by first | exact nomark _ | rfl) :
    ST kt B X (pa && pb) (.Compare a [op] [b] pos) (dTB (dBin o da db)) := fun Wish tk => by
  obtain ⟨r, hr, hs⟩ := ho
  refine (pt_cmpR hr (ha Wish tk) (hb Wish tk) hk).imp fun σ H Q ⟨W, env, G, e, A, h⟩ => ?_
  subst e
  unfold dTB dBin at h
  have h : PoX kt B (pa && pb) σ env W Wish ZB ((da env G).bind fun x G1 => (db env G1).bind fun y G2 => (opt (o x y) G2).bind fun x G1 => match x with | .bl b => .ok b G1 | _ => .bad) Q := by
    cases q : da env G with
    | bad => rw [q] at h; exact h
    | exn c G' => rw [q] at h; exact h
    | ok x G' =>
      rw [q] at h
      show PoX kt B (pa && pb) σ env W Wish ZB ((db env G').bind _) Q
      cases q' : db env G' with
      | bad => simp only [q', R.bind_ok] at h; exact h
      | exn c G' => simp only [q', R.bind_ok] at h; exact h
      | ok y G' => simp only [q', R.bind_ok] at h; exact h
  refine ⟨W, env, G, rfl, A, h.bindE.mono ?_⟩
  rintro v H1 ⟨W1, x, G1, rfl, e1, A1, z1, h1⟩
  refine ⟨W1, env, G1, rfl, A1, h1.bindL.mono ?_⟩
  rintro u H2 ⟨W2, y, G2, rfl, e2, A2, z2, h2⟩
  cases ez : o x y with
  | none => rw [ez] at h2; exact h2.elim
  | some z =>
    rw [ez] at h2
    refine hs B σ env G2 W2 x y v u z (fun x H' => ∃ k, x = .bl k ∧ Q k H') A2 (z1.ext e2 (okM_or hm)).any z2.any ez fun W' w e' A' r' => ?_
    cases z with
    | bl k => exact ⟨k, r', h2 W' k e' A' rfl⟩
    | _ => exact h2.elim
end

/-! ### tests -/
section
variable {kt : Kt} {B : Bs} {X : Cx} {p pa pb pc : Bool} {m ma mb mc : Md} {a b c : Expr} {da db dc : DE} {t u : DT} {pos : Pos} {rest : List Expr}
theorem tru_of {W : Wd} {x : Vl} {v : V} {k : Bool} (hK : X.K = kt.K) (h : Pk kt.K W .f x v) (e : vTru x = some k) : TruV X.K v W.H k := by
  cases x with
  | non => cases e; obtain rfl := h.non; rfl
  | bl b => cases e; obtain rfl := h.bl; rfl
  | int i => cases e; obtain rfl := h.int; rfl
  | str x =>
    have e : (if x.length ≤ 16777216 then some ((x.length : Int) != 0) else none) = some k := e
    obtain ⟨rfl, _⟩ := h.str
    split at e
    · cases e; exact ⟨‹_›, rfl⟩
    · cases e
  | tup xs =>
    cases e
    obtain ⟨a, vs, rfl, h1, r⟩ := h.tup
    refine .inr (.inl ⟨vs, by rw [hK]; exact h1, ?_⟩)
    have l := r.length
    cases xs <;> cases vs <;> simp_all
  | lst xs =>
    cases e
    obtain ⟨a, vs, rfl, h1, r⟩ := h.lst
    refine .inl ⟨vs, SqL.of h1, ?_⟩
    have l := r.length
    cases xs <;> cases vs <;> simp_all
  | _ => cases e
/-- an expression as a test, by its truth -/
theorem st_val (ha : SX kt B X p m a da) (hK : X.K = kt.K := by rfl) (he : ∀ whole, isTrue a X.env whole = (do let v ← whole; standAt a.pos; holding [v] (truthy v)) := by intro _; rfl) : ST kt B X p a (dTest da) := fun Wish tk => by
  refine (pt_truth (ha Wish tk) he).imp fun σ H Q ⟨W, env, G, e, A, h⟩ => ?_
  subst e
  refine ⟨W, env, G, rfl, A, h.bindL.mono ?_⟩
  rintro v H1 ⟨W1, x, G1, rfl, e1, A1, z1, h1⟩
  cases ek : vTru x with
  | none => rw [ek] at h1; exact h1.elim
  | some k =>
    rw [ek] at h1
    exact ⟨k, tru_of hK z1.any ek, h1 W1 k Ext.refl A1 rfl⟩
theorem sw_and1 (h : ST kt B X p a t) : SW kt B X p (.BoolOp .And [a] pos) t := fun Wish tk => (pw_and1 (h Wish tk))
theorem sw_or1 (h : ST kt B X p a t) : SW kt B X p (.BoolOp .Or [a] pos) t := fun Wish tk => (pw_or1 (h Wish tk))
theorem sw_and (ha : ST kt B X pa a t) (hb : SW kt B X pb (.BoolOp .And (b :: rest) pos) u) : SW kt B X (pa && pb) (.BoolOp .And (a :: b :: rest) pos) (dAnd t u) := fun Wish tk => by
  refine (pw_and (ha Wish tk) (hb Wish tk)).imp fun σ H Q ⟨W, env, G, e, A, h⟩ => ?_
  subst e
  refine ⟨W, env, G, rfl, A, h.bindE.mono ?_⟩
  rintro c H1 ⟨W1, x, G1, rfl, e1, A1, z1, h1⟩
  obtain rfl : x = c := z1
  cases x with
  | true => exact ⟨W1, env, G1, rfl, A1, h1⟩
  | false => exact h1 W1 false Ext.refl A1 rfl
theorem sw_or (ha : ST kt B X pa a t) (hb : SW kt B X pb (.BoolOp .Or (b :: rest) pos) u) : SW kt B X (pa && pb) (.BoolOp .Or (a :: b :: rest) pos) (dOr t u) := fun Wish tk => by
  refine (pw_or (ha Wish tk) (hb Wish tk)).imp fun σ H Q ⟨W, env, G, e, A, h⟩ => ?_
  subst e
  refine ⟨W, env, G, rfl, A, h.bindE.mono ?_⟩
  rintro c H1 ⟨W1, x, G1, rfl, e1, A1, z1, h1⟩
  obtain rfl : x = c := z1
  cases x with
  | false => exact ⟨W1, env, G1, rfl, A1, h1⟩
  | true => exact h1 W1 true Ext.refl A1 rfl
theorem st_w (h : SW kt B X p a t) : ST kt B X p a t := fun Wish tk => (h Wish tk).pt
theorem st_not (h : ST kt B X p a t) : ST kt B X p (.UnaryOp .Not a pos) (dNot t) := fun Wish tk => by
  refine (pt_not (h Wish tk)).imp fun σ H Q ⟨W, env, G, e, A, h⟩ => ?_
  subst e
  refine ⟨W, env, G, rfl, A, h.bindL.mono ?_⟩
  rintro c H1 ⟨W1, x, G1, rfl, e1, A1, z1, h1⟩
  obtain rfl : x = c := z1
  exact h1 W1 _ Ext.refl A1 rfl
/-- not a, as a value: a True or False -/
theorem sx_not (ha : SX kt B X p m a da) : SX kt B X p .s (.UnaryOp .Not a pos) (dBV (dNot (dTB da))) := fun Wish tk => by
  refine (pe_not (ha Wish tk)).imp fun σ H Q ⟨W, env, G, e, A, h⟩ => ?_
  subst e
  have h : PoX kt B p σ env W Wish (fun W x v => Pk kt.K W .s x v) ((da env G).bind fun x G1 => match x with | .bl b => .ok (.bl (!b)) G1 | _ => .bad) Q := by
    unfold dBV dNot dTB at h
    cases q : da env G with
    | bad => rw [q] at h; exact h
    | exn c G' => rw [q] at h; exact h
    | ok x G' =>
      rw [q] at h
      cases x <;> exact h
  refine ⟨W, env, G, rfl, A, h.bindL.mono ?_⟩
  rintro v H1 ⟨W1, x, G1, rfl, e1, A1, z1, h1⟩
  cases x with
  | bl b => exact ⟨b, z1.bl, h1 W1 _ Ext.refl A1 (.inl rfl)⟩
  | _ => exact h1.elim
def dAndV (da db : DE) : DE := fun env G => (da env G).bind fun x G1 => match x with
  | .bl true => db env G1
  | .bl false => .ok (.bl false) G1
  | _ => .bad
def dOrV (da db : DE) : DE := fun env G => (da env G).bind fun x G1 => match x with
  | .bl false => db env G1
  | .bl true => .ok (.bl true) G1
  | _ => .bad
theorem sx_one {op} (h : SX kt B X p m a da) : SX kt B X p m (.BoolOp op [a] pos) da := fun Wish tk => pe_one (h Wish tk)
theorem sx_and (ha : SX kt B X pa ma a da) (hb : SX kt B X pb .s (.BoolOp .And (b :: rest) pos) db) : SX kt B X (pa && pb) .s (.BoolOp .And (a :: b :: rest) pos) (dAndV da db) := fun Wish tk => by
  refine (pe_and (ha Wish tk) (hb Wish tk)).imp fun σ H Q ⟨W, env, G, e, A, h⟩ => ?_
  subst e
  refine ⟨W, env, G, rfl, A, h.bindE.mono ?_⟩
  rintro v H1 ⟨W1, x, G1, rfl, e1, A1, z1, h1⟩
  cases x with
  | bl c =>
    refine ⟨c, z1.bl, ?_⟩
    cases c with
    | true => exact ⟨W1, env, G1, rfl, A1, h1⟩
    | false => exact h1 W1 _ Ext.refl A1 (.inl rfl)
  | _ => exact h1.elim
theorem sx_or (ha : SX kt B X pa ma a da) (hb : SX kt B X pb .s (.BoolOp .Or (b :: rest) pos) db) : SX kt B X (pa && pb) .s (.BoolOp .Or (a :: b :: rest) pos) (dOrV da db) := fun Wish tk => by
  refine (pe_or (ha Wish tk) (hb Wish tk)).imp fun σ H Q ⟨W, env, G, e, A, h⟩ => ?_
  subst e
  refine ⟨W, env, G, rfl, A, h.bindE.mono ?_⟩
  rintro v H1 ⟨W1, x, G1, rfl, e1, A1, z1, h1⟩
  cases x with
  | bl c =>
    refine ⟨c, z1.bl, ?_⟩
    cases c with
    | false => exact ⟨W1, env, G1, rfl, A1, h1⟩
    | true => exact h1 W1 _ Ext.refl A1 (.inl rfl)
  | _ => exact h1.elim
theorem PoX.weakP {α β : Type} {Z : Wd → α → β → Prop} {σ : L2.St} {env : LEnv} {W : Wd} {Wish : WX} {r : R α} {Q : β → Hp → Prop} {p q : Bool} (h : PoX kt B p σ env W Wish Z r Q) (hp : p = true → q = true) : PoX kt B q σ env W Wish Z r Q := by
  cases r with
  | bad => exact h
  | exn c G => exact fun W' od e A z => h W' od (e.mono hp) A z
  | ok x G => exact fun W' v e A z => h W' v (e.mono hp) A z
theorem sx_if (hc : ST kt B X pc c t) (ha : SX kt B X pa m a da) (hb : SX kt B X pb m b db) : SX kt B X (pc && (pa && pb)) m (.IfExp c a b pos) (dIf t da db) := fun Wish tk => by
  refine (pe_ifExp (hc Wish tk) (ha Wish tk) (hb Wish tk)).imp fun σ H Q ⟨W, env, G, e, A, h⟩ => ?_
  subst e
  refine ⟨W, env, G, rfl, A, h.bindE.mono ?_⟩
  rintro c H1 ⟨W1, x, G1, rfl, e1, A1, z1, h1⟩
  obtain rfl : x = c := z1
  cases x with
  | true => exact ⟨W1, env, G1, rfl, A1, PoX.weakP h1 fun z => (Bool.and_eq_true _ _ ▸ z).1⟩
  | false => exact ⟨W1, env, G1, rfl, A1, PoX.weakP h1 fun z => (Bool.and_eq_true _ _ ▸ z).2⟩
theorem chain_imp {op op' : CmpOp} {o o' : Vl → Vl → Option Vl} {Wish : WX} (ho : OpS kt X (compareOp op) o) (ho' : OpS kt X (compareOp op') o') (hm : okM pb ma = true) (hm' : okM pc mb = true) :
    ∃ r r', OpR X (compareOp op) r ∧ OpR X (compareOp op') r' ∧ ∀ σ H Q, rdX kt B (pa && (pb && pc)) Wish (fun W x v => Pk kt.K W .s x v) (dChain o o' da db dc) σ H Q →
      tChain r r' (rdX kt B pa Wish (fun W x v => Pk kt.K W ma x v) da) (rdX kt B pb Wish (fun W x v => Pk kt.K W mb x v) db) (rdX kt B pc Wish (fun W x v => Pk kt.K W mc x v) dc) σ H Q := by
  obtain ⟨r, hr, hs⟩ := ho
  obtain ⟨r', hr', hs'⟩ := ho'
  refine ⟨r, r', hr, hr', fun σ H Q ⟨W, env, G, e, A, h⟩ => ?_⟩
  subst e
  refine ⟨W, env, G, rfl, A, h.bindE.mono ?_⟩
  rintro v H1 ⟨W1, x, G1, rfl, e1, A1, z1, h1⟩
  refine ⟨W1, env, G1, rfl, A1, h1.bindE.mono ?_⟩
  rintro u H2 ⟨W2, y, G2, rfl, e2, A2, z2, h2⟩
  have z1' := z1.ext e2 (okM_or hm)
  split at h2
  · rename_i q
    refine hs B σ env G2 W2 x y v u (.bl true) _ A2 z1'.any z2.any q fun W' w e' A' r => ⟨true, r, ?_⟩
    rw [if_pos rfl]
    have h2 := PoX.shift (p := true) (q := pc) h2 e'
    refine ⟨W', env, G2, rfl, A', h2.bindL.mono ?_⟩
    rintro w' H3 ⟨W3, z, G3, rfl, e3, A3, z3, h3⟩
    obtain ⟨y', ey, qq⟩ := opsPo h3
    exact hs' B σ env G3 W3 y z u w' y' Q A3 ((z2.ext e' (.inl rfl)).ext e3 (okM_or hm')).any z3.any ey qq
  · rename_i q
    refine hs B σ env G2 W2 x y v u (.bl false) _ A2 z1'.any z2.any q fun W' w e' A' r => ⟨false, r, ?_⟩
    rw [if_neg Bool.false_ne_true]
    exact h2 W' _ (e'.weak) A' (.inl rfl)
  · exact h2.elim
theorem sx_chain {op op' : CmpOp} {o o' : Vl → Vl → Option Vl} (ho : OpS kt X (compareOp op) o) (ho' : OpS kt X (compareOp op') o') (ha : SX kt B X pa ma a da) (hb : SX kt B X pb mb b db) (hc : SX kt B X pc mc c dc)
    (hm : okM pb ma = true := by rfl) (hm' : okM pc mb = true := by rfl) (hl : lastMarks [op, op'] [b, c] = false := by with_unfolding_all rfl) : SX kt B X (pa && (pb && pc)) .s (.Compare a [op, op'] [b, c] pos) (dChain o o' da db dc) := fun Wish tk => by
  obtain ⟨r, r', hr, hr', hi⟩ := chain_imp (B := B) (pa := pa) (da := da) (db := db) (mc := mc) (dc := dc) (Wish := Wish) ho ho' hm hm'
  exact (pe_chain hr hr' (ha Wish tk) (hb Wish tk) (hc Wish tk) hl).imp hi
theorem rd_tb {d : DE} {Wish : WX} {σ : L2.St} {H : Hp} {Q : Bool → Hp → Prop} (h : rdX kt B p Wish ZB (dTB d) σ H Q) : rdX kt B p Wish (fun W x v => Pk kt.K W m x v) d σ H (fun x H' => ∃ k, x = .bl k ∧ Q k H') := by
  obtain ⟨W, env, G, e, A, h⟩ := h
  refine ⟨W, env, G, e, A, ?_⟩
  unfold dTB at h
  refine h.bindL.mono ?_
  rintro v H1 ⟨W1, x, G1, rfl, e1, A1, z1, h1⟩
  cases x with
  | bl b => obtain rfl := z1.bl; exact ⟨b, rfl, h1 W1 b Ext.refl A1 rfl⟩
  | _ => exact h1.elim
/-- a chain of two comparisons, as a test -/
theorem st_chain {op op' : CmpOp} {o o' : Vl → Vl → Option Vl} (ho : OpS kt X (compareOp op) o) (ho' : OpS kt X (compareOp op') o') (ha : SX kt B X pa ma a da) (hb : SX kt B X pb mb b db) (hc : SX kt B X pc mc c dc)
    (hm : okM pb ma = true := by rfl) (hm' : okM pc mb = true := by rfl) (hl : lastMarks [op, op'] [b, c] = false := by with_unfolding_all rfl) : ST kt B X (pa && (pb && pc)) (.Compare a [op, op'] [b, c] pos) (dTB (dChain o o' da db dc)) := fun Wish tk => by
  obtain ⟨r, r', hr, hr', hi⟩ := chain_imp (B := B) (pa := pa) (da := da) (db := db) (mc := mc) (dc := dc) (Wish := Wish) ho ho' hm hm'
  exact (pt_chain hr hr' (ha Wish tk) (hb Wish tk) (hc Wish tk) hl).imp fun σ H Q h => hi _ _ _ (rd_tb h)
end
end CardH
end
section
set_option maxHeartbeats 2000000
namespace CardH
open PySem PySem.Spec PyProof.Rows L2

/-! ### values as plain data -/
mutual
def py : Vl → Nat → Option PyData
  | .non, _ => some .none
  | .bl b, _ => some (.bool b)
  | .int i, _ => some (.int i)
  | .str x, _ => some (.str x)
  | .tup xs, n + 1 => (pys xs n).map .tuple
  | .ktp xs, n + 1 => (pys xs n).map .tuple
  | .stp xs, n + 1 => (pys xs n).map .tuple
  | .lst xs, n + 1 => (pys xs n).map .list
  | _, _ => none
def pys : List Vl → Nat → Option (List PyData)
  | [], _ => some []
  | x :: xs, n => match py x n, pys xs n with
    | some d, some ds => some (d :: ds)
    | _, _ => none
end
section
variable {K : PySem.W.Frag} {W : Wd}
mutual
theorem py_spec : ∀ (x : Vl) (n : Nat) (d : PyData) (v : V), Rep K W x v → py x n = some d → Dp K W.H v d ∧ d.canLay0 = true ∧ d.depth ≤ n
  | .non, _, _, _, h, e => by cases e; cases h; exact ⟨.non, rfl, Nat.zero_le _⟩
  | .bl b, _, _, _, h, e => by cases e; cases h; exact ⟨.bl b, rfl, Nat.zero_le _⟩
  | .int i, _, _, _, h, e => by cases e; cases h; exact ⟨.int i, rfl, Nat.zero_le _⟩
  | .str x, _, _, _, h, e => by
    cases e; obtain ⟨rfl, h⟩ := h
    exact ⟨.str x, by rw [PyData.canLay0]; exact h, Nat.zero_le _⟩
  | .tup xs, n + 1, d, v, h, e => by
    obtain ⟨a, vs, o, rfl, _, h1, _, h2⟩ := h
    obtain ⟨ds, e1, rfl⟩ := Option.map_eq_some_iff.mp e
    obtain ⟨q1, q2, q3⟩ := pys_spec xs n ds vs h2 e1
    exact ⟨.tup (.inl (.inr ⟨o, h1⟩)) q1, by simpa [PyData.canLay0] using q2, by simp only [PyData.depth]; omega⟩
  | .stp xs, n + 1, d, v, h, e => by
    obtain ⟨a, vs, rfl, h1, h2⟩ := h
    obtain ⟨ds, e1, rfl⟩ := Option.map_eq_some_iff.mp e
    obtain ⟨q1, q2, q3⟩ := pys_spec xs n ds vs h2 e1
    exact ⟨.tup (SqT.of h1) q1, by simpa [PyData.canLay0] using q2, by simp only [PyData.depth]; omega⟩
  | .ktp xs, n + 1, d, v, h, e => by
    obtain ⟨a, vs, rfl, h1, h2⟩ := h
    obtain ⟨ds, e1, rfl⟩ := Option.map_eq_some_iff.mp e
    obtain ⟨q1, q2, q3⟩ := pys_spec xs n ds vs h2 e1
    exact ⟨.tup (.inr h1) q1, by simpa [PyData.canLay0] using q2, by simp only [PyData.depth]; omega⟩
  | .lst xs, n + 1, d, v, h, e => by
    obtain ⟨a, vs, rfl, _, h1, h2⟩ := h
    obtain ⟨ds, e1, rfl⟩ := Option.map_eq_some_iff.mp e
    obtain ⟨q1, q2, q3⟩ := pys_spec xs n ds vs h2 e1
    exact ⟨.lst (SqL.of h1) q1, by simpa [PyData.canLay0] using q2, by simp only [PyData.depth]; omega⟩
  | .tup _, 0, _, _, _, e => by cases e
  | .ktp _, 0, _, _, _, e => by cases e
  | .stp _, 0, _, _, _, e => by cases e
  | .lst _, 0, _, _, _, e => by cases e
  | .dct _ _, _, _, _, _, e => by cases e
  | .ref _, _, _, _, _, e => by cases e
  | .scr _, _, _, _, _, e => by cases e
theorem pys_spec : ∀ (xs : List Vl) (n : Nat) (ds : List PyData) (vs : List V), Reps K W xs vs → pys xs n = some ds → DpAll K W.H vs ds ∧ PyData.canLayAll0 ds = true ∧ PyData.depthAll ds ≤ n
  | [], _, _, _, h, e => by cases e; cases h; exact ⟨.nil, rfl, Nat.zero_le _⟩
  | x :: xs, n, ds, vs, h, e => by
    obtain ⟨v, r, rfl, h1, h2⟩ := h
    unfold pys at e
    split at e
    · rename_i d ds' e1 e2
      cases e
      obtain ⟨a1, a2, a3⟩ := py_spec x n d v h1 e1
      obtain ⟨b1, b2, b3⟩ := pys_spec xs n ds' r h2 e2
      exact ⟨.cons a1 b1, by simp [PyData.canLayAll0, a2, b2], by simp only [PyData.depthAll]; omega⟩
    · cases e
end
theorem pk_py {m : Md} {x : Vl} {n : Nat} {d : PyData} {v : V} (h : Pk K W m x v) (e : py x n = some d) : Dp K W.H v d ∧ d.canLay0 = true ∧ d.depth ≤ n := by
  cases x with
  | lst xs =>
    cases n with
    | zero => cases e
    | succ n =>
      obtain ⟨a, vs, rfl, h1, h2⟩ := h.lst
      obtain ⟨ds, e1, rfl⟩ := Option.map_eq_some_iff.mp e
      obtain ⟨q1, q2, q3⟩ := pys_spec xs n ds vs h2 e1
      exact ⟨.lst (SqL.of h1) q1, by simpa [PyData.canLay0] using q2, by simp only [PyData.depth]; omega⟩
  | dct t kvs => cases e
  | _ => exact py_spec _ n d v (h.val (fun _ z => nomatch z) fun _ _ z => nomatch z) e
end
def vEq (x y : Vl) : Option Vl := match py x 60, py y 60 with
  | some d, some e => some (.bl (PyData.eqv d e))
  | _, _ => none
def vNe (x y : Vl) : Option Vl := match py x 60, py y 60 with
  | some d, some e => some (.bl (!PyData.eqv d e))
  | _, _ => none
section
variable {kt : Kt} {X : Cx}
theorem shaped60 {d : PyData} (h : d.canLay0 = true) (g : d.depth ≤ 60) : SeqAt.shaped d = true := by
  unfold SeqAt.shaped
  rw [h, Bool.true_and]
  exact decide_eq_true (by omega)
theorem ops_eq (hu : X.A.units + 64 < cLine) (hK : X.K = kt.K := by rfl) : OpS kt X (compareOp .Eq) vEq := by
  refine ⟨_, op_eqD hu, fun B σ env G W x y v u z Q A hx hy e q => ?_⟩
  unfold vEq at e
  split at e
  · rename_i d f e1 e2
    cases e
    obtain ⟨a1, a2, a3⟩ := pk_py hx e1
    obtain ⟨b1, b2, b3⟩ := pk_py hy e2
    rw [← hK] at a1 b1
    exact ⟨d, f, a1, b1, shaped60 a2 a3, shaped60 b2 b3, q W _ Ext.refl A rfl⟩
  · cases e
theorem ops_ne (hu : X.A.units + 64 < cLine) (hK : X.K = kt.K := by rfl) : OpS kt X (compareOp .NotEq) vNe := by
  refine ⟨_, op_neD hu, fun B σ env G W x y v u z Q A hx hy e q => ?_⟩
  unfold vNe at e
  split at e
  · rename_i d f e1 e2
    cases e
    obtain ⟨a1, a2, a3⟩ := pk_py hx e1
    obtain ⟨b1, b2, b3⟩ := pk_py hy e2
    rw [← hK] at a1 b1
    exact ⟨d, f, a1, b1, shaped60 a2 a3, shaped60 b2 b3, q W _ Ext.refl A rfl⟩
  · cases e
def isN : PyData → Bool
  | .none => true
  | _ => false
/-- order of alike data -/
def ordD (f : PyData → PyData → Bool) (x y : Vl) : Option Vl := match py x 60, py y 60 with
  | some d, some e => if PySem.W.alike d e = true ∧ isN d = false then some (.bl (f d e)) else none
  | _, _ => none
def vLt : Vl → Vl → Option Vl
  | .int i, .int j => some (.bl (decide (i < j)))
  | x, y => ordD (fun d e => PySem.W.dataLt d e) x y
def vGt : Vl → Vl → Option Vl
  | .int i, .int j => some (.bl (decide (j < i)))
  | x, y => ordD (fun d e => PySem.W.dataLt e d) x y
def vLe : Vl → Vl → Option Vl
  | .int i, .int j => some (.bl (decide (i ≤ j)))
  | x, y => ordD (fun d e => !PySem.W.dataLt e d) x y
def vGe : Vl → Vl → Option Vl
  | .int i, .int j => some (.bl (decide (j ≤ i)))
  | x, y => ordD (fun d e => !PySem.W.dataLt d e) x y
def rOrd (K : PySem.W.Frag) (f : PyData → PyData → Bool) : R2 := fun x y H Q => ∃ d e, Dp K H x d ∧ Dp K H y e ∧ SeqAt.shaped d = true ∧ SeqAt.shaped e = true ∧ PySem.W.alike d e = true ∧ d ≠ .none ∧ Q (.bl (f d e)) H
theorem op_ltD (hu : X.A.units + 64 < cLine) : OpR X (compareOp .Lt) (rOrd X.K fun d e => PySem.W.dataLt d e) := by
  intro pins s σ H x y v u Q I rx ry h
  obtain ⟨d, e, hd, he, sd, se, al, nn, q⟩ := h
  obtain ⟨as, r1⟩ := Dp.reads I d x v hd rx
  obtain ⟨bs, r2⟩ := Dp.reads I e y u he ry
  exact PySem.W.lt_data r1 r2 al nn (SeqAt.room_of_shaped sd hu) ⟨.bl _, H, I, rfl, q⟩
theorem op_gtD (hu : X.A.units + 64 < cLine) : OpR X (compareOp .Gt) (rOrd X.K fun d e => PySem.W.dataLt e d) := by
  intro pins s σ H x y v u Q I rx ry h
  obtain ⟨d, e, hd, he, sd, se, al, nn, q⟩ := h
  obtain ⟨as, r1⟩ := Dp.reads I d x v hd rx
  obtain ⟨bs, r2⟩ := Dp.reads I e y u he ry
  exact PySem.W.gt_data r1 r2 al nn (SeqAt.room_of_shaped sd hu) ⟨.bl _, H, I, rfl, q⟩
theorem op_leD (hu : X.A.units + 64 < cLine) : OpR X (compareOp .LtE) (rOrd X.K fun d e => !PySem.W.dataLt e d) := by
  intro pins s σ H x y v u Q I rx ry h
  obtain ⟨d, e, hd, he, sd, se, al, nn, q⟩ := h
  obtain ⟨as, r1⟩ := Dp.reads I d x v hd rx
  obtain ⟨bs, r2⟩ := Dp.reads I e y u he ry
  exact PySem.W.le_data r1 r2 al nn (SeqAt.room_of_shaped sd hu) ⟨.bl _, H, I, rfl, q⟩
theorem op_geD (hu : X.A.units + 64 < cLine) : OpR X (compareOp .GtE) (rOrd X.K fun d e => !PySem.W.dataLt d e) := by
  intro pins s σ H x y v u Q I rx ry h
  obtain ⟨d, e, hd, he, sd, se, al, nn, q⟩ := h
  obtain ⟨as, r1⟩ := Dp.reads I d x v hd rx
  obtain ⟨bs, r2⟩ := Dp.reads I e y u he ry
  exact PySem.W.ge_data r1 r2 al nn (SeqAt.room_of_shaped sd hu) ⟨.bl _, H, I, rfl, q⟩
theorem ordD_r {f : PyData → PyData → Bool} {x y z : Vl} {v u : V} {W : Wd} {Q : VK} (hK : X.K = kt.K) (hx : Pk kt.K W .f x v) (hy : Pk kt.K W .f y u) (e : ordD f x y = some z) (q : ∀ b, z = .bl b → Q (.bl b) W.H) : rOrd X.K f v u W.H Q := by
  unfold ordD at e
  split at e
  · rename_i d d' e1 e2
    by_cases h : PySem.W.alike d d' = true ∧ isN d = false
    · rw [if_pos h] at e
      cases e
      obtain ⟨a1, a2, a3⟩ := pk_py hx e1
      obtain ⟨b1, b2, b3⟩ := pk_py hy e2
      rw [← hK] at a1 b1
      exact ⟨d, d', a1, b1, shaped60 a2 a3, shaped60 b2 b3, h.1, (fun z => by rw [z] at h; cases h.2), q _ rfl⟩
    · rw [if_neg h] at e
      cases e
  · cases e
theorem ops_lt (hu : X.A.units + 64 < cLine) (hK : X.K = kt.K := by rfl) : OpS kt X (compareOp .Lt) vLt := by
  refine ⟨_, op_lt.or (op_ltD hu), fun B σ env G W x y v u z Q A hx hy e q => ?_⟩
  unfold vLt at e
  split at e
  · cases e
    obtain rfl := hx.int; obtain rfl := hy.int
    exact .inl ⟨_, _, rfl, rfl, q W _ Ext.refl A rfl⟩
  · exact .inr (ordD_r hK hx hy e fun b eb => q W _ Ext.refl A (by rw [eb]; rfl))
theorem ops_gt (hu : X.A.units + 64 < cLine) (hK : X.K = kt.K := by rfl) : OpS kt X (compareOp .Gt) vGt := by
  refine ⟨_, op_gt.or (op_gtD hu), fun B σ env G W x y v u z Q A hx hy e q => ?_⟩
  unfold vGt at e
  split at e
  · cases e
    obtain rfl := hx.int; obtain rfl := hy.int
    exact .inl ⟨_, _, rfl, rfl, q W _ Ext.refl A rfl⟩
  · exact .inr (ordD_r hK hx hy e fun b eb => q W _ Ext.refl A (by rw [eb]; rfl))
theorem ops_le (hu : X.A.units + 64 < cLine) (hK : X.K = kt.K := by rfl) : OpS kt X (compareOp .LtE) vLe := by
  refine ⟨_, op_le.or (op_leD hu), fun B σ env G W x y v u z Q A hx hy e q => ?_⟩
  unfold vLe at e
  split at e
  · cases e
    obtain rfl := hx.int; obtain rfl := hy.int
    exact .inl ⟨_, _, rfl, rfl, q W _ Ext.refl A rfl⟩
  · exact .inr (ordD_r hK hx hy e fun b eb => q W _ Ext.refl A (by rw [eb]; rfl))
theorem ops_ge (hu : X.A.units + 64 < cLine) (hK : X.K = kt.K := by rfl) : OpS kt X (compareOp .GtE) vGe := by
  refine ⟨_, op_ge.or (op_geD hu), fun B σ env G W x y v u z Q A hx hy e q => ?_⟩
  unfold vGe at e
  split at e
  · cases e
    obtain rfl := hx.int; obtain rfl := hy.int
    exact .inl ⟨_, _, rfl, rfl, q W _ Ext.refl A rfl⟩
  · exact .inr (ordD_r hK hx hy e fun b eb => q W _ Ext.refl A (by rw [eb]; rfl))
end

/-! ### dicts as lists of pairs -/
section
variable {κ : Type} [DecidableEq κ]
def dgetF (f : Vl → Option κ) (kvs : List (Vl × Vl)) (q : κ) : Option Vl := (kvs.find? fun kv => decide (f kv.1 = some q)).map (·.2)
def dputF (f : Vl → Option κ) (kvs : List (Vl × Vl)) (k : Vl) (q : κ) (x : Vl) : List (Vl × Vl) :=
  if (kvs.any fun kv => decide (f kv.1 = some q)) = true then kvs.map (fun kv => if f kv.1 = some q then (kv.1, x) else kv) else kvs ++ [(k, x)]
def ddropF (f : Vl → Option κ) (kvs : List (Vl × Vl)) (q : κ) : List (Vl × Vl) := kvs.filter fun kv => decide (f kv.1 ≠ some q)
/-- the pairs of a dict as they lie -/
def RepD (K : PySem.W.Frag) (W : Wd) (f : Vl → Option κ) : List (Vl × Vl) → List (κ × V) → Prop := Paired fun kv p => (f kv.1 = some p.1 ∧ okK kv.1 = true) ∧ Rep K W kv.2 p.2
/-- an answer, or none -/
def GetR (K : PySem.W.Frag) (W : Wd) : Option Vl → Option V → Prop
  | some x, o => ∃ v, o = some v ∧ Rep K W x v
  | none, o => o = none
variable {K : PySem.W.Frag} {W : Wd} {f : Vl → Option κ}
theorem RepD.get : ∀ {kvs : List (Vl × Vl)} {ks : List (κ × V)} (q : κ), RepD K W f kvs ks → GetR K W (dgetF f kvs q) (valV ks q)
  | _, _, q, .nil => rfl
  | kv :: kvs, p :: ks, q, .cons r t => by
    have ih := RepD.get q t
    by_cases e : p.1 = q
    · have e1 : f kv.1 = some q := by rw [r.1.1, e]
      have h1 : dgetF f (kv :: kvs) q = some kv.2 := by simp [dgetF, List.find?_cons, e1]
      rw [h1]
      exact ⟨p.2, valV_pos e, r.2⟩
    · have e1 : ¬ f kv.1 = some q := by rw [r.1.1]; simpa using e
      have h1 : dgetF f (kv :: kvs) q = dgetF f kvs q := by simp [dgetF, List.find?_cons, e1]
      rw [h1, valV_neg e]
      exact ih
theorem RepD.any : ∀ {kvs : List (Vl × Vl)} {ks : List (κ × V)} (q : κ), RepD K W f kvs ks → (kvs.any fun kv => decide (f kv.1 = some q)) = ks.any fun p => decide (p.1 = q)
  | _, _, q, .nil => rfl
  | kv :: kvs, p :: ks, q, .cons r t => by
    simp only [List.any_cons, RepD.any q t, r.1.1, Option.some.injEq]
theorem RepD.append : ∀ {kvs kvs' : List (Vl × Vl)} {ks ks' : List (κ × V)}, RepD K W f kvs ks → RepD K W f kvs' ks' → RepD K W f (kvs ++ kvs') (ks ++ ks')
  | _, _, _, _, .nil, g => g
  | _, _, _, _, .cons r t, g => .cons r (RepD.append t g)
theorem RepD.mapPut {x : Vl} {q : κ} {v : V} (hx : Rep K W x v) : ∀ {kvs : List (Vl × Vl)} {ks : List (κ × V)}, RepD K W f kvs ks → RepD K W f (kvs.map (fun kv => if f kv.1 = some q then (kv.1, x) else kv)) (ks.map fun kv => if kv.1 = q then (kv.1, v) else kv)
  | _, _, .nil => .nil
  | kv :: kvs, p :: ks, .cons r t => by
    refine .cons ?_ (RepD.mapPut hx t)
    dsimp only
    by_cases e : p.1 = q
    · rw [if_pos (show f kv.1 = some q by rw [r.1.1, e]), if_pos e]
      exact ⟨r.1, hx⟩
    · rw [if_neg (show ¬ f kv.1 = some q by rw [r.1.1]; simpa using e), if_neg e]
      exact r
theorem RepD.put {kvs : List (Vl × Vl)} {ks : List (κ × V)} {k x : Vl} {q : κ} {v : V} (h : RepD K W f kvs ks) (hk : f k = some q ∧ okK k = true) (hx : Rep K W x v) : RepD K W f (dputF f kvs k q x) (putK ks q v) := by
  unfold dputF putK
  rw [h.any q]
  split
  · exact h.mapPut hx
  · exact h.append (.cons ⟨hk, hx⟩ .nil)
theorem RepD.drop : ∀ {kvs : List (Vl × Vl)} {ks : List (κ × V)} (q : κ), RepD K W f kvs ks → RepD K W f (ddropF f kvs q) (dropK ks q)
  | _, _, _, .nil => .nil
  | kv :: kvs, p :: ks, q, .cons r t => by
    have ih := RepD.drop q t
    unfold ddropF dropK at ih ⊢
    by_cases e : p.1 = q
    · rw [List.filter_cons_of_neg (by rw [r.1.1]; simpa using e), List.filter_cons_of_neg (by simpa using e)]
      exact ih
    · rw [List.filter_cons_of_pos (by rw [r.1.1]; simpa using e), List.filter_cons_of_pos (by simpa using e)]
      exact .cons r ih
end
section
variable {K : PySem.W.Frag} {W : Wd}
theorem RepK.to : ∀ {kvs : List (Vl × Vl)} {ks : List (Key × V)}, RepK K W kvs ks → RepD K W keyOf kvs ks
  | [], _, h => by cases h; exact .nil
  | (k, x) :: kvs, _, h => by
    obtain ⟨q, v, r, rfl, h1, h2, h3⟩ := h
    exact .cons ⟨h1, h2⟩ (RepK.to h3)
theorem RepK.of : ∀ {kvs : List (Vl × Vl)} {ks : List (Key × V)}, RepD K W keyOf kvs ks → RepK K W kvs ks
  | [], _, .nil => rfl
  | (k, x) :: kvs, (q, v) :: r, .cons a b => ⟨q, v, r, rfl, a.1, a.2, RepK.of b⟩
theorem RepT.to : ∀ {kvs : List (Vl × Vl)} {ks : List (List Key × V)}, RepT K W kvs ks → RepD K W keyTOf kvs ks
  | [], _, h => by cases h; exact .nil
  | (k, x) :: kvs, _, h => by
    obtain ⟨q, v, r, rfl, h1, h2, h3⟩ := h
    exact .cons ⟨h1, h2⟩ (RepT.to h3)
theorem RepT.of : ∀ {kvs : List (Vl × Vl)} {ks : List (List Key × V)}, RepD K W keyTOf kvs ks → RepT K W kvs ks
  | [], _, .nil => rfl
  | (k, x) :: kvs, (q, v) :: r, .cons a b => ⟨q, v, r, rfl, a.1, a.2, RepT.of b⟩
theorem keyOf_rep {x : Vl} {v : V} {q : Key} (h : Rep K W x v) (e : keyOf x = some q) : v = kV q := by
  cases x <;> cases e
  · exact h
  · exact h.1
theorem ok1_rep {x : Vl} {v : V} (h : Rep K W x v) : okK1 x = true := by
  cases x with
  | str z => exact h.2
  | _ => rfl
theorem oks_rep : ∀ {xs : List Vl} {vs : List V}, Reps K W xs vs → xs.all okK1 = true
  | [], _, _ => rfl
  | x :: xs, _, h => by
    obtain ⟨v, r, rfl, h1, h2⟩ := h
    simp [ok1_rep h1, oks_rep h2]
theorem ok_rep {x : Vl} {v : V} (h : Rep K W x v) : okK x = true := by
  cases x with
  | stp xs => obtain ⟨a, vs, rfl, h1, h2⟩ := h; exact oks_rep h2
  | str z => exact h.2
  | _ => rfl
/-- a key, back from what it is -/
theorem rep_key {x : Vl} {q : Key} (e : keyOf x = some q) (ok : okK x = true) : Rep K W x (kV q) := by
  cases x <;> cases e
  · rfl
  · exact ⟨rfl, ok⟩
theorem reps_key : ∀ {xs : List Vl} {ks : List Key}, keysOf xs = some ks → xs.all okK1 = true → Reps K W xs (ks.map kV)
  | [], _, e, _ => by cases e; rfl
  | x :: xs, ks, e, ok => by
    unfold keysOf at e
    split at e
    · rename_i k ks' e1 e2
      cases e
      rw [List.all_cons, Bool.and_eq_true] at ok
      exact ⟨_, _, rfl, rep_key e1 (by cases x <;> first | exact ok.1 | cases e1), reps_key e2 ok.2⟩
    · cases e
theorem keysOf_rep : ∀ {xs : List Vl} {vs : List V} {ks : List Key}, Reps K W xs vs → keysOf xs = some ks → vs = ks.map kV
  | [], _, _, h, e => by cases h; cases e; rfl
  | x :: xs, _, ks, h, e => by
    obtain ⟨v, r, rfl, h1, h2⟩ := h
    unfold keysOf at e
    split at e
    · rename_i k ks' e1 e2
      cases e
      rw [keyOf_rep h1 e1, keysOf_rep h2 e2]; rfl
    · cases e
theorem keyTOf_rep {x : Vl} {v : V} {q : List Key} (h : Rep K W x v) (e : keyTOf x = some q) : ∃ b, v = .ref b ∧ W.H b = some (.tup (q.map kV)) := by
  cases x with
  | stp xs =>
    obtain ⟨a, vs, rfl, h1, h2⟩ := h
    rw [keysOf_rep h2 e] at h1
    exact ⟨a, rfl, h1⟩
  | _ => cases e
end
/-- what a dict holds at a key: none, where the key is of no such kind -/
def dAt (t : Bool) (kvs : List (Vl × Vl)) (k : Vl) : Option (Option Vl) := match t with
  | false => (keyOf k).map fun q => dgetF keyOf kvs q
  | true => (keyTOf k).map fun q => dgetF keyTOf kvs q
def dPut (t : Bool) (kvs : List (Vl × Vl)) (k x : Vl) : Option (List (Vl × Vl)) := match t with
  | false => (keyOf k).map fun q => dputF keyOf kvs k q x
  | true => (keyTOf k).map fun q => dputF keyTOf kvs k q x
def dDrop (t : Bool) (kvs : List (Vl × Vl)) (k : Vl) : Option (List (Vl × Vl)) := match t with
  | false => (keyOf k).map fun q => ddropF keyOf kvs q
  | true => (keyTOf k).map fun q => ddropF keyTOf kvs q
section
variable {K : PySem.W.Frag} {W : Wd} {m : Md}
theorem dAt_get {t : Bool} {kvs : List (Vl × Vl)} {k : Vl} {v u : V} {o : Option Vl} (h : Pk K W m (.dct t kvs) v) (hk : Rep K W k u) (e : dAt t kvs k = some o) :
    ∃ a o', v = .ref a ∧ DGet W.H a u o' ∧ GetR K W o o' := by
  cases t with
  | false =>
    obtain ⟨q, eq, rfl⟩ := Option.map_eq_some_iff.mp e
    obtain ⟨a, ks, rfl, h1, h2⟩ := h.dK
    refine ⟨a, _, rfl, .inl ⟨ks, q, h1, keyOf_rep hk eq, rfl⟩, ?_⟩
    exact h2.to.get q
  | true =>
    obtain ⟨q, eq, rfl⟩ := Option.map_eq_some_iff.mp e
    obtain ⟨a, ks, rfl, h1, h2⟩ := h.dT
    obtain ⟨b, eb, hb⟩ := keyTOf_rep hk eq
    refine ⟨a, _, rfl, .inr ⟨ks, q, b, h1, eb, hb, rfl⟩, ?_⟩
    exact h2.to.get q
end
/-! ### in, not in; is -/
def vIn (x : Vl) : Vl → Option Bool
  | .str z => match x with
    | .str a => match a.cps.toList with
      | [c] => some (decide (c ∈ z.cps.toList))
      | _ => none
    | _ => none
  | .dct t kvs => (dAt t kvs x).map (·.isSome)
  | .lst ys => match py x 60, pys ys 59 with
    | some d, some ds => some (ds.any fun z => PyData.eqv z d)
    | _, _ => none
  | .tup ys => match py x 60, pys ys 59 with
    | some d, some ds => some (ds.any fun z => PyData.eqv z d)
    | _, _ => none
  | .stp ys => match py x 60, pys ys 59 with
    | some d, some ds => some (ds.any fun z => PyData.eqv z d)
    | _, _ => none
  | .ktp ys => match py x 60, pys ys 59 with
    | some d, some ds => some (ds.any fun z => PyData.eqv z d)
    | _, _ => none
  | _ => none
def vInV (x y : Vl) : Option Vl := (vIn x y).map .bl
def vNotInV (x y : Vl) : Option Vl := (vIn x y).map fun b => .bl (!b)
def rInT (K : PySem.W.Frag) (f : Bool → Bool) : R2 := fun x y H Q => ∃ d ds, Dp K H x d ∧ (Dp K H y (.list ds) ∨ Dp K H y (.tuple ds)) ∧ SeqAt.shaped d = true ∧ SeqAt.shaped (.list ds) = true ∧ Q (.bl (f (ds.any fun z => PyData.eqv z d))) H
def rInDc (f : Bool → Bool) : R2 := fun x y H Q => ∃ a o, y = .ref a ∧ DGet H a x o ∧ Q (.bl (f o.isSome)) H
section
variable {kt : Kt} {X : Cx}
theorem op_inT (hu : X.A.units + 65 < cLine) : OpR X (compareOp .In) (rInT X.K id) := by
  intro pins s σ H x y v u Q I rx ry h
  obtain ⟨d, ds, hd, he, sd, se, q⟩ := h
  obtain ⟨as, r1⟩ := Dp.reads I d x v hd rx
  rcases he with he | he
  · obtain ⟨bs, r2⟩ := Dp.reads I (.list ds) y u he ry
    exact SeqAt.in_list_reads r2 r1 (SeqAt.canLay_of_shaped se) (SeqAt.canLay_of_shaped sd) (room_in_shaped sd hu) ⟨.bl _, H, I, rfl, q⟩
  · obtain ⟨bs, r2⟩ := Dp.reads I (.tuple ds) y u he ry
    exact SeqAt.in_tuple_reads r2 r1 (SeqAt.canLay_of_shaped se) (SeqAt.canLay_of_shaped sd) (room_in_shaped sd hu) ⟨.bl _, H, I, rfl, q⟩
theorem op_notInT (hu : X.A.units + 65 < cLine) : OpR X (compareOp .NotIn) (rInT X.K not) := by
  intro pins s σ H x y v u Q I rx ry h
  obtain ⟨d, ds, hd, he, sd, se, q⟩ := h
  obtain ⟨as, r1⟩ := Dp.reads I d x v hd rx
  rcases he with he | he
  · obtain ⟨bs, r2⟩ := Dp.reads I (.list ds) y u he ry
    exact SeqAt.notIn_list_reads r2 r1 (SeqAt.canLay_of_shaped se) (SeqAt.canLay_of_shaped sd) (room_in_shaped sd hu) ⟨.bl _, H, I, rfl, q⟩
  · obtain ⟨bs, r2⟩ := Dp.reads I (.tuple ds) y u he ry
    exact SeqAt.notIn_tuple_reads r2 r1 (SeqAt.canLay_of_shaped se) (SeqAt.canLay_of_shaped sd) (room_in_shaped sd hu) ⟨.bl _, H, I, rfl, q⟩
theorem op_inDc (hu : X.A.units + 65 < cLine) : OpR X (compareOp .In) (rInDc id) := by
  intro pins s σ H x y v u Q I rx ry h
  obtain ⟨a, o, rfl, g, q⟩ := h
  cases ry
  exact d_in (by omega) I g rx fun s' I' => ⟨.bl _, H, I', rfl, q⟩
theorem op_notInDc (hu : X.A.units + 65 < cLine) : OpR X (compareOp .NotIn) (rInDc not) := by
  intro pins s σ H x y v u Q I rx ry h
  obtain ⟨a, o, rfl, g, q⟩ := h
  cases ry
  exact d_notIn (by omega) I g rx fun s' I' => ⟨.bl _, H, I', rfl, q⟩
theorem str_one {a : Str} {c : Nat} (h : a.cps.toList = [c]) : a = ⟨#[c]⟩ := by
  obtain ⟨a⟩ := a
  exact congrArg Str.mk (by rw [← Array.toList_inj, h])
theorem vIn_r {f : Bool → Bool} {x y : Vl} {v u : V} {W : Wd} {Q : VK} {b : Bool} (hK : X.K = kt.K) (hx : Pk kt.K W .f x v) (hy : Pk kt.K W .f y u) (e : vIn x y = some b) (q : Q (.bl (f b)) W.H) :
    (∃ (c : Nat) (z : Str), v = .str ⟨#[c]⟩ ∧ u = .str z ∧ Q (.bl (f (decide (c ∈ z.cps.toList)))) W.H) ∨ rInT X.K f v u W.H Q ∨ rInDc f v u W.H Q := by
  have data : ∀ {d : PyData} {ds : List PyData}, py x 60 = some d → Dp X.K W.H u (.list ds) ∨ Dp X.K W.H u (.tuple ds) → PyData.canLayAll0 ds = true → PyData.depthAll ds ≤ 59 → (ds.any fun z => PyData.eqv z d) = b → rInT X.K f v u W.H Q := by
    intro d ds e1 h1 h2 h3 eb
    obtain ⟨a1, a2, a3⟩ := pk_py hx e1
    rw [← hK] at a1
    exact ⟨d, ds, a1, h1, shaped60 a2 a3, shaped60 (by simpa [PyData.canLay0] using h2) (by simp only [PyData.depth]; omega), by rw [eb]; exact q⟩
  cases y with
  | str z =>
    obtain ⟨rfl, _⟩ := hy.str
    cases x with
    | str a =>
      have e : (match a.cps.toList with | [c] => some (decide (c ∈ z.cps.toList)) | _ => none) = some b := e
      split at e
      · rename_i c ec
        cases e
        obtain ⟨rfl, _⟩ := hx.str
        exact .inl ⟨c, z, by rw [str_one ec], rfl, q⟩
      · cases e
    | _ => cases e
  | dct t kvs =>
    obtain ⟨o, eo, rfl⟩ := Option.map_eq_some_iff.mp e
    have hx' : Rep kt.K W x v := hx.val (fun xs z => by subst z; cases t <;> cases eo) fun t' kvs' z => by subst z; cases t <;> cases eo
    obtain ⟨a, o', rfl, g, h⟩ := dAt_get hy hx' eo
    refine .inr (.inr ⟨a, o', rfl, g, ?_⟩)
    cases o with
    | some x => obtain ⟨w, rfl, _⟩ := h; exact q
    | none => subst h; exact q
  | lst ys =>
    have e : (match py x 60, pys ys 59 with | some d, some ds => some (ds.any fun z => PyData.eqv z d) | _, _ => none) = some b := e
    split at e
    · rename_i d ds e1 e2
      obtain ⟨a, vs, rfl, h1, h2⟩ := hy.lst
      obtain ⟨q1, q2, q3⟩ := pys_spec ys 59 ds vs h2 e2
      exact .inr (.inl (data e1 (.inl (.lst (SqL.of h1) (by rw [hK]; exact q1))) q2 q3 (Option.some.inj e)))
    · cases e
  | tup ys =>
    have e : (match py x 60, pys ys 59 with | some d, some ds => some (ds.any fun z => PyData.eqv z d) | _, _ => none) = some b := e
    split at e
    · rename_i d ds e1 e2
      obtain ⟨a, vs, rfl, h1, h2⟩ := hy.tup
      obtain ⟨q1, q2, q3⟩ := pys_spec ys 59 ds vs h2 e2
      exact .inr (.inl (data e1 (.inr (.tup (by rw [hK]; exact h1) (by rw [hK]; exact q1))) q2 q3 (Option.some.inj e)))
    · cases e
  | ktp ys =>
    have e : (match py x 60, pys ys 59 with | some d, some ds => some (ds.any fun z => PyData.eqv z d) | _, _ => none) = some b := e
    split at e
    · rename_i d ds e1 e2
      obtain ⟨a, vs, rfl, h1, h2⟩ := hy.ktp
      obtain ⟨q1, q2, q3⟩ := pys_spec ys 59 ds vs h2 e2
      exact .inr (.inl (data e1 (.inr (.tup (by rw [hK]; exact h1) (by rw [hK]; exact q1))) q2 q3 (Option.some.inj e)))
    · cases e
  | stp ys =>
    have e : (match py x 60, pys ys 59 with | some d, some ds => some (ds.any fun z => PyData.eqv z d) | _, _ => none) = some b := e
    split at e
    · rename_i d ds e1 e2
      obtain ⟨a, vs, rfl, h1, h2⟩ := hy.stp
      obtain ⟨q1, q2, q3⟩ := pys_spec ys 59 ds vs h2 e2
      exact .inr (.inl (data e1 (.inr (.tup (by rw [hK]; exact h1) (by rw [hK]; exact q1))) q2 q3 (Option.some.inj e)))
    · cases e
  | _ => cases e
theorem ops_in (hu : X.A.units + 65 < cLine) (hK : X.K = kt.K := by rfl) : OpS kt X (compareOp .In) vInV := by
  refine ⟨_, op_in_sign.or ((op_inT hu).or (op_inDc hu)), fun B σ env G W x y v u z Q A hx hy e q => ?_⟩
  obtain ⟨b, eb, rfl⟩ := Option.map_eq_some_iff.mp e
  exact vIn_r (f := id) hK hx hy eb (q W _ Ext.refl A rfl)
theorem ops_notIn (hu : X.A.units + 65 < cLine) (hK : X.K = kt.K := by rfl) : OpS kt X (compareOp .NotIn) vNotInV := by
  refine ⟨_, op_notIn_sign.or ((op_notInT hu).or (op_notInDc hu)), fun B σ env G W x y v u z Q A hx hy e q => ?_⟩
  obtain ⟨b, eb, rfl⟩ := Option.map_eq_some_iff.mp e
  exact vIn_r (f := not) hK hx hy eb (q W _ Ext.refl A rfl)
/-- is: with None, or of two objects of the store -/
def vIs : Vl → Vl → Option Bool
  | .ref i, .ref j => some (decide (i = j))
  | .non, .non => some true
  | .ref _, .non => some false
  | .str _, .non => some false
  | .int _, .non => some false
  | .tup _, .non => some false
  | .lst _, .non => some false
  | .bl _, .non => some false
  | _, _ => none
end
end CardH
end
section
set_option maxHeartbeats 2000000
namespace CardH
open PySem PySem.Spec PyProof.Rows L2

/-! ### arguments -/
def PkS (K : PySem.W.Frag) (W : Wd) (m : Md) : List Vl → List V → Prop
  | [], vs => vs = []
  | x :: xs, vs => ∃ v r, vs = v :: r ∧ Pk K W m x v ∧ PkS K W m xs r
theorem PkS.ext {K : PySem.W.Frag} {p : Bool} {W W' : Wd} {m : Md} (e : Ext p W W') (hp : p = true ∨ m ≠ .f) : ∀ {xs : List Vl} {vs : List V}, PkS K W m xs vs → PkS K W' m xs vs
  | [], _, h => h
  | _ :: _, _, h => by
    obtain ⟨v, r, e1, h1, h2⟩ := h
    exact ⟨v, r, e1, h1.ext e hp, PkS.ext e hp h2⟩
theorem PkS.strict {K : PySem.W.Frag} {W : Wd} : ∀ {xs : List Vl} {vs : List V}, PkS K W .s xs vs → Reps K W xs vs
  | [], _, h => h
  | _ :: _, _, h => by
    obtain ⟨v, r, e1, h1, h2⟩ := h
    exact ⟨v, r, e1, h1.strict, PkS.strict h2⟩
theorem PkS.any {K : PySem.W.Frag} {W : Wd} {m : Md} : ∀ {xs : List Vl} {vs : List V}, PkS K W m xs vs → PkS K W .f xs vs
  | [], _, h => h
  | _ :: _, _, h => by
    obtain ⟨v, r, e1, h1, h2⟩ := h
    exact ⟨v, r, e1, h1.any, PkS.any h2⟩
theorem PkS.one {K : PySem.W.Frag} {W : Wd} {m : Md} {x : Vl} {vs : List V} (h : PkS K W m [x] vs) : ∃ v, vs = [v] ∧ Pk K W m x v := by
  obtain ⟨v, r, e1, h1, h2⟩ := h
  cases h2
  exact ⟨v, e1, h1⟩
theorem PkS.two {K : PySem.W.Frag} {W : Wd} {m : Md} {x y : Vl} {vs : List V} (h : PkS K W m [x, y] vs) : ∃ v u, vs = [v, u] ∧ Pk K W m x v ∧ Pk K W m y u := by
  obtain ⟨v, r, e1, h1, h2⟩ := h
  obtain ⟨u, rfl, h3⟩ := h2.one
  exact ⟨v, u, e1, h1, h3⟩
def SAm (kt : Kt) (B : Bs) (X : Cx) (p : Bool) (m : Md) (es : List Expr) (d : DA) : Prop := ∀ Wish, Takes X Wish → PA X es (rdX kt B p Wish (fun W x v => PkS kt.K W m x v) d)
def daNil : DA := fun _ G => .ok [] G
def daCons (d : DE) (ds : DA) : DA := fun env G => (d env G).bind fun x G1 => (ds env G1).bind fun xs G2 => .ok (x :: xs) G2
def okMs (p : Bool) : Md → Bool
  | .f => p
  | _ => true
section
variable {kt : Kt} {B : Bs} {X : Cx} {p pa pb pc : Bool} {m ma mb mc : Md} {a b c e : Expr} {es : List Expr} {da db dc d : DE} {ds : DA} {t u : DT} {pos : Pos} {i : Nat}
theorem sa_nil : SAm kt B X true m [] daNil := fun Wish _ => pa_nil.imp fun σ H Q ⟨W, env, G, e, A, h⟩ => by
  subst e; exact h W _ Ext.refl A rfl
theorem sa_cons (h1 : SX kt B X pa m e d) (h2 : SAm kt B X pb m es ds) (hm : okMs pb m = true := by rfl) (hs : starEach (e :: es) X.env = (false, eval e X.env) :: starEach es X.env := by rfl) :
    SAm kt B X (pa && pb) m (e :: es) (daCons d ds) := fun Wish tk => by
  refine (pa_cons (h1 Wish tk) (h2 Wish tk) hs).imp fun σ H Q ⟨W, env, G, e, A, h⟩ => ?_
  subst e
  refine ⟨W, env, G, rfl, A, h.bindE.mono ?_⟩
  rintro v H1 ⟨W1, x, G1, rfl, e1, A1, z1, h1⟩
  refine ⟨W1, env, G1, rfl, A1, h1.bindL.mono ?_⟩
  rintro vs H2 ⟨W2, xs, G2, rfl, e2, A2, z2, h2⟩
  refine h2 W2 _ Ext.refl A2 ⟨v, vs, rfl, z1.ext e2 ?_, z2⟩
  cases m with
  | s => exact .inr (fun z => nomatch z)
  | k => exact .inr (fun z => nomatch z)
  | f => exact .inl hm

/-! ### displays -/
def dTup (ds : DA) : DE := fun env G => (ds env G).bind fun xs G1 => if xs.length ≤ 16777216 then .ok (.tup xs) G1 else .bad
def dStp (ds : DA) : DE := fun env G => (ds env G).bind fun xs G1 => if xs.length ≤ 16777216 then .ok (.stp xs) G1 else .bad
def dLst (ds : DA) : DE := fun env G => (ds env G).bind fun xs G1 => if xs.length ≤ 16777216 then .ok (.lst xs) G1 else .bad
theorem sx_tup {k} (h : SAm kt B X p .s es ds) : SX kt B X p .s (.Tuple es k pos) (dTup ds) := fun Wish tk => by
  refine (pe_tupP (h Wish tk)).imp fun σ H Q ⟨W, env, G, e, A, h⟩ => ?_
  subst e
  refine ⟨W, env, G, rfl, A, h.bindL.mono ?_⟩
  rintro vs H1 ⟨W1, xs, G1, rfl, e1, A1, z1, h1⟩
  have z1 := z1.strict
  split at h1
  · refine ⟨by rw [← z1.length]; rw [sizeLine_eq]; assumption, fun p o hp hd => ?_⟩
    obtain ⟨e2, A2, r⟩ := new_tup A1 hp hd z1
    exact h1 _ _ e2.weak A2 (.inl r)
  · exact h1.elim
theorem sx_stp {k} (h : SAm kt B X p .s es ds) : SX kt B X p .s (.Tuple es k pos) (dStp ds) := fun Wish tk => by
  refine (pe_tup (h Wish tk)).imp fun σ H Q ⟨W, env, G, e, A, h⟩ => ?_
  subst e
  refine ⟨W, env, G, rfl, A, h.bindL.mono ?_⟩
  rintro vs H1 ⟨W1, xs, G1, rfl, e1, A1, z1, h1⟩
  have z1 := z1.strict
  split at h1
  · refine ⟨by rw [← z1.length]; rw [sizeLine_eq]; assumption, fun p hp => ?_⟩
    obtain ⟨e2, A2, r⟩ := new_stp A1 hp z1
    exact h1 _ _ e2.weak A2 (.inl r)
  · exact h1.elim
theorem sx_lst (h : SAm kt B X p .s es ds) : SX kt B X p .s (.List es pos) (dLst ds) := fun Wish tk => by
  refine (pe_lst (h Wish tk)).imp fun σ H Q ⟨W, env, G, e, A, h⟩ => ?_
  subst e
  refine ⟨W, env, G, rfl, A, h.bindL.mono ?_⟩
  rintro vs H1 ⟨W1, xs, G1, rfl, e1, A1, z1, h1⟩
  have z1 := z1.strict
  split at h1
  · refine ⟨by rw [← z1.length]; rw [sizeLine_eq]; assumption, fun p hp => ?_⟩
    obtain ⟨e2, A2, r⟩ := new_lst A1 hp z1
    exact h1 _ _ e2.weak A2 (.inl r)
  · exact h1.elim
end

/-! ### subscripts -/
def vIx (G : Gst) : Vl → Vl → Option Vl
  | .lst xs, .int i => atI xs i
  | .tup xs, .int i => atI xs i
  | .stp xs, .int i => atI xs i
  | .ktp xs, .int i => atI xs i
  | .scr ns, .int i => (atI ns i).map .int
  | .str z, .int i => if z.length ≤ 16777216 then (atI z.cps.toList i).map fun c => .str ⟨#[c]⟩ else none
  | .ref j, .int i => match G[j]? with
    | some (.lst xs) => atI xs i
    | _ => none
  | .dct t kvs, k => (dAt t kvs k).join
  | _, _ => none
def dIx (da db : DE) : DE := fun env G => (da env G).bind fun x G1 => (db env G1).bind fun y G2 => opt (vIx G2 x y) G2
section
variable {K : PySem.W.Frag} {W : Wd}
theorem ixN_lt {n : Nat} {i : Int} {j : Nat} (h : ixN n i = some j) : j < n := by
  unfold ixN at h
  split at h
  · split at h
    · cases h; omega
    · cases h
  · split at h
    · cases h; omega
    · cases h
theorem Reps.atI {xs : List Vl} {vs : List V} {i : Int} {x : Vl} (r : Reps K W xs vs) (h : L2.atI xs i = some x) : ∃ v, L2.atI vs i = some v ∧ Rep K W x v := by
  unfold L2.atI at h ⊢
  rw [r.length] at h
  obtain ⟨j, e, h⟩ := Option.bind_eq_some_iff.mp h
  obtain ⟨v, h1, h2⟩ := r.get h
  exact ⟨v, by rw [e]; exact h1, h2⟩
theorem atI_map {α β : Type} (f : α → β) (xs : List α) (i : Int) : L2.atI (xs.map f) i = (L2.atI xs i).map f := by
  unfold L2.atI
  rw [List.length_map]
  cases ixN xs.length i with
  | none => rfl
  | some j => simp
theorem okStr_one {z : Str} {c : Nat} {j : Nat} (h : okStr z = true) (e : z.cps.toList[j]? = some c) : okStr ⟨#[c]⟩ = true := by
  have hm : c ∈ z.cps.toList := List.mem_of_getElem? e
  have := Array.all_eq_true'.mp h c (by simpa using hm)
  simpa [okStr] using this
end
section
variable {kt : Kt} {B : Bs} {X : Cx} {p pa pb pc : Bool} {m ma mb mc : Md} {a b c e : Expr} {es : List Expr} {da db dc d : DE} {ds : DA} {t u : DT} {pos : Pos} {i : Nat}
theorem ix_dict (hu : X.A.units + 1 < cLine) : IxR X (fun x y H Q => ∃ a v, x = .ref a ∧ DGet H a y (some v) ∧ Q v H) := by
  intro value slice pins s σ H x y v u Q I rx ry h hs
  obtain ⟨a, w, rfl, g, q⟩ := h
  cases rx
  exact tail_any (dict_typeIs I g) PySem.F.slot_dict_getitem.lookup (d_getItem hu I g ry fun w' s' I' r => ⟨w, H, I', r, q⟩) (hs)
theorem vIx_r {W : Wd} {G : Gst} {σ : L2.St} {env : LEnv} {x y z : Vl} {v u : V} {Q : VK} (hK : X.K = kt.K) (A : RAll kt B W σ env G) (hx : Pk kt.K W .f x v) (hy : Pk kt.K W .f y u) (e : vIx G x y = some z) (q : ∀ w, Rep kt.K W z w → Q w W.H) :
    rIx X.K v u W.H Q ∨ (∃ a w, v = .ref a ∧ DGet W.H a u (some w) ∧ Q w W.H) := by
  rw [hK]
  cases x with
  | dct t kvs =>
    have e : (dAt t kvs y).join = some z := e
    obtain ⟨o, eo, e⟩ := Option.bind_eq_some_iff.mp (show (dAt t kvs y).bind id = some z from by cases h : dAt t kvs y <;> rw [h] at e <;> simpa using e)
    subst e
    have hy' : Rep kt.K W y u := hy.val (fun xs z => by subst z; cases t <;> cases eo) fun t' kvs' z => by subst z; cases t <;> cases eo
    obtain ⟨a, o', rfl, g, h⟩ := dAt_get hx hy' eo
    obtain ⟨w, rfl, r⟩ := h
    exact .inr ⟨a, w, rfl, g, q w r⟩
  | lst xs =>
    cases y with
    | int i =>
      obtain rfl := hy.int
      obtain ⟨a, vs, rfl, h, r⟩ := hx.lst
      obtain ⟨w, h1, h2⟩ := r.atI e
      exact .inl (.inl ⟨a, vs, i, w, rfl, rfl, SqL.of h, h1, q w h2⟩)
    | _ => cases e
  | tup xs =>
    cases y with
    | int i =>
      obtain rfl := hy.int
      obtain ⟨a, vs, rfl, h, r⟩ := hx.tup
      obtain ⟨w, h1, h2⟩ := r.atI e
      exact .inl (.inr (.inl ⟨a, vs, i, w, rfl, rfl, h, h1, q w h2⟩))
    | _ => cases e
  | stp xs =>
    cases y with
    | int i =>
      obtain rfl := hy.int
      obtain ⟨a, vs, rfl, h, r⟩ := hx.stp
      obtain ⟨w, h1, h2⟩ := r.atI e
      exact .inl (.inr (.inl ⟨a, vs, i, w, rfl, rfl, h, h1, q w h2⟩))
    | _ => cases e
  | ktp xs =>
    cases y with
    | int i =>
      obtain rfl := hy.int
      obtain ⟨a, vs, rfl, h, r⟩ := hx.ktp
      obtain ⟨w, h1, h2⟩ := r.atI e
      exact .inl (.inr (.inl ⟨a, vs, i, w, rfl, rfl, h, h1, q w h2⟩))
    | _ => cases e
  | scr ns =>
    cases y with
    | int i =>
      obtain rfl := hy.int
      obtain ⟨a, rfl, h⟩ := hx.scr
      obtain ⟨k, e1, rfl⟩ := Option.map_eq_some_iff.mp e
      exact .inl (.inl ⟨a, _, i, .int k, rfl, rfl, h, by rw [atI_map, e1]; rfl, q _ rfl⟩)
    | _ => cases e
  | str z' =>
    cases y with
    | int i =>
      obtain rfl := hy.int
      obtain ⟨rfl, ok⟩ := hx.str
      have e : (if z'.length ≤ 16777216 then (L2.atI z'.cps.toList i).map fun c => Vl.str ⟨#[c]⟩ else none) = some z := e
      split at e
      · obtain ⟨c, e1, rfl⟩ := Option.map_eq_some_iff.mp e
        obtain ⟨j, _, e2, _⟩ := atI_get e1
        exact .inl (.inr (.inr ⟨z', i, c, rfl, rfl, by rw [sizeLine_eq]; assumption, e1, q _ ⟨rfl, okStr_one ok e2⟩⟩))
      · cases e
    | _ => cases e
  | ref j =>
    cases y with
    | int i =>
      obtain rfl := hy.int
      obtain ⟨a, rfl, ha⟩ := hx.ref
      have e : (match G[j]? with | some (.lst xs) => L2.atI xs i | _ => none) = some z := e
      split at e
      · rename_i xs eg
        obtain ⟨a', h1, h2, vs, h3, r⟩ := A.ok.rg.ob j _ eg
        rw [ha] at h1; cases h1
        obtain ⟨w, h1, h2⟩ := r.atI e
        exact .inl (.inl ⟨a, vs, i, w, rfl, rfl, SqL.of h3, h1, q w h2⟩)
      · cases e
    | _ => cases e
  | _ => cases e
theorem sx_ix (hu : X.A.units + 1 < cLine) (ha : SX kt B X pa ma a da) (hb : SX kt B X pb mb b db) (hs : PlainIx b := by intro _ _; rfl) (hm : okM pb ma = true := by rfl) (hK : X.K = kt.K := by rfl) :
    SX kt B X (pa && pb) .s (.Subscript a b pos) (dIx da db) := fun Wish tk => by
  refine (pe_ix (ix_seq.or (ix_dict hu)) (ha Wish tk) (hb Wish tk) hs).imp fun σ H Q ⟨W, env, G, e, A, h⟩ => ?_
  subst e
  refine ⟨W, env, G, rfl, A, h.bindE.mono ?_⟩
  rintro v H1 ⟨W1, x, G1, rfl, e1, A1, z1, h1⟩
  refine ⟨W1, env, G1, rfl, A1, h1.bindL.mono ?_⟩
  rintro u H2 ⟨W2, y, G2, rfl, e2, A2, z2, h2⟩
  obtain ⟨z, ez, q⟩ := opsPo h2
  exact vIx_r hK A2 (z1.ext e2 (okM_or hm)).any z2.any ez fun w r => q W2 w Ext.refl A2 r
end

/-! ### slices -/
def cutL {α : Type} (xs : List α) (lo hi : Option Int) : List α := (xs.drop (HT.sIx xs.length 0 lo)).take (HT.sIx xs.length xs.length hi - HT.sIx xs.length 0 lo)
def isWhole (n : Nat) (lo hi : Option Int) : Bool := HT.sIx n 0 lo == 0 && HT.sIx n n hi == n
def vSl (G : Gst) : Vl → Option Int → Option Int → Option Vl
  | .lst xs, lo, hi => some (.lst (cutL xs lo hi))
  | .scr ns, lo, hi => some (.lst ((cutL ns lo hi).map .int))
  | .tup xs, lo, hi => some (if isWhole xs.length lo hi then .tup xs else .tup (cutL xs lo hi))
  | .stp xs, lo, hi => some (if isWhole xs.length lo hi then .stp xs else .tup (cutL xs lo hi))
  | .ktp xs, lo, hi => some (if isWhole xs.length lo hi then .ktp xs else .tup (cutL xs lo hi))
  | .str z, lo, hi => if z.length ≤ 16777216 then some (.str (cutS z lo hi)) else none
  | .ref j, lo, hi => match G[j]? with
    | some (.lst xs) => some (.lst (cutL xs lo hi))
    | _ => none
  | _, _, _ => none
abbrev DO := LEnv → Gst → R (Option Int)
def doNone : DO := fun _ G => .ok none G
def doSome (d : DE) : DO := fun env G => (d env G).bind fun x G1 => match x with
  | .int i => .ok (some i) G1
  | _ => .bad
def dSl (da : DE) (dl dh : DO) : DE := fun env G => (da env G).bind fun x G1 => (dl env G1).bind fun l G2 => (dh env G2).bind fun h G3 => opt (vSl G3 x l h) G3
def ZO : Wd → Option Int → Option Int → Prop := fun _ a b => a = b
def SO (kt : Kt) (B : Bs) (X : Cx) (p : Bool) (e : Option Expr) (d : DO) : Prop := ∀ Wish, Takes X Wish → PO X e (rdX kt B p Wish ZO d)
theorem _root_.L2.PO.imp {X : Cx} {e : Option Expr} {t t' : TO} (h : PO X e t) (i : ∀ σ H Q, t' σ H Q → t σ H Q) : PO X e t' := ⟨fun pins s σ H Q I q => h.run pins s σ H Q I (i σ H Q q)⟩
section
variable {K : PySem.W.Frag} {W : Wd}
theorem Reps.cut {xs : List Vl} {vs : List V} (r : Reps K W xs vs) (lo hi : Option Int) : Reps K W (cutL xs lo hi) (cutV vs lo hi) := by
  unfold cutL cutV
  rw [r.length]
  exact (r.drop _).take _
theorem reps_ints (ns : List Int) : Reps K W (ns.map Vl.int) (ns.map V.int) := by
  induction ns with
  | nil => rfl
  | cons n ns ih => exact ⟨_, _, rfl, rfl, ih⟩
theorem cut_ints (ns : List Int) (lo hi : Option Int) : cutV (ns.map V.int) lo hi = (cutL ns lo hi).map V.int := by
  unfold cutL cutV
  rw [List.length_map, List.map_take, List.map_drop]
theorem okStr_cut {z : Str} (lo hi : Option Int) (h : okStr z = true) : okStr (cutS z lo hi) = true := by
  unfold okStr cutS at *
  rw [List.all_toArray, List.all_eq_true]
  intro c hc
  have hc := List.mem_of_mem_drop (List.mem_of_mem_take hc)
  have := Array.all_eq_true'.mp h c (by simpa using hc)
  exact this
end
section
variable {kt : Kt} {B : Bs} {X : Cx} {p pa pb pc : Bool} {m ma mb mc : Md} {a b c e : Expr} {es : List Expr} {da db dc d : DE} {ds : DA} {t u : DT} {pos : Pos} {i : Nat} {dl dh : DO} {lo hi : Option Expr}
theorem so_none : SO kt B X true none doNone := fun Wish _ => po_none.imp fun σ H Q ⟨W, env, G, e, A, h⟩ => by
  subst e; exact h W _ Ext.refl A rfl
theorem so_some (ha : SX kt B X p m a da) : SO kt B X p (some a) (doSome da) := fun Wish tk => by
  refine (po_some (ha Wish tk)).imp fun σ H Q ⟨W, env, G, e, A, h⟩ => ?_
  subst e
  refine ⟨W, env, G, rfl, A, h.bindL.mono ?_⟩
  rintro v H1 ⟨W1, x, G1, rfl, e1, A1, z1, h1⟩
  cases x with
  | int i => exact ⟨i, z1.int, h1 W1 _ Ext.refl A1 rfl⟩
  | _ => exact h1.elim
theorem vSl_r {W : Wd} {G : Gst} {σ : L2.St} {env : LEnv} {x z : Vl} {v : V} {lo hi : Option Int} {Q : VK} (hK : X.K = kt.K) (A : RAll kt B W σ env G) (hx : Pk kt.K W .f x v) (e : vSl G x lo hi = some z)
    (q : ∀ W' w, Ext true W W' → RAll kt B W' σ env G → Rep kt.K W' z w → Q w W'.H) : rSlL X.K v lo hi W.H Q ∨ rSlP X.K v lo hi W.H Q ∨ rSlS v lo hi W.H Q := by
  rw [hK]
  have tp : ∀ {xs : List Vl} {vs : List V} {a : Addr} {y : Vl}, v = .ref a → SqT kt.K W.H a vs → Reps kt.K W xs vs → Rep kt.K W y v → some (if isWhole xs.length lo hi then y else .tup (cutL xs lo hi)) = some z → rSlP kt.K v lo hi W.H Q := by
    intro xs vs a y ev h r ry e
    subst ev
    have lw : (isWhole xs.length lo hi = true) ↔ (HT.sIx vs.length 0 lo = 0 ∧ HT.sIx vs.length vs.length hi = vs.length) := by
      unfold isWhole; rw [r.length]; simp
    refine ⟨a, vs, rfl, h, fun w => ?_, fun w p o hp hd => ?_⟩
    · rw [if_pos (lw.mpr w)] at e
      cases e
      exact q W _ Ext.refl A ry
    · rw [if_neg (fun k => w (lw.mp k))] at e
      cases e
      obtain ⟨e2, A2, r2⟩ := new_tup A hp hd (r.cut lo hi)
      exact q _ _ e2 A2 r2
  cases x with
  | lst xs =>
    cases e
    obtain ⟨a, vs, rfl, h, r⟩ := hx.lst
    refine .inl ⟨a, vs, rfl, SqL.of h, fun p hp => ?_⟩
    obtain ⟨e2, A2, r2⟩ := new_lst A hp (r.cut lo hi)
    exact q _ _ e2 A2 r2
  | scr ns =>
    cases e
    obtain ⟨a, rfl, h⟩ := hx.scr
    refine .inl ⟨a, _, rfl, h, fun p hp => ?_⟩
    obtain ⟨e2, A2, r2⟩ := new_lst A hp (reps_ints (K := kt.K) (W := W) (cutL ns lo hi))
    rw [cut_ints]
    exact q _ _ e2 A2 r2
  | tup xs =>
    obtain ⟨a, vs, ev, h, r⟩ := hx.tup
    exact .inr (.inl (tp ev h r (hx.val (fun _ z => nomatch z) fun _ _ z => nomatch z) e))
  | stp xs =>
    obtain ⟨a, vs, ev, h, r⟩ := hx.stp
    exact .inr (.inl (tp ev h r (hx.val (fun _ z => nomatch z) fun _ _ z => nomatch z) e))
  | ktp xs =>
    obtain ⟨a, vs, ev, h, r⟩ := hx.ktp
    exact .inr (.inl (tp ev h r (hx.val (fun _ z => nomatch z) fun _ _ z => nomatch z) e))
  | str z' =>
    have e : (if z'.length ≤ 16777216 then some (Vl.str (cutS z' lo hi)) else none) = some z := e
    obtain ⟨rfl, ok⟩ := hx.str
    split at e
    · cases e
      exact .inr (.inr ⟨z', rfl, by rw [sizeLine_eq]; assumption, q W _ Ext.refl A ⟨rfl, okStr_cut lo hi ok⟩⟩)
    · cases e
  | ref j =>
    obtain ⟨a, rfl, ha⟩ := hx.ref
    have e : (match G[j]? with | some (.lst xs) => some (Vl.lst (cutL xs lo hi)) | _ => none) = some z := e
    split at e
    · rename_i xs eg
      cases e
      obtain ⟨a', h1, h2, vs, h3, r⟩ := A.ok.rg.ob j _ eg
      rw [ha] at h1; cases h1
      refine .inl ⟨a, vs, rfl, SqL.of h3, fun p hp => ?_⟩
      obtain ⟨e2, A2, r2⟩ := new_lst A hp (r.cut lo hi)
      exact q _ _ e2 A2 r2
    · cases e
  | _ => cases e
theorem sx_sl {p2 : Pos} (ha : SX kt B X pa ma a da) (hl : SO kt B X pb lo dl) (hh : SO kt B X pc hi dh) (hm : okM (pb && pc) ma = true := by rfl) (hK : X.K = kt.K := by rfl) :
    SX kt B X (pa && (pb && pc)) .s (.Subscript a (.Slice lo hi none p2) pos) (dSl da dl dh) := fun Wish tk => by
  refine (pe_slice (sl_list.or (sl_tupP.or sl_str)) (ha Wish tk) (hl Wish tk) (hh Wish tk)).imp fun σ H Q ⟨W, env, G, e, A, h⟩ => ?_
  subst e
  refine ⟨W, env, G, rfl, A, h.bindE.mono ?_⟩
  rintro v H1 ⟨W1, x, G1, rfl, e1, A1, z1, h1⟩
  refine ⟨W1, env, G1, rfl, A1, h1.bindE.mono ?_⟩
  rintro l H2 ⟨W2, l', G2, rfl, e2, A2, z2, h2⟩
  obtain rfl : l' = l := z2
  refine ⟨W2, env, G2, rfl, A2, h2.bindL.mono ?_⟩
  rintro r H3 ⟨W3, r', G3, rfl, e3, A3, z3, h3⟩
  obtain rfl : r' = r := z3
  obtain ⟨z, ez, q⟩ := opsPo h3
  exact vSl_r hK A3 (z1.ext (e2.trans e3) (okM_or hm)).any ez q
end

/-! ### calls of what is built in -/
def FnS (kt : Kt) (X : Cx) (f : Value) (o : Gst → List Vl → Option Vl) : Prop :=
  ∃ r : List V → Hp → VK → Prop, CallR X f r ∧ ∀ (B : Bs) (σ : L2.St) (env : LEnv) (G : Gst) (W : Wd) (xs : List Vl) (vs : List V) (z : Vl) (Q : VK), RAll kt B W σ env G → PkS kt.K W .f xs vs → o G xs = some z →
    (∀ W' w, Ext true W W' → RAll kt B W' σ env G → Rep kt.K W' z w → Q w W'.H) → r vs W.H Q
def dFn (o : Gst → List Vl → Option Vl) (ds : DA) : DE := fun env G => (ds env G).bind fun xs G1 => opt (o G1 xs) G1
section
variable {kt : Kt} {B : Bs} {X : Cx} {p pa pb pc : Bool} {m ma mb mc : Md} {a b c e : Expr} {es : List Expr} {da db dc d : DE} {ds : DA} {t u : DT} {pos np : Pos} {i : Nat} {x : Str} {id T : String} {o : Gst → List Vl → Option Vl}
theorem sx_fn (ho : FnS kt X (.builtin id) o) (ha : SAm kt B X p m (e :: es) ds) (hg : Gl X x := by rfl) (hm : X.mg x = none := by rfl) (hv : bootBuiltins x = some (.builtin id) := by kernel_rfl) (hn : x ≠ "__name__" := by decide) (hdb : (x == ("__debug__" : Str)) = false := by decide)
    (he : starEach (e :: es) X.env = (false, eval e X.env) :: starEach es X.env := by rfl) (hpl : (backTo pos (starEach es X.env)).any (·.1) = false := by rfl) : SX kt B X p .s (.Call (.Name x np) (e :: es) [] pos) (dFn o ds) := fun Wish tk => by
  obtain ⟨r, hr, hs⟩ := ho
  refine (pe_callB hr hg hm hv (ha Wish tk) hn hdb he hpl).imp fun σ H Q ⟨W, env, G, e, A, h⟩ => ?_
  subst e
  refine ⟨W, env, G, rfl, A, h.bindL.mono ?_⟩
  rintro vs H1 ⟨W1, xs, G1, rfl, e1, A1, z1, h1⟩
  obtain ⟨z, ez, q⟩ := opsPo h1
  exact hs B σ env G1 W1 xs vs z Q A1 z1.any ez q
theorem sx_ty (ho : FnS kt X (.type T) o) (ha : SAm kt B X p m (e :: es) ds) (hg : Gl X x := by rfl) (hm : X.mg x = none := by rfl) (hv : bootBuiltins x = some (.type T) := by kernel_rfl) (hn : x ≠ "__name__" := by decide) (hdb : (x == ("__debug__" : Str)) = false := by decide)
    (he : starEach (e :: es) X.env = (false, eval e X.env) :: starEach es X.env := by rfl) (hpl : (backTo pos (starEach es X.env)).any (·.1) = false := by rfl) : SX kt B X p .s (.Call (.Name x np) (e :: es) [] pos) (dFn o ds) := fun Wish tk => by
  obtain ⟨r, hr, hs⟩ := ho
  refine (pe_callTy hr hg hm hv (ha Wish tk) hn hdb he hpl).imp fun σ H Q ⟨W, env, G, e, A, h⟩ => ?_
  subst e
  refine ⟨W, env, G, rfl, A, h.bindL.mono ?_⟩
  rintro vs H1 ⟨W1, xs, G1, rfl, e1, A1, z1, h1⟩
  obtain ⟨z, ez, q⟩ := opsPo h1
  exact hs B σ env G1 W1 xs vs z Q A1 z1.any ez q
end
/-- the items of what may be read as a list, a tuple -/
def seqOf (G : Gst) : Vl → Option (Bool × List Vl)
  | .lst xs => some (false, xs)
  | .tup xs => some (true, xs)
  | .stp xs => some (true, xs)
  | .ktp xs => some (true, xs)
  | .scr ns => some (false, ns.map .int)
  | .ref j => match G[j]? with
    | some (.lst xs) => some (false, xs)
    | _ => none
  | _ => none
section
variable {kt : Kt} {B : Bs} {X : Cx}
theorem seqOf_r {W : Wd} {G : Gst} {σ : L2.St} {env : LEnv} {x : Vl} {v : V} {k : Bool} {ys : List Vl} (A : RAll kt B W σ env G) (hx : Pk kt.K W .f x v) (e : seqOf G x = some (k, ys)) :
    ∃ a vs, v = .ref a ∧ Reps kt.K W ys vs ∧ (if k then SqT kt.K W.H a vs else SqL kt.K W.H a vs) := by
  cases x with
  | lst xs => cases e; obtain ⟨a, vs, rfl, h, r⟩ := hx.lst; exact ⟨a, vs, rfl, r, SqL.of h⟩
  | tup xs => cases e; obtain ⟨a, vs, rfl, h, r⟩ := hx.tup; exact ⟨a, vs, rfl, r, h⟩
  | stp xs => cases e; obtain ⟨a, vs, rfl, h, r⟩ := hx.stp; exact ⟨a, vs, rfl, r, h⟩
  | ktp xs => cases e; obtain ⟨a, vs, rfl, h, r⟩ := hx.ktp; exact ⟨a, vs, rfl, r, h⟩
  | scr ns => cases e; obtain ⟨a, rfl, h⟩ := hx.scr; exact ⟨a, _, rfl, reps_ints ns, h⟩
  | ref j =>
    obtain ⟨a, rfl, ha⟩ := hx.ref
    have e : (match G[j]? with | some (.lst xs) => some (false, xs) | _ => none) = some (k, ys) := e
    split at e
    · rename_i xs eg
      cases e
      obtain ⟨a', h1, h2, vs, h3, r⟩ := A.ok.rg.ob j _ eg
      rw [ha] at h1; cases h1
      exact ⟨a, vs, rfl, r, SqL.of h3⟩
    · cases e
  | _ => cases e
theorem seqOf_LT {W : Wd} {G : Gst} {σ : L2.St} {env : LEnv} {x : Vl} {v : V} {k : Bool} {ys : List Vl} (A : RAll kt B W σ env G) (hx : Pk kt.K W .f x v) (e : seqOf G x = some (k, ys)) :
    ∃ a vs, v = .ref a ∧ Reps kt.K W ys vs ∧ (SqL kt.K W.H a vs ∨ SqT kt.K W.H a vs) := by
  obtain ⟨a, vs, e1, r, h⟩ := seqOf_r A hx e
  cases k with
  | true => exact ⟨a, vs, e1, r, .inr h⟩
  | false => exact ⟨a, vs, e1, r, .inl h⟩
def oLen (G : Gst) : List Vl → Option Vl
  | [.str z] => if z.length ≤ 16777216 then some (.int z.length) else none
  | [.dct false kvs] => some (.int kvs.length)
  | [x] => (seqOf G x).map fun k => .int k.2.length
  | _ => none
theorem RepK.length {K : PySem.W.Frag} {W : Wd} : ∀ {kvs : List (Vl × Vl)} {ks : List (Key × V)}, RepK K W kvs ks → kvs.length = ks.length
  | [], _, h => by cases h; rfl
  | (k, x) :: kvs, _, h => by
    obtain ⟨q, v, r, rfl, _, _, h3⟩ := h
    simp [RepK.length h3]
theorem call_lenDR : CallR X (.builtin "len") (fun xs H Q => ∃ a kvs, xs = [V.ref a] ∧ Rd H a (.dK kvs) ∧ Q (.int kvs.length) H) := by
  intro pins s σ H xs us Q I r h
  obtain ⟨a, kvs, rfl, g, q⟩ := h
  obtain ⟨u, rfl, rx⟩ := vals1 r
  cases rx
  exact d_len I g fun t s' I' => ⟨.int kvs.length, H, I', ⟨t, rfl⟩, q⟩
theorem fn_len (hK : X.K = kt.K := by rfl) : FnS kt X (.builtin "len") oLen := by
  refine ⟨_, call_len_str.or (call_lenDR.or call_len_seq), fun B σ env G W xs vs z Q A hx e q => ?_⟩
  unfold oLen at e
  split at e
  · obtain ⟨v, rfl, h⟩ := hx.one
    split at e
    · cases e
      obtain ⟨rfl, _⟩ := h.str
      exact .inl ⟨_, rfl, by rw [sizeLine_eq]; assumption, q W _ Ext.refl A rfl⟩
    · cases e
  · cases e
    obtain ⟨v, rfl, h⟩ := hx.one
    obtain ⟨a, ks, rfl, g, r⟩ := h.dK
    exact .inr (.inl ⟨a, ks, rfl, g, by rw [← r.length]; exact q W _ Ext.refl A rfl⟩)
  · obtain ⟨v, rfl, h⟩ := hx.one
    obtain ⟨⟨k, ys⟩, e1, rfl⟩ := Option.map_eq_some_iff.mp e
    obtain ⟨a, vs, rfl, r, g⟩ := seqOf_LT A h e1
    rw [hK]
    exact .inr (.inr ⟨a, vs, rfl, g, by rw [← r.length]; exact q W _ Ext.refl A rfl⟩)
  · cases e
def oInt (_ : Gst) : List Vl → Option Vl
  | [.int i] => some (.int i)
  | [.bl k] => some (.int (if k then 1 else 0))
  | _ => none
theorem fn_int : FnS kt X (.type "int") oInt := by
  refine ⟨_, call_int1, fun B σ env G W xs vs z Q A hx e q => ?_⟩
  unfold oInt at e
  split at e
  · cases e
    obtain ⟨v, rfl, h⟩ := hx.one
    obtain rfl := h.int
    exact .inl ⟨_, rfl, q W _ Ext.refl A rfl⟩
  · cases e
    obtain ⟨v, rfl, h⟩ := hx.one
    obtain rfl := h.bl
    exact .inr ⟨_, rfl, q W _ Ext.refl A rfl⟩
  · cases e
def oAbs (_ : Gst) : List Vl → Option Vl
  | [.int i] => some (.int (if i < 0 then -i else i))
  | _ => none
theorem fn_abs : FnS kt X (.builtin "abs") oAbs := by
  refine ⟨_, call_abs, fun B σ env G W xs vs z Q A hx e q => ?_⟩
  unfold oAbs at e
  split at e
  · cases e
    obtain ⟨v, rfl, h⟩ := hx.one
    obtain rfl := h.int
    exact ⟨_, rfl, q W _ Ext.refl A rfl⟩
  · cases e
def oTuple (G : Gst) : List Vl → Option Vl
  | [x] => match seqOf G x with
    | some (false, ys) => some (.tup ys)
    | some (true, _) => some x
    | none => none
  | _ => none
theorem fn_tuple (hK : X.K = kt.K := by rfl) : FnS kt X (.type "tuple") oTuple := by
  refine ⟨_, call_tupleP, fun B σ env G W xs vs z Q A hx e q => ?_⟩
  unfold oTuple at e
  split at e
  · rename_i x
    obtain ⟨v, rfl, h⟩ := hx.one
    rw [hK]
    split at e
    · rename_i ys e1
      cases e
      obtain ⟨a, vs, rfl, r, g⟩ := seqOf_r A h e1
      refine ⟨a, vs, rfl, .inl ⟨g, fun l o hl hd => ?_⟩⟩
      obtain ⟨e2, A2, r2⟩ := new_tup A hl hd r
      exact q _ _ e2 A2 r2
    · rename_i ys e1
      cases e
      obtain ⟨a, vs, ev, r, g⟩ := seqOf_r A h e1
      subst ev
      refine ⟨a, vs, rfl, .inr ⟨g, q W _ Ext.refl A ?_⟩⟩
      exact h.val (fun xs z => by subst z; cases e1) fun t kvs z => by subst z; cases e1
    · cases e
  · cases e
/-- list(x) of a list, a tuple; of a text, its signs -/
def oList (G : Gst) : List Vl → Option Vl
  | [x] => (seqOf G x).map fun k => .lst k.2
  | _ => none
theorem fn_list (hK : X.K = kt.K := by rfl) : FnS kt X (.type "list") oList := by
  refine ⟨_, call_list_of, fun B σ env G W xs vs z Q A hx e q => ?_⟩
  unfold oList at e
  split at e
  · rename_i x
    obtain ⟨v, rfl, h⟩ := hx.one
    obtain ⟨⟨k, ys⟩, e1, rfl⟩ := Option.map_eq_some_iff.mp e
    obtain ⟨a, vs, rfl, r, g⟩ := seqOf_LT A h e1
    rw [hK]
    refine ⟨a, vs, rfl, g, fun l hl => ?_⟩
    obtain ⟨e2, A2, r2⟩ := new_lst A hl r
    exact q _ _ e2 A2 r2
  · cases e
def oMax2 (_ : Gst) : List Vl → Option Vl
  | [.int i, .int j] => some (.int (if j > i then j else i))
  | _ => none
def oMin2 (_ : Gst) : List Vl → Option Vl
  | [.int i, .int j] => some (.int (if j < i then j else i))
  | _ => none
theorem fn_max2 (hc : X.calm = true) : FnS kt X (.builtin "max") oMax2 := by
  refine ⟨_, call_max2 hc, fun B σ env G W xs vs z Q A hx e q => ?_⟩
  unfold oMax2 at e
  split at e
  · cases e
    obtain ⟨v, u, rfl, h, h'⟩ := hx.two
    obtain rfl := h.int; obtain rfl := h'.int
    exact ⟨_, _, rfl, q W _ Ext.refl A rfl⟩
  · cases e
theorem fn_min2 (hc : X.calm = true) : FnS kt X (.builtin "min") oMin2 := by
  refine ⟨_, call_min2 hc, fun B σ env G W xs vs z Q A hx e q => ?_⟩
  unfold oMin2 at e
  split at e
  · cases e
    obtain ⟨v, u, rfl, h, h'⟩ := hx.two
    obtain rfl := h.int; obtain rfl := h'.int
    exact ⟨_, _, rfl, q W _ Ext.refl A rfl⟩
  · cases e
/-- sorted(xs) of ints -/
def intsOf : List Vl → Option (List Int)
  | [] => some []
  | .int i :: xs => (intsOf xs).map (i :: ·)
  | _ => none
theorem intsOf_eq : ∀ {xs : List Vl} {ns : List Int}, intsOf xs = some ns → xs = ns.map Vl.int
  | [], _, h => by cases h; rfl
  | .int i :: xs, _, h => by
    obtain ⟨ms, e, rfl⟩ := Option.map_eq_some_iff.mp h
    rw [intsOf_eq e]; rfl
theorem ints_reps {K : PySem.W.Frag} {W : Wd} : ∀ {ns : List Int} {vs : List V}, Reps K W (ns.map Vl.int) vs → vs = ns.map V.int
  | [], _, h => h
  | n :: ns, _, h => by
    obtain ⟨v, r, rfl, h1, h2⟩ := h
    rw [ints_reps h2, show v = .int n from h1]; rfl
end
end CardH
end
section
set_option maxHeartbeats 2000000
namespace CardH
open PySem PySem.Spec PyProof.Rows L2

/-! ### a list that is being made -/
def Wd.put (W : Wd) (D : Addr) (o : HO) (r : Role) : Wd := ⟨fun a => if a = D then r else W.Γ a, W.ρ, upd W.H D o⟩
section
variable {kt : Kt} {B : Bs} {W W0 : Wd} {σ : L2.St} {env : LEnv} {G : Gst} {D : Addr} {xs ys : List V} {r : Role} {p : Bool}
def isTmp : Role → Bool
  | .tmp => true
  | _ => false
theorem ExtR.put (hT : W.Γ D = .tmp) (hD : W.H D = some (.lst xs)) : ExtR p isTmp W (W.put D (.lst ys) r) where
  role := fun a _ ht => if_neg (fun e => by rw [e, hT] at ht; cases ht)
  keep := fun a o h _ ht _ => (upd_ne (fun e => by rw [e, hT] at ht; cases ht)).trans h
  tups := fun a zs h => (upd_ne (fun e => by rw [e, hD] at h; cases h)).trans h
  frz := fun a o u h _ => (upd_ne (fun e => by rw [e, hD] at h; cases h)).trans h
  there := fun a h => by
    show upd W.H D _ a ≠ none
    by_cases e : a = D
    · rw [e, upd_same]; simp
    · rw [upd_ne e]; exact h
  pre := ⟨[], by simp [Wd.put]⟩
theorem Ext.put (e : Ext p W0 W) (h0 : W0.H D = none) (hD : W.H D = some (.lst xs)) : Ext p W0 (W.put D (.lst ys) r) where
  role := fun a h => (if_neg (fun z => h (by rw [z]; exact h0))).trans (e.role a h)
  keep := fun a o h nt hp => (upd_ne (ne_of_none h h0)).trans (e.keep a o h nt hp)
  tups := fun a zs h => (upd_ne (ne_of_none h h0)).trans (e.tups a zs h)
  frz := fun a o u h => (upd_ne (ne_of_none h h0)).trans (e.frz a o u h)
  there := fun a h => by
    show upd W.H D _ a ≠ none
    rw [upd_ne (fun z => h (by rw [z]; exact h0))]; exact e.there a h
  pre := e.pre
theorem tabs_but {T : List NdefX.NTab} {H H' : Hp} (t : NdefX.TabsN T H) (h : ∀ b u, H b = some u → ((∃ ps, u = .tbl ps) ∨ ∃ f, u = .ext f) → H' b = some u) : NdefX.TabsN T H' := fun p hp => by
  obtain ⟨ps, h1, h2, h3⟩ := t p hp
  refine ⟨ps, h _ _ h1 (.inl ⟨ps, rfl⟩), h2, fun pos cv hc => ?_⟩
  obtain ⟨c, e1, e2⟩ := h3 pos cv hc
  exact ⟨c, e1, h _ _ e2 (.inr ⟨_, rfl⟩)⟩
theorem RAll.put (A : RAll kt B W σ env G) (hT : W.Γ D = .tmp) (hD : W.H D = some (.lst xs)) (h0 : B.W0.H D = none) : RAll kt B (W.put D (.lst ys) r) σ env G := by
  have e : ExtR true isTmp W (W.put D (.lst ys) r) := ExtR.put hT hD
  refine ⟨⟨fun a ha => ?_, A.ok.rg.extR e rfl rfl (fun _ => rfl) (fun _ _ => rfl) rfl, ?_, fun b ps q => ?_⟩, A.re.extR e rfl rfl (fun _ => rfl), A.si.put h0 hD, fun z a u o q => ?_⟩
  · show upd W.H D _ a ≠ none
    by_cases z : a = D
    · rw [z, upd_same]; simp
    · rw [upd_ne z]
      refine A.ok.tr a fun k => ha ?_
      show (if a = D then r else W.Γ a) = .no
      rw [if_neg z]; exact k
  · refine tabs_but A.ok.tabs fun b u q k => (upd_ne (fun z => ?_)).trans q
    rw [z, hD] at q; cases q
    rcases k with ⟨_, k⟩ | ⟨_, k⟩ <;> cases k
  · have q : upd W.H D (.lst ys) b = some (.tbl ps) := q
    by_cases z : b = D
    · rw [z, upd_same] at q; cases q
    · rw [upd_ne z] at q; exact A.ok.tb b ps q
  · have q : upd W.H D (.lst ys) a = some (.frz u o) := q
    by_cases k : a = D
    · rw [k, upd_same] at q; cases q
    · rw [upd_ne k] at q
      have g : (W.put D (.lst ys) r).Γ a = W.Γ a := if_neg k
      rw [g]
      exact A.nl z a u o q
theorem RAll.fresh (A : RAll kt B W σ env G) (h : W.H D = none) : B.W0.H D = none := by
  cases e : B.W0.H D with
  | none => rfl
  | some o => exact absurd h (A.si.there D (by rw [e]; simp))
/-! slots -/
theorem RE.set {H0 : Hp} (h : RE kt H0 W σ env) {i : Nat} {fv : Fv} {v : V} (hv : FvRep kt.K W (.slot i) fv v) (hf : fv.own = true → ∀ a, v = .ref a → H0 a = none) : RE kt H0 W (σ.set i (some v)) (env.set i (some fv)) := by
  refine ⟨by simp [h.len], fun j g hj => ?_⟩
  by_cases e : i = j
  · subst e
    by_cases hi : i < env.length
    · rw [List.getElem?_set_self hi] at hj
      cases hj
      exact ⟨v, by rw [List.getElem?_set_self (by rw [← h.len]; exact hi)], hv, hf⟩
    · rw [List.getElem?_eq_none (by simpa using hi)] at hj; cases hj
  · rw [List.getElem?_set_ne e] at hj ⊢
    exact h.sl j g hj
theorem RAll.set (A : RAll kt B W σ env G) {i : Nat} {x : Vl} {v : V} (hv : Rep kt.K W x v) : RAll kt B W (σ.set i (some v)) (env.set i (some (.val x))) G :=
  ⟨A.ok, A.re.set (fv := .val x) hv (fun z => nomatch z), A.si, A.nl⟩
def wipeE (env : LEnv) : List Nat → LEnv
  | [] => env
  | v :: vs => (wipeE env vs).set v none
theorem RE.wipe {H0 : Hp} (h : RE kt H0 W σ env) : ∀ vs, RE kt H0 W (L2.wipe σ vs) (wipeE env vs)
  | [] => h
  | v :: vs => by
    have ih := RE.wipe h vs
    refine ⟨by simp [wipeE, L2.wipe, ih.len], fun j g hj => ?_⟩
    unfold wipeE at hj
    unfold L2.wipe
    by_cases e : v = j
    · subst e
      by_cases hi : v < (wipeE env vs).length
      · rw [List.getElem?_set_self hi] at hj; cases hj
      · rw [List.getElem?_eq_none (by simpa using hi)] at hj; cases hj
    · rw [List.getElem?_set_ne e] at hj ⊢
      exact ih.sl j g hj
theorem RAll.wipe (A : RAll kt B W σ env G) (vs : List Nat) : RAll kt B W (L2.wipe σ vs) (wipeE env vs) G := ⟨A.ok, A.re.wipe vs, A.si, A.nl⟩
end

/-! ### targets -/
abbrev DG := LEnv → Vl → Option LEnv
def rdG (kt : Kt) (B : Bs) (sl : List Nat) (g : DG) : TG := fun v σ H Q => ∃ W env G x e', W.H = H ∧ RAll kt B W σ env G ∧ Rep kt.K W x v ∧ g env x = some e' ∧
  ∀ σ', (∀ W' G', Ext false W W' → RAll kt B W' σ env G' → RAll kt B W' σ' e' G') → (∀ vs, (∀ i, i ∈ sl → i ∈ vs) → wipe σ' vs = wipe σ vs) → Q σ' H
def SG (kt : Kt) (B : Bs) (X : Cx) (sl : List Nat) (tg : Expr) (g : DG) : Prop := PG X tg (rdG kt B sl g)
theorem _root_.L2.PG.imp {X : Cx} {e : Expr} {t t' : TG} (h : PG X e t) (i : ∀ v σ H Q, t' v σ H Q → t v σ H Q) : PG X e t' := ⟨fun pins s σ H v u Q I r q => h.run pins s σ H v u Q I r (i v σ H Q q)⟩
theorem _root_.L2.PGs.imp {X : Cx} {e : List Expr} {t t' : TGs} (h : PGs X e t) (i : ∀ v σ H Q, t' v σ H Q → t v σ H Q) : PGs X e t' := ⟨fun pins s σ H v u Q I r q => h.run pins s σ H v u Q I r (i v σ H Q q)⟩
theorem wipe_set_mem {σ : L2.St} {i : Nat} {v : Option V} : ∀ {vs : List Nat}, i ∈ vs → wipe (σ.set i v) vs = wipe σ vs := by
  have step : ∀ {σ : L2.St} {j : Nat} {vs : List Nat}, j ∉ vs → wipe (σ.set j v) vs = (wipe σ vs).set j v := by
    intro σ j vs
    induction vs with
    | nil => intro _; rfl
    | cons k vs ih =>
      intro h
      simp only [List.mem_cons, not_or] at h
      show (wipe (σ.set j v) vs).set k none = ((wipe σ vs).set k none).set j v
      rw [ih h.2, List.set_comm _ _ h.1]
  intro vs
  induction vs with
  | nil => intro h; cases h
  | cons k vs ih =>
    intro h
    show (wipe (σ.set i v) vs).set k none = (wipe σ vs).set k none
    by_cases hm : i ∈ vs
    · rw [ih hm]
    · rw [step hm]
      rcases List.mem_cons.mp h with e | e
      · subst e; rw [List.set_set]
      · exact absurd e hm
def gSet (i : Nat) : DG := fun env x => some (env.set i (some (.val x)))
def itemsOf : Vl → Option (List Vl)
  | .tup xs => some xs
  | .stp xs => some xs
  | .ktp xs => some xs
  | _ => none
abbrev DGs := LEnv → List Vl → Option LEnv
def gsNil : DGs := fun env xs => match xs with
  | [] => some env
  | _ => none
def gsCons (g : DG) (gs : DGs) : DGs := fun env xs => match xs with
  | x :: r => (g env x).bind fun e => gs e r
  | [] => none
def gUn (n : Nat) (gs : DGs) : DG := fun env x => match itemsOf x with
  | some xs => if xs.length = n then gs env xs else none
  | none => none
def rdGs (kt : Kt) (B : Bs) (sl : List Nat) (g : DGs) : TGs := fun vs σ H Q => ∃ W env G xs e', W.H = H ∧ RAll kt B W σ env G ∧ Reps kt.K W xs vs ∧ g env xs = some e' ∧
  ∀ σ', (∀ W' G', Ext false W W' → RAll kt B W' σ env G' → RAll kt B W' σ' e' G') → (∀ vs, (∀ i, i ∈ sl → i ∈ vs) → wipe σ' vs = wipe σ vs) → Q σ' H
def SGs (kt : Kt) (B : Bs) (X : Cx) (sl : List Nat) (tg : List Expr) (g : DGs) : Prop := PGs X tg (rdGs kt B sl g)
section
variable {kt : Kt} {B : Bs} {X : Cx} {pos : Pos}
theorem sg_name (i : Nat) {x : Str} (hN : X.N.Nodup) (hi : X.N[i]? = some x := by rfl) (hx : Loc X.env.scope x := by first | exact Or.inl rfl | exact Or.inr rfl) (hf : X.fn x = true ∨ X.env.scope.names.lookup x = some .local := by first | exact .inl rfl | exact .inr rfl) :
    SG kt B X [i] (.Name x pos) (gSet i) := (pg_name hN hi hx hf).imp fun v σ H Q ⟨W, env, G, x, e', eh, A, r, eg, q⟩ => by
  cases eg
  exact q _ (fun W' G' e A' => A'.set (r.ext e)) fun vs h => wipe_set_mem (h i (by simp))
theorem sgs_nil : SGs kt B X [] [] gsNil := pgs_nil.imp fun v σ H Q ⟨W, env, G, xs, e', eh, A, r, eg, q⟩ => by
  cases xs with
  | nil => cases r; cases eg; exact ⟨rfl, q σ (fun W' G' _ a => a) fun _ _ => rfl⟩
  | cons x xs => cases eg
theorem sgs_cons {e : Expr} {es : List Expr} {g : DG} {gs : DGs} {s1 s2 : List Nat} (h1 : SG kt B X s1 e g) (h2 : SGs kt B X s2 es gs) (hs : (assignEach (e :: es) X.env).map (·.2) = assign e X.env :: (assignEach es X.env).map (·.2) := by rfl) :
    SGs kt B X (s1 ++ s2) (e :: es) (gsCons g gs) := (pgs_cons h1 h2 hs).imp fun v σ H Q ⟨W, env, G, xs, e', eh, A, r, eg, q⟩ => by
  cases xs with
  | nil => cases eg
  | cons x xs =>
    obtain ⟨v0, vr, rfl, r1, r2⟩ := r
    obtain ⟨e1, eg1, eg2⟩ := Option.bind_eq_some_iff.mp eg
    refine ⟨v0, vr, rfl, W, env, G, x, e1, eh, A, r1, eg1, fun σ1 h1 w1 => ⟨W, e1, G, xs, e', eh, h1 W G Ext.refl A, r2, eg2, fun σ2 h2 w2 => ?_⟩⟩
    refine q σ2 (fun W' G' ee a => h2 W' G' ee (h1 W' G' ee a)) fun vs hm => ?_
    rw [w2 vs fun i hi => hm i (List.mem_append_right _ hi), w1 vs fun i hi => hm i (List.mem_append_left _ hi)]
theorem sg_tup {es : List Expr} {k : Nat} {gs : DGs} {n : Nat} {sl : List Nat} (hc : X.calm = true) (h : SGs kt B X sl es gs) (hn : (assignEach es X.env).length = n := by rfl) (hst : (assignEach es X.env).findIdx? (·.1) = none := by rfl) (hK : X.K = kt.K := by rfl) :
    SG kt B X sl (.Tuple es k pos) (gUn n gs) := (pg_tup hc h hn hst).imp fun v σ H Q ⟨W, env, G, x, e', eh, A, r, eg, q⟩ => by
  unfold gUn at eg
  split at eg
  · rename_i xs ex
    split at eg
    · rename_i hl
      have pk : Pk kt.K W .s x v := .inl r
      have : ∃ a vs, v = .ref a ∧ SqT kt.K W.H a vs ∧ Reps kt.K W xs vs := by
        cases x with
        | tup ys => cases ex; exact pk.tup
        | stp ys => cases ex; exact pk.stp
        | ktp ys => cases ex; exact pk.ktp
        | _ => cases ex
      obtain ⟨a, vs, rfl, h1, h2⟩ := this
      rw [hK]
      exact ⟨a, vs, rfl, by rw [← eh]; exact h1, by rw [← h2.length]; exact hl, W, env, G, xs, e', eh, A, h2, eg, q⟩
    · cases eg
  · cases eg
end

/-! ### what is walked -/
structure Yl (kt : Kt) (W' : Wd) (xs : List Vl) (Gd : Hp → Prop) (Y : Nat → Hp → V → Hp → Prop) : Prop where
  gd : ∀ W'', ExtS W' W'' → Gd W''.H
  yl : ∀ i H x H', i < xs.length → Y i H x H' → ∀ W'', ExtS W' W'' → W''.H = H → ∃ y, xs[i]? = some y ∧ ((H' = H ∧ Rep kt.K W'' y x) ∨ (∃ T vs, x = .ref T ∧ H T = none ∧ H' = upd H T (.tup vs) ∧ Rep kt.K (W''.alloc T (.tup vs) .no) y x))
abbrev DI := LEnv → Gst → R (List Vl)
def SI (kt : Kt) (B : Bs) (X : Cx) (p : Bool) (tg iter : Expr) (d : DI) : Prop := ∀ Wish, Takes X Wish → ∃ wi : TI, PI X tg iter wi ∧ ∀ σ H R, (∃ W env G, W.H = H ∧ RAll kt B W σ env G ∧
  (match d env G with
    | .bad => False
    | .exn c G' => ∀ W' od, Ext p W W' → RAll kt B W' σ env G' → ExOk c od W'.H → Wish (kt.exc c.cls) od σ W'.H
    | .ok xs G' => ∀ W', Ext p W W' → RAll kt B W' σ env G' → ∀ J Gd Y, Walk J xs.length Gd Y → Yl kt W' xs Gd Y → R J W'.H)) → wi σ H R
/-- the items of a list, a tuple, a text, as they are walked -/
def walkOf : Vl → Option (List Vl)
  | .lst xs => some xs
  | .tup xs => some xs
  | .stp xs => some xs
  | .ktp xs => some xs
  | .scr ns => some (ns.map .int)
  | .str z => some (z.cps.toList.map fun c => .str ⟨#[c]⟩)
  | _ => none
def diVal (d : DE) : DI := fun env G => (d env G).bind fun x G1 => opt (walkOf x) G1
def iAny (K : PySem.W.Frag) (te : TE) : TI := fun σ H R => te σ H fun v H1 => (∃ a, v = .ref a ∧ ((∃ xs, SqL K H1 a xs) ∧ R (Itl K a) H1 ∨ (∃ xs, SqT K H1 a xs) ∧ R (Itt K a) H1)) ∨ ∃ z, v = .str z ∧ R (Its z) H1
theorem pi_any {X : Cx} {tg l : Expr} {tl : TE} (hl : PE X l tl) : PI X tg l (iAny X.K tl) := by
  refine ⟨fun pins s σ H R I h => ?_⟩
  refine thn (hl.run pins s σ H _ I h) fun v s1 ⟨x, H1, I1, r1, q1⟩ => ?_
  rcases q1 with ⟨a, e, ⟨⟨xs, hq⟩, q⟩ | ⟨⟨xs, hq⟩, q⟩⟩ | ⟨z, e, q⟩
  · subst e
    cases r1
    obtain ⟨its, rv, p, hz⟩ := I1.list hq
    refine wpAny_pyIter_list p.isList ?_
    refine ⟨s1.heap.objs.size, [s1.heap.objs.size], _, _, H1, rfl, I1.kept (t' := s1.toks) fun b o e => Heap.get?_push_of_some _ e, turn_list a _, ⟨_, Heap.get?_push_size _ rfl, rfl, rfl⟩, fun b hb => ?_, q⟩
    have e : b = s1.heap.objs.size := by simpa using hb
    subst e
    exact I1.fpOk (Nat.le_refl _) (I1.hok.fresh (Nat.le_refl _))
  · subst e
    cases r1
    obtain ⟨its, rv, p, hz⟩ := I1.tuple hq
    refine wpAny_pyIter_tuple (show s1.heap.IsTuple a its.toArray from p) ?_
    refine ⟨s1.heap.objs.size, [s1.heap.objs.size], _, _, H1, rfl, I1.kept (t' := s1.toks) fun b o e => Heap.get?_push_of_some _ e, turn_tuple a _, ⟨_, Heap.get?_push_size _ rfl, rfl, rfl⟩, fun b hb => ?_, q⟩
    have e : b = s1.heap.objs.size := by simpa using hb
    subst e
    exact I1.fpOk (Nat.le_refl _) (I1.hok.fresh (Nat.le_refl _))
  · subst e
    obtain ⟨t, rfl⟩ := r1
    cases ha : z.cps.all (· < 128)
    · exact wpAny_pyIter_wide ha (pi_one (tk := s1.toks) I1 _ (turn_str _ z t "str_iterator" (.inr rfl)) ⟨_, Heap.get?_push_size _ rfl, rfl, rfl⟩ q)
    · exact wpAny_pyIter_ascii ha (pi_one (tk := s1.toks) I1 _ (turn_str _ z t "str_ascii_iterator" (.inl rfl)) ⟨_, Heap.get?_push_size _ rfl, rfl, rfl⟩ q)
section
variable {kt : Kt} {B : Bs} {X : Cx} {p pa pb pc : Bool} {m ma mb mc : Md} {a b c e : Expr} {es : List Expr} {da db dc d : DE} {ds : DA} {t u : DT} {pos np : Pos} {i : Nat} {tg : Expr}
theorem rep_sqL {W W' : Wd} {xs : List Vl} {v : V} (h : Rep kt.K W (.lst xs) v) : ∃ a vs, v = .ref a ∧ Reps kt.K W xs vs ∧ ∀ W'', ExtS W W'' → SqL kt.K W''.H a vs := by
  obtain ⟨a, vs, rfl, g, h1, h2⟩ := h
  exact ⟨a, vs, rfl, h2, fun W'' e => SqL.of (e.keep a _ h1 (fun _ z => nomatch z) (by rw [g]; rfl) (.inr (by rw [g]; rfl)))⟩
theorem rep_sqT {W : Wd} {x : Vl} {xs : List Vl} {v : V} (h : Rep kt.K W x v) (e : itemsOf x = some xs) : ∃ a vs, v = .ref a ∧ Reps kt.K W xs vs ∧ ∀ W'', ExtS W W'' → SqT kt.K W''.H a vs := by
  cases x with
  | tup ys =>
    cases e
    obtain ⟨a, vs, o, rfl, g, h1, _, h2⟩ := h
    exact ⟨a, vs, rfl, h2, fun W'' e => .inl (.inr ⟨o, e.keep a _ h1 (fun _ z => nomatch z) (by rw [g]; rfl) (.inr (by rw [g]; rfl))⟩)⟩
  | stp ys =>
    cases e
    obtain ⟨a, vs, rfl, h1, h2⟩ := h
    exact ⟨a, vs, rfl, h2, fun W'' e => SqT.of (e.tups a _ h1)⟩
  | ktp ys =>
    cases e
    obtain ⟨a, vs, rfl, h1, h2⟩ := h
    exact ⟨a, vs, rfl, h2, fun W'' e => .inr h1⟩
  | _ => cases e
/-- what the walked wants -/
def WkI (kt : Kt) (B : Bs) (p : Bool) (σ : L2.St) (env : LEnv) (W : Wd) (Wish : WX) (R' : It → Hp → Prop) (r : R (List Vl)) : Prop := match r with
    | .bad => False
    | .exn c G' => ∀ W' od, Ext p W W' → RAll kt B W' σ env G' → ExOk c od W'.H → Wish (kt.exc c.cls) od σ W'.H
    | .ok xs G' => ∀ W', Ext p W W' → RAll kt B W' σ env G' → ∀ J Gd Y, Walk J xs.length Gd Y → Yl kt W' xs Gd Y → R' J W'.H
theorem bindI {α β : Type} {Z : Wd → α → β → Prop} {W : Wd} {σ : L2.St} {env : LEnv} {Wish : WX} {r : CardH.R α} {f : α → Gst → Option (List Vl)} {R' : It → Hp → Prop}
    (h : WkI kt B p σ env W Wish R' (r.bind fun x G1 => opt (f x G1) G1)) :
    PoX kt B p σ env W Wish Z r (fun v H1 => ∃ W1 x G1 xs, W1.H = H1 ∧ RAll kt B W1 σ env G1 ∧ Z W1 x v ∧ f x G1 = some xs ∧ ∀ J Gd Y, Walk J xs.length Gd Y → Yl kt W1 xs Gd Y → R' J W1.H) := by
  cases r with
  | bad => exact h
  | exn c G => exact h
  | ok x G =>
    rw [R.bind_ok] at h
    cases e : f x G with
    | none => rw [e] at h; exact h.elim
    | some xs =>
      rw [e] at h
      exact fun W' v e1 A z => ⟨W', x, G, xs, rfl, A, z, e, h W' e1 A⟩
theorem si_val (ha : SX kt B X p .s a da) (hK : X.K = kt.K := by rfl) : SI kt B X p tg a (diVal da) := fun Wish tk => by
  refine ⟨_, pi_any (ha Wish tk), fun σ H R ⟨W, env, G, e, A, h⟩ => ?_⟩
  subst e
  refine ⟨W, env, G, rfl, A, (bindI (f := fun x _ => walkOf x) h).mono ?_⟩
  rintro v H1 ⟨W', x, G', xs, rfl, A', z, ew, h⟩
  have z := z.strict
  have tp : ∀ {ys : List Vl}, itemsOf x = some ys → ys = xs → (∃ a, v = .ref a ∧ ((∃ xs, SqL X.K W'.H a xs) ∧ R (Itl X.K a) W'.H ∨ (∃ xs, SqT X.K W'.H a xs) ∧ R (Itt X.K a) W'.H)) ∨ ∃ z, v = .str z ∧ R (Its z) W'.H := by
    intro ys ey e1
    subst e1
    obtain ⟨a, vs, rfl, r, hq⟩ := rep_sqT z ey
    rw [hK]
    refine .inl ⟨a, rfl, .inr ⟨⟨vs, hq W' ExtR.refl⟩, h _ _ _ (by rw [r.length]; exact walk_tup) ⟨hq, fun i H y H' hi y1 W'' e2 eh => ?_⟩⟩⟩
    obtain ⟨y', h1, h2⟩ := (Reps.extR e2 rfl rfl _ _ r).get' y1.2
    exact ⟨y', h1, .inl ⟨y1.1, h2⟩⟩
  cases x with
  | lst ys =>
    cases ew
    obtain ⟨a, vs, rfl, r, hq⟩ := rep_sqL (W' := W') z
    rw [hK]
    refine .inl ⟨a, rfl, .inl ⟨⟨vs, hq W' ExtR.refl⟩, h _ _ _ (by rw [r.length]; exact walk_list) ⟨hq, fun i H y H' hi y1 W'' e2 eh => ?_⟩⟩⟩
    obtain ⟨y', h1, h2⟩ := (Reps.extR e2 rfl rfl _ _ r).get' y1.2
    exact ⟨y', h1, .inl ⟨y1.1, h2⟩⟩
  | tup ys => cases ew; exact tp rfl rfl
  | stp ys => cases ew; exact tp rfl rfl
  | ktp ys => cases ew; exact tp rfl rfl
  | scr ns =>
    cases ew
    obtain ⟨a, rfl, hh⟩ := z
    have hq : ∀ W'', ExtS W' W'' → SqL kt.K W''.H a (ns.map V.int) := fun W'' e2 => by
      rcases hh with ⟨g, r⟩ | h1
      · exact .inl (rd_keep e2 (by rw [g]; rfl) (.inr (by rw [g]; rfl)) (fun _ z => nomatch z) r)
      · exact .inr h1
    have r := reps_ints (K := kt.K) (W := W') ns
    rw [hK]
    refine .inl ⟨a, rfl, .inl ⟨⟨_, hq W' ExtR.refl⟩, h _ _ _ (by rw [r.length]; exact walk_list) ⟨hq, fun i H y H' hi y1 W'' e2 eh => ?_⟩⟩⟩
    obtain ⟨y', h1, h2⟩ := (Reps.extR e2 rfl rfl _ _ r).get' y1.2
    exact ⟨y', h1, .inl ⟨y1.1, h2⟩⟩
  | str s =>
    cases ew
    obtain ⟨rfl, ok⟩ := z
    refine .inr ⟨s, rfl, h _ _ _ (by rw [List.length_map, Array.length_toList]; exact walk_str) ⟨fun _ _ => trivial, fun i H y H' hi y1 W'' e2 eh => ?_⟩⟩
    obtain ⟨c, hc, rfl⟩ := y1.2
    refine ⟨.str ⟨#[c]⟩, by simp [hc], .inl ⟨y1.1, rfl, ?_⟩⟩
    exact okStr_one (j := i) ok (by simpa using hc)
  | _ => cases ew
def rgL (i : Int) (n : Nat) : List Vl := (List.range n).map fun k => .int (i + (k : Nat))
/-- range's turns -/
def rng1 : List Vl → Option (List Vl)
  | [.int j] => if sm62 j = true then some (rgL 0 j.toNat) else none
  | _ => none
def rng2 : List Vl → Option (List Vl)
  | [.int i, .int j] => if sm62 i = true ∧ sm62 j = true then some (rgL i (j - i).toNat) else none
  | _ => none
def rgC (i c : Int) (n : Nat) : List Vl := (List.range n).map fun k => .int (i + (k : Nat) * c)
/-- range(i, j, -1), range(i, j, c) with c > 0 -/
def rng3 : List Vl → Option (List Vl)
  | [.int i, .int j, .int c] => if c = -1 ∧ sm62 i = true ∧ sm62 j = true then some (rgC i (-1) (i - j).toNat) else
    if c ≠ 0 ∧ c.natAbs < 1073741824 ∧ Builtin.Range.small i j c = true ∧ 0 ≤ Builtin.Range.rangeSize i j c then some (rgC i c (Builtin.Range.rangeSize i j c).toNat) else none
  | _ => none
def diRng (f : List Vl → Option (List Vl)) (ds : DA) : DI := fun env G => (ds env G).bind fun xs G1 => opt (f xs) G1
theorem yl_range {W : Wd} {i : Int} {n : Nat} : Yl kt W (rgL i n) (fun _ => True) (YFn fun k => .int (i + k)) :=
  ⟨fun _ _ => trivial, fun k H x H' hk y W'' e eh => by
    have hk : k < n := by simpa [rgL] using hk
    exact ⟨.int (i + k), by simp [rgL, hk], .inl ⟨y.1, y.2⟩⟩⟩
theorem yl_rangeC {W : Wd} {i c : Int} {n : Nat} : Yl kt W (rgC i c n) (fun _ => True) (YFn fun k => .int (i + (k : Nat) * c)) :=
  ⟨fun _ _ => trivial, fun k H x H' hk y W'' e eh => by
    have hk : k < n := by simpa [rgC] using hk
    exact ⟨.int (i + (k : Nat) * c), by simp [rgC, hk], .inl ⟨y.1, y.2⟩⟩⟩
theorem rgL_length {i : Int} {n : Nat} : (rgL i n).length = n := by simp [rgL]
theorem rgC_length {i c : Int} {n : Nat} : (rgC i c n).length = n := by simp [rgC]
theorem PkS.three {K : PySem.W.Frag} {W : Wd} {m : Md} {x y z : Vl} {vs : List V} (h : PkS K W m [x, y, z] vs) : ∃ v u w, vs = [v, u, w] ∧ Pk K W m x v ∧ Pk K W m y u ∧ Pk K W m z w := by
  obtain ⟨v, r, e1, h1, h2⟩ := h
  obtain ⟨u, w, rfl, h3, h4⟩ := h2.two
  exact ⟨v, u, w, e1, h1, h3, h4⟩
theorem si_r1 (ha : SAm kt B X p .s [a] ds) (hg : Gl X "range" := by rfl) (hm : X.mg "range" = none := by rfl) (hs : starEach [a] X.env = [(false, eval a X.env)] := by rfl) :
    SI kt B X p tg (.Call (.Name "range" np) [a] [] pos) (diRng rng1 ds) := fun Wish tk => by
  refine ⟨_, pi_range1 hg hm (ha Wish tk) hs, fun σ H R ⟨W, env, G, e, A, h⟩ => ?_⟩
  subst e
  refine ⟨W, env, G, rfl, A, (bindI (Z := fun W x v => PkS kt.K W .s x v) (f := fun x _ => rng1 x) h).mono ?_⟩
  rintro vs H1 ⟨W1, xs, G1, ys, rfl, A1, z1, ef, hr⟩
  unfold rng1 at ef
  split at ef
  · split at ef
    · rename_i hb
      cases ef
      obtain ⟨v, rfl, z2⟩ := z1.one
      cases z2.int
      have hb := sm62_ok hb
      exact ⟨_, rfl, hb.1, hb.2, hr _ _ _ (by rw [rgL_length]; exact walk_range) yl_range⟩
    · cases ef
  · cases ef
theorem si_r2 (ha : SAm kt B X p .s [a, b] ds) (hg : Gl X "range" := by rfl) (hm : X.mg "range" = none := by rfl) (hs : starEach [a, b] X.env = [(false, eval a X.env), (false, eval b X.env)] := by rfl) (hs2 : starEach [b] X.env = [(false, eval b X.env)] := by rfl) :
    SI kt B X p tg (.Call (.Name "range" np) [a, b] [] pos) (diRng rng2 ds) := fun Wish tk => by
  refine ⟨_, pi_range2 hg hm (ha Wish tk) hs hs2, fun σ H R ⟨W, env, G, e, A, h⟩ => ?_⟩
  subst e
  refine ⟨W, env, G, rfl, A, (bindI (Z := fun W x v => PkS kt.K W .s x v) (f := fun x _ => rng2 x) h).mono ?_⟩
  rintro vs H1 ⟨W1, xs, G1, ys, rfl, A1, z1, ef, hr⟩
  unfold rng2 at ef
  split at ef
  · split at ef
    · rename_i hb
      cases ef
      obtain ⟨v, u, rfl, z2, z3⟩ := z1.two
      cases z2.int; cases z3.int
      exact ⟨_, _, rfl, ⟨(sm62_ok hb.1).1, (sm62_ok hb.1).2, (sm62_ok hb.2).1, (sm62_ok hb.2).2⟩, hr _ _ _ (by rw [rgL_length]; exact walk_range) yl_range⟩
    · cases ef
  · cases ef
theorem si_r3 {c : Expr} (ha : SAm kt B X p .s [a, b, c] ds) (hg : Gl X "range" := by rfl) (hm : X.mg "range" = none := by rfl) (hs : starEach [a, b, c] X.env = (false, eval a X.env) :: starEach [b, c] X.env := by rfl) (hpl : (backTo pos (starEach [b, c] X.env)).any (·.1) = false := by rfl) :
    SI kt B X p tg (.Call (.Name "range" np) [a, b, c] [] pos) (diRng rng3 ds) := fun Wish tk => by
  refine ⟨_, pi_range3 hg hm (ha Wish tk) hs hpl, fun σ H R ⟨W, env, G, e, A, h⟩ => ?_⟩
  subst e
  refine ⟨W, env, G, rfl, A, (bindI (Z := fun W x v => PkS kt.K W .s x v) (f := fun x _ => rng3 x) h).mono ?_⟩
  rintro vs H1 ⟨W1, xs, G1, ys, rfl, A1, z1, ef, hr⟩
  unfold rng3 at ef
  split at ef
  · obtain ⟨v, u, w, rfl, z2, z3, z4⟩ := z1.three
    cases z2.int; cases z3.int; cases z4.int
    split at ef
    · rename_i hb
      cases ef
      obtain ⟨rfl, g1, g2⟩ := hb
      obtain ⟨h1, h2⟩ := sm62_ok g1
      obtain ⟨h3, h4⟩ := sm62_ok g2
      exact ⟨_, _, _, _, rfl, RgC.neg h1 h2 h3 h4, hr _ _ _ (by rw [rgC_length]; exact walk_rangeC) yl_rangeC⟩
    · split at ef
      · rename_i hb
        cases ef
        obtain ⟨h1, h2, h3, h4⟩ := hb
        exact ⟨_, _, _, _, rfl, ⟨h1, h2, h3, (Int.toNat_of_nonneg h4).symm⟩, hr _ _ _ (by rw [rgC_length]; exact walk_rangeC) yl_rangeC⟩
      · cases ef
  · cases ef
/-- enumerate(list) -/
def enL : Nat → List Vl → List Vl
  | _, [] => []
  | n, x :: xs => .stp [.int n, x] :: enL (n + 1) xs
theorem enL_length : ∀ (xs : List Vl) (n : Nat), (enL n xs).length = xs.length
  | [], _ => rfl
  | _ :: xs, n => by simp [enL, enL_length xs]
theorem enL_get : ∀ (xs : List Vl) (n i : Nat), (enL n xs)[i]? = xs[i]?.map fun x => .stp [.int ((n + i : Nat) : Int), x]
  | [], _, _ => by simp [enL]
  | x :: xs, n, 0 => by simp [enL]
  | x :: xs, n, i + 1 => by
    simp only [enL, List.getElem?_cons_succ, enL_get xs (n + 1) i]
    rw [show n + 1 + i = n + (i + 1) by omega]
def enOf : List Vl → Option (List Vl)
  | [.lst xs] => some (enL 0 xs)
  | _ => none
theorem si_en {elts : List Expr} {kk : Nat} {tpos : Pos} (ha : SAm kt B X p .s [e] ds) (hg : Gl X "enumerate" := by rfl) (hm : X.mg "enumerate" = none := by rfl) (hs : starEach [e] X.env = [(false, eval e X.env)] := by rfl) (hK : X.K = kt.K := by rfl) :
    SI kt B X p (.Tuple elts kk tpos) (.Call (.Name "enumerate" np) [e] [] pos) (diRng enOf ds) := fun Wish tk => by
  refine ⟨_, pi_enum hg hm (ha Wish tk) hs, fun σ H R ⟨W, env, G, e, A, h⟩ => ?_⟩
  subst e
  refine ⟨W, env, G, rfl, A, (bindI (Z := fun W x v => PkS kt.K W .s x v) (f := fun x _ => enOf x) h).mono ?_⟩
  rintro vs H1 ⟨W1, xs, G1, ys, rfl, A1, z1, ef, hr⟩
  unfold enOf at ef
  split at ef
  · rename_i zs
    cases ef
    obtain ⟨v, rfl, z2⟩ := z1.one
    obtain ⟨a, us, rfl, r, hq⟩ := rep_sqL (W' := W1) z2.strict
    rw [hK]
    refine ⟨a, us, rfl, hq W1 ExtR.refl, hr _ _ _ (by rw [enL_length, r.length]; exact walk_enum) ⟨hq, fun i H x H' hi y W'' e2 eh => ?_⟩⟩
    obtain ⟨T, w1, w2, rfl, hT, rfl, e3, e4⟩ := y
    cases e3
    obtain ⟨y', h1, h2⟩ := (Reps.extR e2 rfl rfl _ _ r).get' e4
    refine ⟨.stp [.int i, y'], by rw [enL_get, h1]; simp, .inr ⟨T, _, rfl, hT, rfl, ?_⟩⟩
    have hT' : W''.H T = none := by rw [eh]; exact hT
    exact ⟨T, _, rfl, upd_same, _, _, rfl, rfl, _, _, rfl, h2.ext (Ext.alloc hT'), rfl⟩
  · cases ef
end
end CardH
end
section
set_option maxHeartbeats 2000000
namespace CardH
open PySem PySem.Spec PyProof.Rows L2

/-! ### comprehensions -/
def noex {α : Type} (r : CardH.R α) : CardH.R α := (fun _ : Nat => match r with
  | .ok a G => .ok a G
  | _ => .bad) hgt3
def compL (g : DG) (dt : DT) (de : DE) (e0 : LEnv) : List Vl → Gst → CardH.R (List Vl)
  | [], G => .ok [] G
  | x :: xs, G => match g e0 x with
    | none => .bad
    | some e => (dt e G).bind fun b G1 => match b with
      | true => (de e G1).bind fun y G2 => (compL g dt de e0 xs G2).bind fun ys G3 => .ok (y :: ys) G3
      | false => compL g dt de e0 xs G1
def dYes : DT := fun _ G => .ok true G
def dLc (vs : List Nat) (di : DI) (g : DG) (dt : DT) (de : DE) : DE := fun env G => (di env G).bind fun xs G1 => (noex (compL g dt de (wipeE env vs) xs G1)).bind fun ys G2 => if ys.length ≤ 16777216 then .ok (.lst ys) G2 else .bad
def STs (kt : Kt) (B : Bs) (X : Cx) (p : Bool) (ifs : List Expr) (d : DT) : Prop := ∀ Wish, Takes X Wish → PTs X ifs (rdX kt B p Wish ZB d)
theorem _root_.L2.PTs.imp {X : Cx} {e : List Expr} {t t' : TT} (h : PTs X e t) (i : ∀ σ H Q, t' σ H Q → t σ H Q) : PTs X e t' := ⟨fun pins s σ H Q I q => h.run pins s σ H Q I (i σ H Q q)⟩
theorem upd_self {H : Hp} {D : Addr} {o : HO} (h : H D = some o) : upd H D o = H := by
  funext a
  by_cases e : a = D
  · rw [e, upd_same, h]
  · rw [upd_ne e]
theorem wipe_wipe {σ : L2.St} {vs : List Nat} : wipe (wipe σ vs) vs = wipe σ vs := by
  have step : ∀ (us : List Nat), (∀ i, i ∈ us → i ∈ vs) → wipe (wipe σ us) vs = wipe σ vs := by
    intro us
    induction us with
    | nil => intro _; rfl
    | cons k us ih =>
      intro h
      show wipe ((wipe σ us).set k none) vs = wipe σ vs
      rw [wipe_set_mem (h k (by simp)), ih fun i hi => h i (by simp [hi])]
  exact step vs fun _ h => h
section
variable {kt : Kt} {B : Bs} {X : Cx} {p pi pt pe : Bool} {elt tg iter : Expr} {ifs : List Expr} {scope : Scope} {own : List (Str × Nat)} {pos : Pos} {sl : List Nat} {di : DI} {g : DG} {dt : DT} {de : DE}
theorem sts_nil : STs kt B X true [] dYes := fun Wish _ => pts_nil.imp fun σ H Q ⟨W, env, G, e, A, h⟩ => by
  subst e; exact h W true Ext.refl A rfl
theorem sts_one {c : Expr} (h : ST kt B X p c dt) : STs kt B X p [c] dt := fun Wish tk => pts_one (h Wish tk)
theorem takes_blk {s : Shared} {H : Hp} {cenv : Env} {fp : List Addr} : Takes (X.blk s H scope cenv fp) (fun _ _ _ _ => False) := fun u s' ⟨a, B, sI, pins, σ, H, cls, d, _, _, _, _, _, _, _, _, w⟩ => w
theorem Ext.andL {a b : Bool} {W W' : Wd} (e : Ext a W W') : Ext (a && b) W W' := e.mono fun z => (Bool.and_eq_true _ _ ▸ z).1
theorem Ext.andR {a b : Bool} {W W' : Wd} (e : Ext b W W') : Ext (a && b) W W' := e.mono fun z => (Bool.and_eq_true _ _ ▸ z).2
theorem Ext.fls {a : Bool} {W W' : Wd} (e : Ext a W W') : Ext false W W' := e.mono fun z => nomatch z
theorem lc_imp (hi : SI kt B X pi tg iter di)
    (hsl : sl.all (fun i => (own.map (·.2)).contains i) = true) {Wish : WX} (tk : Takes X Wish) :
    ∃ wi, PI X tg iter wi ∧ ∀ σ H Q, rdX kt B (pi && (pt && pe)) Wish (fun W x v => Pk kt.K W .s x v) (dLc (own.map (·.2)) di g dt de) σ H Q →
      tLc wi (rdG kt B sl g) (rdX kt B pt (fun _ _ _ _ => False) ZB dt) (rdX kt B pe (fun _ _ _ _ => False) (fun W x v => Pk kt.K W .s x v) de) (own.map (·.2)) σ H Q := by
  obtain ⟨wi, hwi, him⟩ := hi Wish tk
  have hsl : ∀ i, i ∈ sl → i ∈ own.map (·.2) := fun i h => by simpa using List.all_eq_true.mp hsl i h
  refine ⟨wi, hwi, fun σ H Q ⟨W, env, G, e, A, h⟩ => ?_⟩
  subst e
  refine him _ _ _ ⟨W, env, G, rfl, A, ?_⟩
  unfold dLc at h
  cases q : di env G with
  | bad => rw [q] at h; exact h.elim
  | exn c G' => rw [q] at h; exact fun W' od e A z => h W' od e.andL A z
  | ok xs G1 =>
    rw [q, R.bind_ok] at h
    intro W1 e1 A1 J Gd Y wk yl D hD
    generalize hvs : own.map (·.2) = vs at h hsl ⊢
    cases qc : compL g dt de (wipeE env vs) xs G1 with
    | bad => rw [qc] at h; exact h.elim
    | exn c G' => rw [qc] at h; exact h.elim
    | ok ys Gf =>
      rw [qc] at h
      have h : PoX kt B (pi && (pt && pe)) σ env W Wish (fun W x v => Pk kt.K W .s x v) (if ys.length ≤ 16777216 then .ok (.lst ys) Gf else .bad) Q := h
      split at h
      case isFalse => exact h.elim
      rename_i hlen
      refine lc_it wk (fun i H => ∃ Wi Gi acc accV rest, Wi.H = H ∧ Ext (pt && pe) W1 Wi ∧ RAll kt B Wi (wipe σ vs) (wipeE env vs) Gi ∧ Wi.Γ D = .tmp ∧ Wi.H D = some (.lst accV) ∧ Reps kt.K Wi acc accV ∧
        compL g dt de (wipeE env vs) (xs.drop i) Gi = .ok rest Gf ∧ acc ++ rest = ys) ?_ ?_ ?_ ?_
      · exact ⟨W1.alloc D (.lst []) .tmp, G1, [], [], ys, rfl, (Ext.alloc hD).weak, (A1.wipe vs).alloc hD rfl rfl, if_pos rfl, upd_same, rfl, qc, rfl⟩
      · rintro i H hi ⟨Wi, Gi, acc, accV, rest, rfl, ei, _⟩
        exact yl.gd Wi ei.toS
      · rintro i x H H' hi ⟨Wi, Gi, acc, accV, rest, eH, ei, Ai, gi, di', ri, ci, ai⟩ y
        obtain ⟨y0, hy0, hrep⟩ := yl.yl i H x H' hi y Wi ei.toS eH
        have hW2 : ∃ W2, W2.H = H' ∧ Ext true Wi W2 ∧ RAll kt B W2 (wipe σ vs) (wipeE env vs) Gi ∧ Rep kt.K W2 y0 x := by
          rcases hrep with ⟨e, r⟩ | ⟨T, us, e, hT, e2, r⟩
          · exact ⟨Wi, by rw [e]; exact eH, Ext.refl, Ai, r⟩
          · have hT' : Wi.H T = none := by rw [eH]; exact hT
            exact ⟨Wi.alloc T (.tup us) .no, by rw [e2, ← eH]; rfl, Ext.alloc hT', Ai.alloc hT' rfl rfl, r⟩
        obtain ⟨W2, rfl, e2, A2, rep⟩ := hW2
        have d2 : W2.H D = some (.lst accV) := e2.keep D _ di' (fun _ z => nomatch z) (.inl rfl)
        have g2 : W2.Γ D = .tmp := (e2.role D (by rw [di']; simp)).trans gi
        have r2 := ri.ext e2
        have e02 : Ext (pt && pe) W1 W2 := (ei.trans e2).mono fun z => by rw [z]; rfl
        have hdrop : xs.drop i = y0 :: xs.drop (i + 1) := by
          obtain ⟨h1, h2⟩ := List.getElem?_eq_some_iff.mp hy0
          rw [List.drop_eq_getElem_cons h1, h2]
        rw [hdrop] at ci
        unfold compL at ci
        cases eg : g (wipeE env vs) y0 with
        | none => rw [eg] at ci; cases ci
        | some e' =>
          rw [eg] at ci
          dsimp only at ci
          refine ⟨W2, wipeE env vs, Gi, y0, e', rfl, A2, rep, eg, fun σ' hset hw => ⟨by rw [hw vs hsl, wipe_wipe], W2, e', Gi, rfl, hset W2 Gi Ext.refl A2, ?_⟩⟩
          cases qt : dt e' Gi with
          | bad => rw [qt] at ci; cases ci
          | exn c G' => rw [qt] at ci; cases ci
          | ok b G3 =>
            rw [qt, R.bind_ok] at ci
            intro W3 b' e3 A3 z3
            obtain rfl : b = b' := z3
            cases b with
            | false =>
              rw [if_neg Bool.false_ne_true]
              dsimp only at ci
              exact ⟨W3, G3, acc, accV, rest, rfl, (e02.trans e3).mono fun z => by rw [z]; exact (Bool.and_eq_true _ _ ▸ z).1,
                ⟨A3.ok, A2.re.ext e3, A3.si, A3.nl⟩, (e3.role D (by rw [d2]; simp)).trans g2, e3.keep D _ d2 (fun _ z => nomatch z) (.inr (by rw [g2]; rfl)), r2.ext e3, ci, ai⟩
            | true =>
              rw [if_pos rfl]
              dsimp only at ci
              refine ⟨W3, e', G3, rfl, A3, ?_⟩
              cases qe : de e' G3 with
              | bad => rw [qe] at ci; cases ci
              | exn c G' => rw [qe] at ci; cases ci
              | ok yv G4 =>
                rw [qe, R.bind_ok] at ci
                intro W4 v e4 A4 z4
                have e34 := e3.trans e4
                have d4 : W4.H D = some (.lst accV) := e34.keep D _ d2 (fun _ z => nomatch z) (.inr (by rw [g2]; rfl))
                have g4 : W4.Γ D = .tmp := (e34.role D (by rw [d2]; simp)).trans g2
                have r4 := r2.ext e34
                cases qr : compL g dt de (wipeE env vs) (xs.drop (i + 1)) G4 with
                | bad => rw [qr] at ci; cases ci
                | exn c G' => rw [qr] at ci; cases ci
                | ok zs G5 =>
                  rw [qr, R.bind_ok] at ci
                  cases ci
                  have hl : acc.length + 1 ≤ ys.length := by rw [← ai]; simp
                  have A4' : RAll kt B W4 (wipe σ vs) (wipeE env vs) G4 := ⟨A4.ok, A2.re.ext e34, A4.si, A4.nl⟩
                  refine ⟨accV, d4, by rw [← r4.length, sizeLine_eq]; omega, W4.put D (.lst (accV ++ [v])) .tmp, G4, acc ++ [yv], accV ++ [v], zs, rfl, ?_, A4'.put g4 d4 (A1.fresh hD), if_pos rfl, upd_same, ?_, qr, by rw [← ai]; simp⟩
                  · exact Ext.put ((e02.trans e34).mono fun z => by rw [z]; rfl) hD d4
                  · exact (Reps.extR (ExtR.put g4 d4 : ExtR true isTmp W4 _) rfl rfl _ _ r4).append (Reps.one (Rep.extR (ExtR.put g4 d4 : ExtR true isTmp W4 _) rfl rfl _ _ z4.strict))
      · rintro H ⟨Wi, Gi, acc, accV, rest, rfl, ei, Ai, gi, di', ri, ci, ai⟩
        rw [List.drop_length] at ci
        cases ci
        rw [List.append_nil] at ai
        subst ai
        have e5 : Ext (pt && pe) W1 (Wi.put D (.lst accV) .froz) := Ext.put ei hD di'
        have A5 := Ai.put (ys := accV) (r := .froz) gi di' (A1.fresh hD)
        have h5 := h (Wi.put D (.lst accV) .froz) (.ref D) (e1.trans e5) ⟨A5.ok, A1.re.ext e5, A5.si, A5.nl⟩ (.inl ⟨D, accV, rfl, if_pos rfl, upd_same, Reps.extR (ExtR.put gi di' : ExtR true isTmp Wi _) rfl rfl _ _ ri⟩)
        have eH : (Wi.put D (.lst accV) .froz).H = Wi.H := upd_self di'
        rw [eH] at h5
        exact h5
theorem sx_lc (hc : X.calm = true) (hN : X.N.Nodup) (hi : SI kt B X pi tg iter di) (ok : blkC X.N X.env.scope scope own = true)
    (hg : ∀ (s : Shared) (H : Hp) (C : Addr) (cl : List (Str × Addr)) (fp : List Addr), SG kt B (X.blk s H scope (compEnvC scope cl C X.env) fp) sl tg g)
    (ht : ∀ (s : Shared) (H : Hp) (C : Addr) (cl : List (Str × Addr)) (fp : List Addr), STs kt B (X.blk s H scope (compEnvC scope cl C X.env) fp) pt ifs dt)
    (he : ∀ (s : Shared) (H : Hp) (C : Addr) (cl : List (Str × Addr)) (fp : List Addr), SX kt B (X.blk s H scope (compEnvC scope cl C X.env) fp) pe .s elt de)
    (hsl : sl.all (fun i => (own.map (·.2)).contains i) = true := by rfl) (hs : ∀ x, foldedSetIterable iter X.env x = pure x := by intro _; rfl) :
    SX kt B X (pi && (pt && pe)) .s (.ListComp elt [⟨tg, iter, ifs, 0⟩] scope pos) (dLc (own.map (·.2)) di g dt de) := fun Wish tk => by
  obtain ⟨wi, hwi, him⟩ := lc_imp (pt := pt) (pe := pe) (g := g) (dt := dt) (de := de) hi hsl tk
  exact (pe_lc hc hN hwi (blkOk_by ok) hg (fun s H C cl fp => ht s H C cl fp _ takes_blk) (fun s H C cl fp => he s H C cl fp _ takes_blk) hs).imp him
end
end CardH
end
section
set_option maxHeartbeats 2000000
namespace CardH
open PySem PySem.Spec PyProof.Rows L2

/-! ### statements -/
structure ROut (kt : Kt) (B : Bs) (W : Wd) (G : Gst) : Prop where
  ok : WOk kt W G
  si : Ext B.p B.W0 W
  nl : B.lk = false → NoLock W
theorem RAll.out {kt : Kt} {B : Bs} {W : Wd} {σ : L2.St} {env : LEnv} {G : Gst} (A : RAll kt B W σ env G) : ROut kt B W G := ⟨A.ok, A.si, A.nl⟩
def PoS (kt : Kt) (B : Bs) (W : Wd) (Wish : WX) (r : SR) (D : Ends) : Prop := match r with
  | .bad => False
  | .nx e G => ∀ W' σ, ExtS W W' → RAll kt B W' σ e G → D.nx σ W'.H
  | .bk e G => ∀ W' σ, ExtS W W' → RAll kt B W' σ e G → D.bk σ W'.H
  | .ct e G => ∀ W' σ, ExtS W W' → RAll kt B W' σ e G → D.ct σ W'.H
  | .rt v G => ∀ W' w, ExtS W W' → ROut kt B W' G → Rep kt.K W' v w → D.rt w W'.H
  | .ex c e G => ∀ W' σ od, ExtS W W' → RAll kt B W' σ e G → ExOk c od W'.H → Wish (kt.exc c.cls) od σ W'.H
def rdS (kt : Kt) (B : Bs) (Wish : WX) (d : DS) : TS := fun D σ H => ∃ W env G, W.H = H ∧ RAll kt B W σ env G ∧ PoS kt B W Wish (d env G) D
def SS (kt : Kt) (B : Bs) (X : Cx) (st : Stmt) (d : DS) : Prop := ∀ Wish, Takes X Wish → PS X st (rdS kt B Wish d)
def SSs (kt : Kt) (B : Bs) (X : Cx) (st : List Stmt) (d : DS) : Prop := ∀ Wish, Takes X Wish → PSs X st (rdS kt B Wish d)
/-- an expression within a statement -/
def sb {α : Type} (env : LEnv) (r : CardH.R α) (f : α → Gst → SR) : SR := (fun _ : Nat => match r with
  | .ok a G => f a G
  | .exn c G => .ex c env G
  | .bad => .bad) hgt3
@[simp] theorem sb_ok {α : Type} (env : LEnv) (a : α) (G : Gst) (f : α → Gst → SR) : sb env (.ok a G) f = f a G := rfl
@[simp] theorem sb_exn {α : Type} (env : LEnv) (c : Ex) (G : Gst) (f : α → Gst → SR) : sb env (.exn c G) f = .ex c env G := rfl
section
variable {kt : Kt} {B : Bs} {X : Cx} {W W1 : Wd} {Wish : WX} {σ : L2.St} {env : LEnv} {p : Bool} {α β : Type}
theorem PoS.shiftS {r : SR} {D : Ends} (h : PoS kt B W Wish r D) (e : ExtS W W1) : PoS kt B W1 Wish r D := by
  cases r with
  | bad => exact h
  | nx _ _ => exact fun W' σ e' => h W' σ (e.trans e')
  | bk _ _ => exact fun W' σ e' => h W' σ (e.trans e')
  | ct _ _ => exact fun W' σ e' => h W' σ (e.trans e')
  | rt _ _ => exact fun W' w e' => h W' w (e.trans e')
  | ex _ _ _ => exact fun W' σ od e' => h W' σ od (e.trans e')
theorem PoS.shift {r : SR} {D : Ends} (h : PoS kt B W Wish r D) (e : Ext p W W1) : PoS kt B W1 Wish r D := h.shiftS e.toS
theorem PoS.bindS {Z : Wd → α → β → Prop} {r : CardH.R α} {f : α → Gst → SR} {D : Ends} (h : PoS kt B W Wish (sb env r f) D) :
    PoX kt B p σ env W Wish Z r (fun v H1 => ∃ W1 x G1, W1.H = H1 ∧ Ext p W W1 ∧ RAll kt B W1 σ env G1 ∧ Z W1 x v ∧ PoS kt B W1 Wish (f x G1) D) := by
  cases r with
  | bad => exact h
  | exn c G => exact fun W' od e A z => h W' σ od e.toS A z
  | ok x G => exact fun W' v e A z => ⟨W', x, G, rfl, e, A, z, h.shift e⟩
end
def dNext : DS := fun e G => .nx e G
def dSeq (a b : DS) : DS := fun e G => match a e G with
  | .nx e1 G1 => b e1 G1
  | r => r
def dRet (d : DE) : DS := fun e G => sb e (d e G) fun v G1 => .rt v G1
def dRetN : DS := fun _ G => .rt .non G
def dExpr (d : DE) : DS := fun e G => sb e (d e G) fun _ G1 => .nx e G1
def dBreak : DS := fun e G => .bk e G
def dCont : DS := fun e G => .ct e G
def dIfS (t : DT) (a b : DS) : DS := fun e G => sb e (t e G) fun c G1 => match c with
  | true => a e G1
  | false => b e G1
def dAsg (d : DE) (g : DG) : DS := fun e G => sb e (d e G) fun x G1 => match g e x with
  | some e1 => .nx e1 G1
  | none => .bad
def forL (g : DG) (db : DS) : List Vl → LEnv → Gst → SR
  | [], e, G => .nx e G
  | x :: xs, e, G => match g e x with
    | none => .bad
    | some e1 => match db e1 G with
      | .nx e2 G2 => forL g db xs e2 G2
      | .ct e2 G2 => forL g db xs e2 G2
      | .bk e2 G2 => .nx e2 G2
      | r => r
def dFor (di : DI) (g : DG) (db : DS) : DS := fun e G => sb e (di e G) fun xs G1 => forL g db xs e G1
def whileL (t : DT) (db : DS) : Nat → LEnv → Gst → SR
  | 0, _, _ => .bad
  | n + 1, e, G => sb e (t e G) fun c G1 => match c with
    | false => .nx e G1
    | true => match db e G1 with
      | .nx e2 G2 => whileL t db n e2 G2
      | .ct e2 G2 => whileL t db n e2 G2
      | .bk e2 G2 => .nx e2 G2
      | r => r
def dWhile (n : Nat) (t : DT) (db : DS) : DS := whileL t db n
section
variable {kt : Kt} {B : Bs} {X : Cx} {p : Bool} {m : Md} {e : Expr} {d : DE} {t : DT} {st : Stmt} {rest a b body : List Stmt} {ds d1 d2 : DS} {pos : Pos} {g : DG} {sl : List Nat} {di : DI}
theorem sss_nil : SSs kt B X [] dNext := fun Wish _ => pss_nil.imp fun D σ H ⟨W, env, G, e, A, h⟩ => by
  subst e; exact h W σ ExtR.refl A
theorem sss_cons (h1 : SS kt B X st d1) (h2 : SSs kt B X rest d2) : SSs kt B X (st :: rest) (dSeq d1 d2) := fun Wish tk => (pss_cons (h1 Wish tk) (h2 Wish tk)).imp fun D σ H ⟨W, env, G, e, A, h⟩ => by
  subst e
  refine ⟨W, env, G, rfl, A, ?_⟩
  unfold dSeq at h
  cases q : d1 env G with
  | bad => rw [q] at h; exact h
  | nx e1 G1 => rw [q] at h; exact fun W' σ' e' A' => ⟨W', e1, G1, rfl, A', PoS.shiftS h e'⟩
  | bk _ _ => rw [q] at h; exact h
  | ct _ _ => rw [q] at h; exact h
  | rt _ _ => rw [q] at h; exact h
  | ex _ _ _ => rw [q] at h; exact h
theorem sss_one (h1 : SS kt B X st d1) : SSs kt B X [st] d1 := fun Wish tk => (pss_one (h1 Wish tk))
theorem ss_pass : SS kt B X (.Pass pos) dNext := fun Wish _ => ps_pass.imp fun D σ H ⟨W, env, G, e, A, h⟩ => by
  subst e; exact h W σ ExtR.refl A
theorem ss_doc {x j pos'} : SS kt B X (.Expr (.Constant (.str x) j pos) pos') dNext := fun Wish _ => ps_doc.imp fun D σ H ⟨W, env, G, e, A, h⟩ => by
  subst e; exact h W σ ExtR.refl A
theorem ss_break : SS kt B X (.Break pos) dBreak := fun Wish _ => ps_break.imp fun D σ H ⟨W, env, G, e, A, h⟩ => by
  subst e; exact h W σ ExtR.refl A
theorem ss_cont : SS kt B X (.Continue pos) dCont := fun Wish _ => ps_continue.imp fun D σ H ⟨W, env, G, e, A, h⟩ => by
  subst e; exact h W σ ExtR.refl A
theorem ss_expr (h : SX kt B X p m e d) (hs : swapsWith e none pos.line X.env = pure false := by rfl) : SS kt B X (.Expr e pos) (dExpr d) := fun Wish tk => (ps_expr (h Wish tk) hs).imp fun D σ H ⟨W, env, G, e, A, h⟩ => by
  subst e
  refine ⟨W, env, G, rfl, A, h.bindS.mono ?_⟩
  rintro v H1 ⟨W1, x, G1, rfl, e1, A1, z1, h1⟩
  exact h1 W1 σ ExtR.refl A1
theorem ss_ret (h : SX kt B X p .s e d) : SS kt B X (.Return (some e) pos) (dRet d) := fun Wish tk => (ps_ret (h Wish tk)).imp fun D σ H ⟨W, env, G, e, A, h⟩ => by
  subst e
  refine ⟨W, env, G, rfl, A, h.bindS.mono ?_⟩
  rintro v H1 ⟨W1, x, G1, rfl, e1, A1, z1, h1⟩
  exact h1 W1 v ExtR.refl A1.out z1.strict
theorem ss_retN : SS kt B X (.Return none pos) dRetN := fun Wish tk => ps_retN.imp fun D σ H ⟨W, env, G, e, A, h⟩ => by
  subst e
  exact h W .non ExtR.refl A.out rfl
theorem ss_if {c : Expr} (hc : ST kt B X p c t) (ha : SSs kt B X a d1) (hb : SSs kt B X b d2) : SS kt B X (.If c a b pos) (dIfS t d1 d2) := fun Wish tk => (ps_if (hc Wish tk) (ha Wish tk) (hb Wish tk)).imp fun D σ H ⟨W, env, G, e, A, h⟩ => by
  subst e
  refine ⟨W, env, G, rfl, A, h.bindS.mono ?_⟩
  rintro c H1 ⟨W1, x, G1, rfl, e1, A1, z1, h1⟩
  obtain rfl : x = c := z1
  cases x with
  | true => rw [if_pos rfl]; exact ⟨W1, env, G1, rfl, A1, h1⟩
  | false => rw [if_neg Bool.false_ne_true]; exact ⟨W1, env, G1, rfl, A1, h1⟩
theorem ss_asg {tg : Expr} (he : SX kt B X p .s e d) (hg : SG kt B X sl tg g) (hs : swapsWithSole [tg] e pos.line X.env = pure false := by rfl) (hw : swappedStores [tg] e X.env = pure none := by rfl) (h1 : (assignEach [tg] X.env).map (·.2) = [assign tg X.env] := by rfl) :
    SS kt B X (.Assign [tg] e pos) (dAsg d g) := fun Wish tk => (ps_asg (he Wish tk) hg hs hw h1).imp fun D σ H ⟨W, env, G, e, A, h⟩ => by
  subst e
  refine ⟨W, env, G, rfl, A, h.bindS.mono ?_⟩
  rintro v H1 ⟨W1, x, G1, rfl, e1, A1, z1, h1⟩
  cases eg : g env x with
  | none => rw [eg] at h1; exact h1.elim
  | some e' =>
    rw [eg] at h1
    exact ⟨W1, env, G1, x, e', rfl, A1, z1.strict, eg, fun σ' hset hw => h1 W1 σ' ExtR.refl (hset W1 G1 Ext.refl A1)⟩
/-- name = e -/
theorem ss_set (i : Nat) {x : Str} {pos' : Pos} (hN : X.N.Nodup) (he : SX kt B X p .s e d) (hi : X.N[i]? = some x := by rfl) (hx : Loc X.env.scope x := by first | exact Or.inl rfl | exact Or.inr rfl) (hs : swapsWith e (some (.Name x pos')) pos.line X.env = pure false := by rfl)
    (hf : X.fn x = true ∨ X.env.scope.names.lookup x = some .local := by first | exact .inl rfl | exact .inr rfl) : SS kt B X (.Assign [.Name x pos'] e pos) (dAsg d (gSet i)) := fun Wish tk => (ps_set hN hi hx (he Wish tk) hs hf).imp fun D σ H ⟨W, env, G, e, A, h⟩ => by
  subst e
  refine ⟨W, env, G, rfl, A, h.bindS.mono ?_⟩
  rintro v H1 ⟨W1, x, G1, rfl, e1, A1, z1, h1⟩
  exact h1 W1 _ ExtR.refl (A1.set z1.strict)
theorem for_core {W : Wd} {Wish : WX} {σ : L2.St} {env : LEnv} {G : Gst} {D : Ends} {xs : List Vl} {J : It} {Gd : Hp → Prop} {Y : Nat → Hp → V → Hp → Prop} {db : DS} (A : RAll kt B W σ env G) (h : PoS kt B W Wish (forL g db xs env G) D) (wk : Walk J xs.length Gd Y) (yl : Yl kt W xs Gd Y) :
    ∃ W' : Nat → Nat → L2.St → Hp → Prop, (∃ m, W' 0 m σ W.H) ∧ ∀ i m σ H, W' i m σ H →
      (J.stop i H ∧ D.nx σ H) ∨ (J.go i H ∧ ∃ N : L2.St → Hp → Prop, (∀ σ' H', N σ' H' → ∃ m', m' < m ∧ W' (i + 1) m' σ' H') ∧ ∀ x H', J.yld i H x H' → rdG kt B sl g x σ H' fun σ2 H2 => rdS kt B Wish db { D with nx := N, ct := N, bk := D.nx } σ2 H2) := by
  refine for_it wk (fun i σ H => ∃ Wi ei Gi, Wi.H = H ∧ ExtS W Wi ∧ RAll kt B Wi σ ei Gi ∧ PoS kt B Wi Wish (forL g db (xs.drop i) ei Gi) D) ?_ ?_ ?_ ?_
  · exact ⟨W, env, G, rfl, ExtR.refl, A, h⟩
  · rintro i σ H hi ⟨Wi, ei, Gi, rfl, e, _⟩
    exact yl.gd Wi e
  · rintro i x σ H H' hi ⟨Wi, ei, Gi, eH, e, Ai, hi'⟩ y
    obtain ⟨y0, hy0, hrep⟩ := yl.yl i H x H' hi y Wi e eH
    have hW2 : ∃ W2, W2.H = H' ∧ Ext true Wi W2 ∧ RAll kt B W2 σ ei Gi ∧ Rep kt.K W2 y0 x := by
      rcases hrep with ⟨e, r⟩ | ⟨T, us, e, hT, e2, r⟩
      · exact ⟨Wi, by rw [e]; exact eH, Ext.refl, Ai, r⟩
      · have hT' : Wi.H T = none := by rw [eH]; exact hT
        exact ⟨Wi.alloc T (.tup us) .no, by rw [e2, ← eH]; rfl, Ext.alloc hT', Ai.alloc hT' rfl rfl, r⟩
    obtain ⟨W2, rfl, e2, A2, rep⟩ := hW2
    have e02 : ExtS W W2 := e.trans e2.toS
    have hdrop : xs.drop i = y0 :: xs.drop (i + 1) := by
      obtain ⟨h1, h2⟩ := List.getElem?_eq_some_iff.mp hy0
      rw [List.drop_eq_getElem_cons h1, h2]
    rw [hdrop] at hi'
    unfold forL at hi'
    cases eg : g ei y0 with
    | none => rw [eg] at hi'; exact hi'.elim
    | some e' =>
      rw [eg] at hi'
      dsimp only at hi'
      refine ⟨W2, ei, Gi, y0, e', rfl, A2, rep, eg, fun σ' hset hw => ⟨W2, e', Gi, rfl, hset W2 Gi Ext.refl A2, ?_⟩⟩
      cases qb : db e' Gi with
      | bad => rw [qb] at hi'; exact hi'.elim
      | nx e3 G3 =>
        rw [qb] at hi'
        exact fun W3 σ3 e23 A3 => ⟨W3, e3, G3, rfl, e02.trans e23, A3, (PoS.shift hi' e2).shiftS e23⟩
      | ct e3 G3 =>
        rw [qb] at hi'
        exact fun W3 σ3 e23 A3 => ⟨W3, e3, G3, rfl, e02.trans e23, A3, (PoS.shift hi' e2).shiftS e23⟩
      | bk e3 G3 =>
        rw [qb] at hi'
        exact fun W3 σ3 e23 A3 => hi' W3 σ3 (e2.toS.trans e23) A3
      | rt v3 G3 =>
        rw [qb] at hi'
        exact fun W3 w e23 A3 => hi' W3 w (e2.toS.trans e23) A3
      | ex c e3 G3 =>
        rw [qb] at hi'
        exact fun W3 σ3 od e23 A3 => hi' W3 σ3 od (e2.toS.trans e23) A3
  · rintro σ H ⟨Wi, ei, Gi, rfl, e, Ai, hi'⟩
    rw [List.drop_length] at hi'
    exact hi' Wi σ ExtR.refl Ai
theorem ss_for {tg iter : Expr} {db : DS} (hp : PassesOwn (model X.prog X.w) X.A X.env X.xe) (hc : X.calm = true) (hi : SI kt B X p tg iter di) (hg : SG kt B X sl tg g) (hb : SSs kt B X body db) (hs : ∀ x, foldedSetIterable iter X.env x = pure x := by intro _; rfl) :
    SS kt B X (.For tg iter body [] pos) (dFor di g db) := fun Wish tk => by
  obtain ⟨wi, hwi, him⟩ := hi Wish tk
  refine (ps_for hp hc hwi hg (hb Wish tk) hs).imp fun D σ H ⟨W, env, G, e, A, h⟩ => ?_
  subst e
  refine him _ _ _ ⟨W, env, G, rfl, A, ?_⟩
  unfold dFor at h
  cases q : di env G with
  | bad => rw [q] at h; exact h
  | exn c G' => rw [q] at h; exact fun W' od e A z => h W' σ od e.toS A z
  | ok xs G1 =>
    rw [q, sb_ok] at h
    intro W1 e1 A1 J Gd Y wk yl
    exact for_core A1 (h.shift e1) wk yl
theorem ss_while {c : Expr} {db : DS} (n : Nat) (hp : PassesOwn (model X.prog X.w) X.A X.env X.xe) (hc : ST kt B X p c t) (hb : SSs kt B X body db) : SS kt B X (.While c body [] pos) (dWhile n t db) := fun Wish tk => (ps_while hp (hc Wish tk) (hb Wish tk)).imp fun D σ H ⟨W, env, G, e, A, h⟩ => by
  subst e
  refine ⟨fun m σ H => ∃ Wi ei Gi, Wi.H = H ∧ RAll kt B Wi σ ei Gi ∧ PoS kt B Wi Wish (whileL t db m ei Gi) D, ⟨n, W, env, G, rfl, A, h⟩, ?_⟩
  rintro m σ H ⟨Wi, ei, Gi, rfl, Ai, hi⟩
  cases m with
  | zero => exact hi.elim
  | succ m =>
    refine ⟨Wi, ei, Gi, rfl, Ai, (PoS.bindS hi).mono ?_⟩
    rintro b H1 ⟨W1, x, G1, rfl, e1, A1, z1, h1⟩
    obtain rfl : x = b := z1
    cases x with
    | false => rw [if_neg Bool.false_ne_true]; exact h1 W1 σ ExtR.refl A1
    | true =>
      rw [if_pos rfl]
      refine ⟨fun σ H => ∃ Wi ei Gi, Wi.H = H ∧ RAll kt B Wi σ ei Gi ∧ PoS kt B Wi Wish (whileL t db m ei Gi) D, fun σ' H' x => ⟨m, Nat.lt_succ_self _, x⟩, W1, ei, G1, rfl, A1, ?_⟩
      dsimp only at h1
      cases qb : db ei G1 with
      | bad => rw [qb] at h1; exact h1.elim
      | nx e3 G3 => rw [qb] at h1; exact fun W3 σ3 e23 A3 => ⟨W3, e3, G3, rfl, A3, PoS.shiftS h1 e23⟩
      | ct e3 G3 => rw [qb] at h1; exact fun W3 σ3 e23 A3 => ⟨W3, e3, G3, rfl, A3, PoS.shiftS h1 e23⟩
      | bk e3 G3 => rw [qb] at h1; exact h1
      | rt v3 G3 => rw [qb] at h1; exact h1
      | ex c e3 G3 => rw [qb] at h1; exact h1
end

/-! ### raise -/
abbrev DX := LEnv → Gst → CardH.R Ex
def SMk (kt : Kt) (B : Bs) (X : Cx) (e : Expr) (d : DX) : Prop := ∀ Wish, Takes X Wish → ∃ t, PMk X e t ∧ ∀ σ H Q, (∃ W env G, W.H = H ∧ RAll kt B W σ env G ∧ (match d env G with
    | .bad => False
    | .exn c G' => ∀ W' od, Ext false W W' → RAll kt B W' σ env G' → ExOk c od W'.H → Wish (kt.exc c.cls) od σ W'.H
    | .ok c G' => ∀ W' od, Ext false W W' → RAll kt B W' σ env G' → ExOk c od W'.H → Q (kt.exc c.cls) od W'.H)) → t σ H Q
def dRaise (d : DX) : DS := fun e G => sb e (d e G) fun c G1 => .ex c e G1
def dxC (c : Nat) : DX := fun _ G => .ok { cls := c } G
def dxE (c : Nat) (d : DE) : DX := fun e G => (d e G).bind fun _ G1 => .ok { cls := c } G1
section
variable {kt : Kt} {B : Bs} {X : Cx} {p : Bool} {m : Md} {e : Expr} {d : DE} {pos : Pos} {dx : DX}
theorem ss_raise (hc : X.calm = true) (h : SMk kt B X e dx) : SS kt B X (.Raise (some e) none pos) (dRaise dx) := fun Wish tk => by
  obtain ⟨t, ht, hi⟩ := h Wish tk
  refine (ps_raise hc tk ht).imp fun D σ H ⟨W, env, G, e, A, h⟩ => hi _ _ _ ⟨W, env, G, e, A, ?_⟩
  unfold dRaise at h
  cases q : dx env G with
  | bad => rw [q] at h; exact h
  | exn c G' => rw [q] at h; exact fun W' od e A z => h W' σ od e.toS A z
  | ok c G' => rw [q] at h; exact fun W' od e A z => h W' σ od e.toS A z
/-- an own class of the text, of a text -/
structure ExcCls (kt : Kt) (X : Cx) (c : Nat) (x : Str) : Prop where
  ex : ∃ (C : Addr) (bmB : List Value) (Bn newId initId : String), ExcBaseFacts Bn newId initId bmB ∧ PySem.W.excIn X.K C bmB newId = true ∧ X.mg x = some (.ref C) ∧ PySem.W.keepIn X.K (.ref C) = true ∧ Raises X (.ref C) ∧ kt.exc c = .ref C
theorem smk_own (c : Nat) {x : Str} {ms : Str} {j : Nat} {np p2 : Pos} (F : ExcCls kt X c x) (hg : Gl X x := by rfl) (hdb : (x == ("__debug__" : Str)) = false := by decide) : SMk kt B X (.Call (.Name x np) [.Constant (.str ms) j p2] [] pos) (dxC c) := fun Wish tk => by
  obtain ⟨C, bmB, Bn, newId, initId, F, q, gC, kC, r, ec⟩ := F.ex
  refine ⟨_, pmk_own F q gC kC r hg hdb, fun σ H Q ⟨W, env, G, e, A, h⟩ => ?_⟩
  subst e
  have h := h W none Ext.refl A trivial
  rw [show kt.exc ({ cls := c } : Ex).cls = .ref C from ec] at h
  exact h
theorem smk_own1 (c : Nat) {x : Str} {np : Pos} (F : ExcCls kt X c x) (he : SX kt B X p m e d) (hg : Gl X x := by rfl) (hs : starEach [e] X.env = (false, eval e X.env) :: starEach [] X.env := by rfl) (hdb : (x == ("__debug__" : Str)) = false := by decide) :
    SMk kt B X (.Call (.Name x np) [e] [] pos) (dxE c d) := fun Wish tk => by
  obtain ⟨C, bmB, Bn, newId, initId, F, q, gC, kC, r, ec⟩ := F.ex
  refine ⟨_, SkE.pmk_own1 F q gC kC r hg (he Wish tk) hs hdb, fun σ H Q ⟨W, env, G, e, A, h⟩ => ?_⟩
  subst e
  refine ⟨W, env, G, rfl, A, ?_⟩
  unfold dxE at h
  cases q : d env G with
  | bad => rw [q] at h; exact h
  | exn c G' => rw [q] at h; exact fun W' od e A z => h W' od e.fls A z
  | ok x G' =>
    rw [q] at h
    intro W' v e' A' z
    have h := h W' none e'.fls A' trivial
    rw [show kt.exc ({ cls := c } : Ex).cls = .ref C from ec] at h
    exact h
end
end CardH
end
section
set_option maxHeartbeats 2000000
namespace CardH
open PySem PySem.Spec PyProof.Rows L2

/-! ### what is written in place -/
def Wd.wr (W : Wd) (a : Addr) (o : HO) : Wd := ⟨W.Γ, W.ρ, upd W.H a o⟩
def okW : HO → Bool
  | .lst _ => true
  | .ins _ _ _ => true
  | .dK _ => true
  | .dT _ => true
  | _ => false
section
variable {kt : Kt} {B : Bs} {W W' : Wd} {σ : L2.St} {env : LEnv} {G : Gst} {a : Addr} {o o0 : HO} {i j : Nat} {r : Role} {p : Bool}
theorem Ext.wr (hs : (W.Γ a).still = false) (h : W.H a = some o0) (hw : okW o0 = true) : Ext false W (W.wr a o) where
  role := fun _ _ => rfl
  keep := fun b u hb nt hp => (upd_ne (fun e => by
    rcases hp with hp | hp
    · cases hp
    · rw [e, hs] at hp; cases hp)).trans hb
  tups := fun b xs hb => (upd_ne (fun e => by rw [e, h] at hb; cases hb; cases hw)).trans hb
  frz := fun b o u hb => (upd_ne (fun e => by rw [e, h] at hb; cases hb; cases hw)).trans hb
  there := fun b hb => by
    show upd W.H a o b ≠ none
    by_cases e : b = a
    · rw [e, upd_same]; simp
    · rw [upd_ne e]; exact hb
  pre := ⟨[], by simp [Wd.wr]⟩
theorem FvRep.but {K : PySem.W.Frag} (e : Ext false W W') (hk : ∀ b, W.Γ b = r → W.H b ≠ none → W'.H b = W.H b) : ∀ (x : Fv) (v : V), FvRep K W r x v → FvRep K W' r x v
  | .val x, v, h => Rep.ext e x v h
  | .ol xs, v, h => by
    obtain ⟨b, vs, e1, g, h1, h2⟩ := h
    exact ⟨b, vs, e1, (e.role b (by rw [h1]; simp)).trans g, (hk b g (by rw [h1]; simp)).trans h1, Reps.ext e _ _ h2⟩
  | .od false kvs, v, h => by
    obtain ⟨b, ks, e1, g, h1, h2⟩ := h
    refine ⟨b, ks, e1, (e.role b (rd_some h1)).trans g, ?_, RepK.ext e _ _ h2⟩
    unfold Rd at h1 ⊢
    rw [hk b g (rd_some h1)]; exact h1
  | .od true kvs, v, h => by
    obtain ⟨b, ks, e1, g, h1, h2⟩ := h
    refine ⟨b, ks, e1, (e.role b (rd_some h1)).trans g, ?_, RepT.ext e _ _ h2⟩
    unfold Rd at h1 ⊢
    rw [hk b g (rd_some h1)]; exact h1
theorem FldsRep.but (e : Ext false W W') (hk : ∀ b f, W.Γ b = .fld i f → W.H b ≠ none → W'.H b = W.H b) : ∀ (fs : List (Nat × Fv)) (fv : List (Str × V)), FldsRep kt W i fs fv → FldsRep kt W' i fs fv
  | [], _, h => h
  | (f, x) :: fs, fv, h => by
    obtain ⟨nm, v, r, h0, e1, h1, h2⟩ := h
    exact ⟨nm, v, r, h0, e1, FvRep.but e (fun b g => hk b f g) _ _ h1, FldsRep.but e hk fs r h2⟩
/-- the j-th object, or what one of its fields owns, is written -/
theorem RG.wr {ob' : Ob} (h : RG kt W G) (e : Ext false W W') (hr : W'.ρ = W.ρ) (hk : ∀ b (_ : Nat), b ≠ a → W.H b ≠ none → W'.H b = W.H b) (ha : ∀ i, W.Γ a = .obj i ∨ (∃ f, W.Γ a = .fld i f) → i = j) (hb : ∀ b, W.ρ[j]? = some b → ObRep kt W' j b ob') : RG kt W' (G.set j ob') := by
  refine ⟨by rw [hr, List.length_set]; exact h.len, fun i o hi => ?_⟩
  by_cases eij : j = i
  · subst eij
    by_cases hj : j < G.length
    · rw [List.getElem?_set_self hj] at hi
      cases hi
      obtain ⟨b, h1, h2, h3⟩ := h.ob j _ (List.getElem?_eq_getElem hj)
      refine ⟨b, by rw [hr]; exact h1, ?_, hb b h1⟩
      refine (e.role b ?_).trans h2
      generalize G[j] = o3 at h3
      cases o3 with
      | lst xs => obtain ⟨vs, q, _⟩ := h3; rw [q]; simp
      | dct lk t kvs => obtain ⟨u, _, q⟩ := h3; exact q.some
      | ins C fs => obtain ⟨dx, fv, q, _⟩ := h3; rw [q]; simp
    · rw [List.getElem?_eq_none (by simpa using hj)] at hi; cases hi
  · rw [List.getElem?_set_ne eij] at hi
    obtain ⟨b, h1, h2, h3⟩ := h.ob i o hi
    have hba : b ≠ a := fun z => eij (ha i (.inl (by rw [← z]; exact h2))).symm
    have hbn : W.H b ≠ none := by
      cases o with
      | lst xs => obtain ⟨vs, q, _⟩ := h3; rw [q]; simp
      | dct lk t kvs => obtain ⟨u, _, q⟩ := h3; exact q.some
      | ins C fs => obtain ⟨dx, fv, q, _⟩ := h3; rw [q]; simp
    refine ⟨b, by rw [hr]; exact h1, (e.role b hbn).trans h2, ?_⟩
    cases o with
    | lst xs =>
      obtain ⟨vs, q, z⟩ := h3
      exact ⟨vs, (hk b i hba hbn).trans q, Reps.ext e _ _ z⟩
    | dct lk t kvs =>
      obtain ⟨u, q, z⟩ := h3
      exact ⟨u, q.ext e, z.same (hk b i hba hbn)⟩
    | ins C fs =>
      obtain ⟨dx, fv, q, z, k⟩ := h3
      refine ⟨dx, fv, (hk b i hba hbn).trans q, FldsRep.but e (fun c f g hc => hk c i (fun z => ?_) hc) _ _ z, k⟩
      exact eij (ha i (.inr ⟨f, by rw [← z]; exact g⟩)).symm
theorem RAll.wr {ob' : Ob} (A : RAll kt B W σ env G) (hp : B.p = false) (h : W.H a = some o0) (hw : okW o0 = true) (hw' : okW o = true) (ha : W.Γ a = .obj j ∨ ∃ f, W.Γ a = .fld j f) (hb : ∀ b, W.ρ[j]? = some b → ObRep kt (W.wr a o) j b ob') :
    RAll kt B (W.wr a o) σ env (G.set j ob') := by
  have hs : (W.Γ a).still = false := by rcases ha with ha | ⟨f, ha⟩ <;> rw [ha] <;> rfl
  have e : Ext false W (W.wr a o) := Ext.wr hs h hw
  refine ⟨⟨fun b hb' => ?_, RG.wr A.ok.rg e rfl (fun b i hba hbn => upd_ne hba) (fun i hi => ?_) hb, ?_, fun b ps q => ?_⟩, A.re.ext e, ?_, fun z b u x q => ?_⟩
  · exact e.there b (A.ok.tr b hb')
  · rcases ha with ha | ⟨f, ha⟩ <;> rcases hi with hi | ⟨f', hi⟩ <;> rw [ha] at hi <;> cases hi <;> rfl
  · refine tabs_but A.ok.tabs fun b u q k => (upd_ne (fun z => ?_)).trans q
    rw [z, h] at q; cases q
    rcases k with ⟨_, k⟩ | ⟨_, k⟩ <;> rw [k] at hw <;> cases hw
  · have q : upd W.H a o b = some (.tbl ps) := q
    by_cases z : b = a
    · rw [z, upd_same] at q; cases q; cases hw'
    · rw [upd_ne z] at q; exact A.ok.tb b ps q
  · exact (A.si.trans e).mono fun z => by rw [hp] at z; cases z
  · have q : upd W.H a o b = some (.frz u x) := q
    by_cases k : b = a
    · rw [k, upd_same] at q; cases q; cases hw'
    · rw [upd_ne k] at q
      exact A.nl z b u x q
end
/-! ### o[i] = v, o a list of the store -/
def dSetO (dv do_ di : DE) : DS := fun e G => sb e (dv e G) fun v G1 => sb e (do_ e G1) fun x G2 => sb e (di e G2) fun y G3 => match x, y with
  | .ref j, .int k => match G3[j]? with
    | some (.lst xs) => match ixN xs.length k with
      | some n => .nx e (G3.set j (.lst (xs.set n v)))
      | none => .bad
    | _ => .bad
  | _, _ => .bad
section
variable {kt : Kt} {B : Bs} {X : Cx} {p pa pb pc : Bool} {m ma mb mc : Md} {a b e : Expr} {es : List Expr} {da db d dv : DE} {ds : DA} {pos pos' np : Pos}
theorem ss_setO (hp : B.p = false) (hv : SX kt B X pa .s e dv) (ho : SX kt B X pb .s a da) (hi : SX kt B X pc .s b db) (hs : swapsWithSole [.Subscript a b pos'] e pos.line X.env = pure false := by rfl) (hw : swappedStores [.Subscript a b pos'] e X.env = pure none := by rfl)
    (h1 : (assignEach [.Subscript a b pos'] X.env).map (·.2) = [assign (.Subscript a b pos') X.env] := by rfl)
    (ha : ∀ v, assign (.Subscript a b pos') X.env v = (do
      let ov ← holding [v] (eval a X.env)
      let iv ← holding [v, ov] (eval b X.env)
      standAt pos'
      holding [v, ov, iv] (setItem ov iv v)
      release [v, ov, iv] []) := by intro _; rfl) : SS kt B X (.Assign [.Subscript a b pos'] e pos) (dSetO dv da db) := fun Wish tk => by
  refine (ps_asg (hv Wish tk) (pg_sub (ho Wish tk) (hi Wish tk) set_list ha) hs hw h1).imp fun D σ H ⟨W, env, G, e, A, h⟩ => ?_
  subst e
  refine ⟨W, env, G, rfl, A, h.bindS.mono ?_⟩
  rintro v H1 ⟨W1, x, G1, rfl, e1, A1, z1, h1⟩
  refine ⟨W1, env, G1, rfl, A1, h1.bindS.mono ?_⟩
  rintro u H2 ⟨W2, y, G2, rfl, e2, A2, z2, h2⟩
  refine ⟨W2, env, G2, rfl, A2, h2.bindS.mono ?_⟩
  rintro w H3 ⟨W3, z, G3, rfl, e3, A3, z3, h3⟩
  split at h3
  · rename_i j k
    split at h3
    · rename_i xs eg
      split at h3
      · rename_i n en
        obtain ⟨a', rfl, ha'⟩ := (z2.ext (m := .s) e3 (.inr (fun z => by cases z))).ref
        obtain rfl := z3.int
        obtain ⟨a2, q1, q2, vs, q3, r⟩ := A3.ok.rg.ob _ _ eg
        rw [ha'] at q1; cases q1
        have rv : Rep kt.K W3 x v := (z1.strict.ext e2).ext e3
        refine ⟨a', vs, k, n, rfl, rfl, q3, by rw [← r.length]; exact en, ?_⟩
        have e4 : Ext false W3 (W3.wr a' (.lst (vs.set n v))) := Ext.wr (by rw [q2]; rfl) q3 rfl
        refine h3 (W3.wr a' (.lst (vs.set n v))) σ e4.toS (A3.wr hp q3 rfl rfl (.inl q2) fun b hb => ?_)
        rw [ha'] at hb; cases hb
        exact ⟨_, upd_same, (Reps.ext e4 _ _ r).set n (rv.ext e4)⟩
      · exact h3.elim
    · exact h3.elim
  · exact h3.elim
end

/-! ### fields -/
def dFld (f : Nat) (da : DE) : DE := fun env G => (da env G).bind fun x G1 => match x with
  | .ref i => match G1[i]? with
    | some (.ins _ fs) => match fs.lookup f with
      | some (.val y) => .ok y G1
      | _ => .bad
    | _ => .bad
  | _ => .bad
def dFldP (f : Nat) (da : DE) : DE := fun env G => (da env G).bind fun x G1 => match x with
  | .ref i => match G1[i]? with
    | some (.ins _ fs) => match fs.lookup f with
      | some y => .ok y.toVl G1
      | _ => .bad
    | _ => .bad
  | _ => .bad
def putN (f : Nat) (x : Fv) : List (Nat × Fv) → List (Nat × Fv)
  | [] => [(f, x)]
  | (g, y) :: r => if g = f then (g, x) :: r else (g, y) :: putN f x r
def dSetF (C0 f : Nat) (dv do_ : DE) : DS := fun e G => sb e (dv e G) fun v G1 => sb e (do_ e G1) fun x G2 => match x with
  | .ref i => match G2[i]? with
    | some (.ins C fs) => if C = C0 ∧ fs.length < 1000 then .nx e (G2.set i (.ins C (putN f (.val v) fs))) else .bad
    | _ => .bad
  | _ => .bad
/-- o.f op= v -/
def dAugF (C0 f : Nat) (o : Vl → Vl → Option Vl) (do_ dv : DE) : DS := fun e G => sb e (do_ e G) fun x G1 => match x with
  | .ref i => match G1[i]? with
    | some (.ins C1 fs) => match (if C1 = C0 then fs.lookup f else none) with
      | some (.val y) => sb e (dv e G1) fun v G2 => match o y v with
        | some z => match G2[i]? with
          | some (.ins C fs') => if C = C0 ∧ fs'.length < 1000 then .nx e (G2.set i (.ins C (putN f (.val z) fs'))) else .bad
          | _ => .bad
        | none => .bad
      | _ => .bad
    | _ => .bad
  | _ => .bad
theorem names_inj {l : List Str} (h : l.Nodup) {i j : Nat} {x : Str} (hi : l[i]? = some x) (hj : l[j]? = some x) : i = j := nodup_ix h hi hj
section
variable {kt : Kt} {B : Bs} {X : Cx} {W : Wd} {i : Nat}
theorem FldsRep.lookup (hn : kt.names.Nodup) {f : Nat} {nm : Str} (ef : kt.names[f]? = some nm) : ∀ {fs : List (Nat × Fv)} {fv : List (Str × V)} {x : Fv}, FldsRep kt W i fs fv → fs.lookup f = some x → ∃ v, fv.lookup nm = some v ∧ FvRep kt.K W (.fld i f) x v
  | [], _, _, _, h => by cases h
  | (g, y) :: fs, fv, x, h, e => by
    obtain ⟨nm', v, r, h0, rfl, h1, h2⟩ := h
    rw [List.lookup_cons] at e
    by_cases c : f = g
    · subst c
      rw [h0] at ef; cases ef
      rw [beq_self_eq_true] at e
      cases e
      exact ⟨v, by rw [List.lookup_cons, beq_self_eq_true], h1⟩
    · rw [show (f == g) = false from beq_eq_false_iff_ne.mpr c] at e
      obtain ⟨w, q1, q2⟩ := FldsRep.lookup hn ef h2 e
      refine ⟨w, ?_, q2⟩
      rw [List.lookup_cons, show (nm == nm') = false from beq_eq_false_iff_ne.mpr fun z => c (names_inj hn ef (by rw [z]; exact h0))]
      exact q1
theorem FldsRep.noneS {m : Str} : ∀ {fs : List (Nat × Fv)} {fv : List (Str × V)}, FldsRep kt W i fs fv → (∀ f nm, f ∈ fs.map (·.1) → kt.names[f]? = some nm → nm ≠ m) → fv.lookup m = Option.none
  | [], _, h, _ => by cases h; rfl
  | (g, y) :: fs, fv, h, k => by
    obtain ⟨nm', v, r, h0, rfl, h1, h2⟩ := h
    rw [List.lookup_cons, show (m == nm') = false from beq_eq_false_iff_ne.mpr fun z => k g nm' (by simp) h0 z.symm]
    exact FldsRep.noneS h2 fun f nm hf => k f nm (by simp only [List.map_cons, List.mem_cons]; exact .inr hf)
theorem FldsRep.put (hn : kt.names.Nodup) {f : Nat} {nm : Str} (ef : kt.names[f]? = some nm) {x : Fv} {v : V} (hx : FvRep kt.K W (.fld i f) x v) : ∀ {fs : List (Nat × Fv)} {fv : List (Str × V)}, FldsRep kt W i fs fv → FldsRep kt W i (putN f x fs) (putF nm v fv)
  | [], _, h => by cases h; exact ⟨nm, v, [], ef, rfl, hx, rfl⟩
  | (g, y) :: fs, fv, h => by
    obtain ⟨nm', u, r, h0, rfl, h1, h2⟩ := h
    unfold putN putF
    by_cases c : g = f
    · subst c
      rw [h0] at ef; cases ef
      rw [if_pos rfl, if_pos rfl]
      exact ⟨_, v, r, h0, rfl, hx, h2⟩
    · rw [if_neg c, if_neg fun z => c (names_inj hn h0 (by rw [z]; exact ef))]
      exact ⟨nm', u, _, h0, rfl, h1, FldsRep.put hn ef hx h2⟩
theorem FldsRep.length : ∀ {fs : List (Nat × Fv)} {fv : List (Str × V)}, FldsRep kt W i fs fv → fs.length = fv.length
  | [], _, h => by cases h; rfl
  | (g, y) :: fs, fv, h => by
    obtain ⟨nm', u, r, h0, rfl, h1, h2⟩ := h
    simp [FldsRep.length h2]
theorem putN_mem {f : Nat} {x : Fv} {g : Nat} : ∀ {fs : List (Nat × Fv)}, g ∈ (putN f x fs).map (·.1) → g = f ∨ g ∈ fs.map (·.1)
  | [], h => by simp [putN] at h; exact .inl h
  | (k, y) :: fs, h => by
    unfold putN at h
    split at h
    · exact .inr h
    · simp only [List.map_cons, List.mem_cons] at h ⊢
      rcases h with h | h
      · exact .inr (.inl h)
      · rcases putN_mem h with h | h
        · exact .inl h
        · exact .inr (.inr h)
theorem FldsOk.put {C f : Nat} {nm : Str} {x : Fv} {fs : List (Nat × Fv)} (h : FldsOk kt C fs) (ef : kt.names[f]? = some nm) (hn : NoAttr kt.K (kt.cls C) nm) : FldsOk kt C (putN f x fs) := by
  refine ⟨h.1, fun g nm' hg eg => ?_⟩
  rcases putN_mem hg with e | hg
  · subst e
    rw [ef] at eg; cases eg; exact hn
  · exact h.2 g nm' hg eg
theorem lookup_mem {f : Nat} {x : Fv} : ∀ {fs : List (Nat × Fv)}, fs.lookup f = some x → f ∈ fs.map (·.1)
  | [], h => by cases h
  | (g, y) :: fs, h => by
    rw [List.lookup_cons] at h
    by_cases c : f = g
    · subst c; simp
    · rw [show (f == g) = false from beq_eq_false_iff_ne.mpr c] at h
      simp only [List.map_cons, List.mem_cons]
      exact .inr (lookup_mem h)
variable {p pa pb pc : Bool} {m ma mb mc : Md} {a b e : Expr} {es : List Expr} {da db d dv : DE} {ds : DA} {pos pos' np tpos : Pos} {nm : Str}
theorem sx_fld (f : Nat) (hn : kt.names.Nodup) (ha : SX kt B X p .s a da) (ef : kt.names[f]? = some nm := by rfl) (hb : attributeBase a nm X.env (eval a X.env) = eval a X.env := by rfl) (hK : X.K = kt.K := by rfl) : SX kt B X p .s (.Attribute a nm pos) (dFld f da) := fun Wish tk => by
  refine (pe_fld (ha Wish tk) hb).imp fun σ H Q ⟨W, env, G, e, A, h⟩ => ?_
  subst e
  refine ⟨W, env, G, rfl, A, h.bindL.mono ?_⟩
  rintro v H1 ⟨W1, x, G1, rfl, e1, A1, z1, h1⟩
  cases x with
  | ref i =>
    dsimp only at h1
    split at h1
    · rename_i C fs eg
      split at h1
      · rename_i y ey
        obtain ⟨a', rfl, ha'⟩ := z1.ref
        obtain ⟨a2, q1, q2, dx, fv, q3, r, k⟩ := A1.ok.rg.ob _ _ eg
        rw [ha'] at q1; cases q1
        obtain ⟨v, l, fr⟩ := r.lookup hn ef ey
        rw [hK]
        exact ⟨a', kt.cls C, dx, fv, v, rfl, q3, k.1, k.2 f nm (lookup_mem ey) ef, l, h1 W1 v Ext.refl A1 (.inl fr)⟩
      · exact h1.elim
    · exact h1.elim
  | _ => exact h1.elim
theorem sx_fldP (f : Nat) (hn : kt.names.Nodup) (ha : SX kt B X p .s a da) (ef : kt.names[f]? = some nm := by rfl) (hb : attributeBase a nm X.env (eval a X.env) = eval a X.env := by rfl) (hK : X.K = kt.K := by rfl) : SX kt B X p .f (.Attribute a nm pos) (dFldP f da) := fun Wish tk => by
  refine (pe_fld (ha Wish tk) hb).imp fun σ H Q ⟨W, env, G, e, A, h⟩ => ?_
  subst e
  refine ⟨W, env, G, rfl, A, h.bindL.mono ?_⟩
  rintro v H1 ⟨W1, x, G1, rfl, e1, A1, z1, h1⟩
  cases x with
  | ref i =>
    dsimp only at h1
    split at h1
    · rename_i C fs eg
      split at h1
      · rename_i y ey
        obtain ⟨a', rfl, ha'⟩ := z1.ref
        obtain ⟨a2, q1, q2, dx, fv, q3, r, k⟩ := A1.ok.rg.ob _ _ eg
        rw [ha'] at q1; cases q1
        obtain ⟨v, l, fr⟩ := r.lookup hn ef ey
        rw [hK]
        exact ⟨a', kt.cls C, dx, fv, v, rfl, q3, k.1, k.2 f nm (lookup_mem ey) ef, l, h1 W1 v Ext.refl A1 (.inr ⟨_, y, rfl, rfl, fr⟩)⟩
      · exact h1.elim
    · exact h1.elim
  | _ => exact h1.elim
/-- o.f = v -/
theorem ss_setF (C0 f : Nat) (hn : kt.names.Nodup) (hp : B.p = false) (no : NoAttr kt.K (kt.cls C0) nm) (hv : SX kt B X pa .s e dv) (ho : SX kt B X pb .s a da)
    (ef : kt.names[f]? = some nm := by rfl) (hs : swapsWith e (some (.Attribute a nm pos')) pos.line X.env = pure false := by rfl) (hK : X.K = kt.K := by rfl) : SS kt B X (.Assign [.Attribute a nm pos'] e pos) (dSetF C0 f dv da) := fun Wish tk => by
  refine (ps_fld (ho Wish tk) (hv Wish tk) hs).imp fun D σ H ⟨W, env, G, e, A, h⟩ => ?_
  subst e
  refine ⟨W, env, G, rfl, A, h.bindS.mono ?_⟩
  rintro v H1 ⟨W1, x, G1, rfl, e1, A1, z1, h1⟩
  refine ⟨W1, env, G1, rfl, A1, h1.bindS.mono ?_⟩
  rintro u H2 ⟨W2, y, G2, rfl, e2, A2, z2, h2⟩
  cases y with
  | ref i =>
    dsimp only at h2
    split at h2
    · rename_i C fs eg
      split at h2
      · rename_i hl
        obtain ⟨rfl, hl⟩ := hl
        obtain ⟨a', rfl, ha'⟩ := z2.ref
        obtain ⟨a2, q1, q2, dx, fv, q3, r, k⟩ := A2.ok.rg.ob _ _ eg
        rw [ha'] at q1; cases q1
        rw [hK]
        refine ⟨a', kt.cls C, dx, fv, rfl, q3, k.1, no, by rw [← r.length]; exact hl, ?_⟩
        have e4 : Ext false W2 (W2.wr a' (.ins (kt.cls C) dx (putF nm v fv))) := Ext.wr (by rw [q2]; rfl) q3 rfl
        refine h2 (W2.wr a' (.ins (kt.cls C) dx (putF nm v fv))) σ e4.toS (A2.wr hp q3 rfl rfl (.inl q2) fun b hb => ?_)
        rw [ha'] at hb; cases hb
        refine ⟨dx, _, upd_same, FldsRep.put hn ef (x := .val x) (Rep.ext e4 _ _ (z1.strict.ext e2)) (FldsRep.but e4 (fun b f g _ => upd_ne fun z => ?_) _ _ r), k.put ef no⟩
        rw [z, q2] at g; cases g
      · exact h2.elim
    · exact h2.elim
  | _ => exact h2.elim
/-- an augmented operator -/
def InS (kt : Kt) (X : Cx) (op : Operator) (o : Vl → Vl → Option Vl) : Prop :=
  ∃ r : R2, OpR X (inplaceOp op) r ∧ ∀ (B : Bs) (σ : L2.St) (env : LEnv) (G : Gst) (W : Wd) (x y : Vl) (v u : V) (z : Vl) (Q : VK), RAll kt B W σ env G → Pk kt.K W .f x v → Pk kt.K W .f y u → o x y = some z →
    (∀ W' w, Ext true W W' → RAll kt B W' σ env G → Rep kt.K W' z w → Q w W'.H) → r v u W.H Q
theorem ss_augF {op : Operator} {o : Vl → Vl → Option Vl} (C0 f : Nat) (ho' : InS kt X op o) (hn : kt.names.Nodup) (hp : B.p = false) (no : NoAttr kt.K (kt.cls C0) nm) (ho : SX kt B X pb .s a da) (hv : SX kt B X pa .s e dv)
    (ef : kt.names[f]? = some nm := by rfl) (hK : X.K = kt.K := by rfl) : SS kt B X (.AugAssign (.Attribute a nm tpos) op e pos) (dAugF C0 f o da dv) := fun Wish tk => by
  obtain ⟨r, hr, hs⟩ := ho'
  refine (ps_fldaug (ho Wish tk) (hv Wish tk) (rd := r) (fun pins s σ H x y u v Q I rx ry q => hr pins s σ H x y u v Q I rx ry q)).imp fun D σ H ⟨W, env, G, e, A, h⟩ => ?_
  subst e
  refine ⟨W, env, G, rfl, A, h.bindS.mono ?_⟩
  rintro v H1 ⟨W1, x, G1, rfl, e1, A1, z1, h1⟩
  cases x with
  | ref i =>
    dsimp only at h1
    split at h1
    · rename_i C fs eg
      split at h1
      · rename_i y ey
        split at ey
        case isFalse => cases ey
        rename_i eC
        subst eC
        obtain ⟨a', rfl, ha'⟩ := z1.ref
        obtain ⟨a2, q1, q2, dx, fv, q3, r3, k⟩ := A1.ok.rg.ob _ _ eg
        rw [ha'] at q1; cases q1
        obtain ⟨v0, l, fr⟩ := r3.lookup hn ef ey
        rw [hK]
        refine ⟨a', kt.cls C, dx, fv, v0, rfl, q3, k.1, k.2 f nm (lookup_mem ey) ef, l, W1, env, G1, rfl, A1, h1.bindS.mono ?_⟩
        rintro u H2 ⟨W2, y2, G2, rfl, e2, A2, z2, h2⟩
        cases ez : o y y2 with
        | none => rw [ez] at h2; exact h2.elim
        | some z =>
          rw [ez] at h2
          dsimp only at h2
          refine hs B σ env G2 W2 y y2 v0 u z _ A2 (.inl (Rep.ext e2 _ _ fr)) z2.any ez fun W3 w e3 A3 rw3 => ?_
          split at h2
          · rename_i C' fs' eg'
            split at h2
            · rename_i hl
              obtain ⟨rfl, hl⟩ := hl
              have ha3 : W3.ρ[i]? = some a' := e3.toR.ref (e2.toR.ref ha')
              obtain ⟨a3, p1, p2, dx', fv', p3, r4, k'⟩ := A3.ok.rg.ob _ _ eg'
              rw [ha3] at p1; cases p1
              refine ⟨dx', fv', p3, by rw [← r4.length]; exact hl, ?_⟩
              have e4 : Ext false W3 (W3.wr a' (.ins (kt.cls C') dx' (putF nm w fv'))) := Ext.wr (by rw [p2]; rfl) p3 rfl
              refine h2 (W3.wr a' (.ins (kt.cls C') dx' (putF nm w fv'))) σ (e3.fls.trans e4).toS (A3.wr hp p3 rfl rfl (.inl p2) fun b hb => ?_)
              rw [ha3] at hb; cases hb
              refine ⟨dx', _, upd_same, FldsRep.put hn ef (x := .val z) (Rep.ext e4 _ _ rw3) (FldsRep.but e4 (fun b f g _ => upd_ne fun z => ?_) _ _ r4), k'.put ef no⟩
              rw [z, p2] at g; cases g
            · exact h2.elim
          · exact h2.elim
      · exact h1.elim
    · exact h1.elim
  | _ => exact h1.elim
end
end CardH
end
section
set_option maxHeartbeats 2000000
namespace CardH
open PySem PySem.Spec PyProof.Rows L2

/-! ### functions -/
abbrev FT := List Vl → Gst → CardH.R Vl
def spD (kt : Kt) (n : Nat) (Φ : FT) : Sp := fun vs H Q E => ∃ W G xs, W.H = H ∧ WOk kt W G ∧ NoLock W ∧ Reps kt.K W xs vs ∧ xs.length = n ∧ (match Φ xs G with
  | .bad => False
  | .ok x G' => ∀ W' v, Ext false W W' → WOk kt W' G' → NoLock W' → Rep kt.K W' x v → Q v W'.H
  | .exn c G' => ∀ W' od, Ext false W W' → WOk kt W' G' → NoLock W' → ExOk c od W'.H → E (kt.exc c.cls) od W'.H)
structure DFn (P : Program) (w : World) (base : Heap) (kt : Kt) (k : Nat) (f : Addr) (n : Nat) (Φ : FT) : Prop where
  ex : ∃ fd ps, FnOk P w kt.K kt.mg base (L2.CX P w) k f fd ps (spD kt n Φ) ∧ Binds kt.K fd ps [] ∧ ps.length = n
  kp : PySem.W.keepIn kt.K (.ref f) = true
theorem DFn.mono {P : Program} {w : World} {base : Heap} {kt : Kt} {j k : Nat} {f : Addr} {n : Nat} {Φ : FT} (F : DFn P w base kt j f n Φ) (h : j ≤ k) : DFn P w base kt k f n Φ := by
  obtain ⟨⟨fd, ps, F, b, l⟩, kp⟩ := F
  exact ⟨⟨fd, ps, F.mono h, b, l⟩, kp⟩
/-- Φ answers where Ψ does, as Ψ does -/
def Fle (n : Nat) (Ψ Φ : FT) : Prop := ∀ xs G, xs.length = n → Ψ xs G ≠ .bad → Φ xs G = Ψ xs G
theorem DFn.imp {P : Program} {w : World} {base : Heap} {kt : Kt} {k : Nat} {f : Addr} {n : Nat} {Φ Ψ : FT} (F : DFn P w base kt k f n Φ) (h : Fle n Ψ Φ) : DFn P w base kt k f n Ψ := by
  obtain ⟨⟨fd, ps, F, b, l⟩, kp⟩ := F
  refine ⟨⟨fd, ps, F.imp fun vs H Q E ⟨W, G, xs, e, ok, nl, r, hl, q⟩ => ⟨W, G, xs, e, ok, nl, r, hl, ?_⟩, b, l⟩, kp⟩
  have e := h xs G hl
  cases eq : Ψ xs G with
  | bad => rw [eq] at q; exact q.elim
  | ok x G' => rw [e (by rw [eq]; exact fun z => nomatch z), eq]; rw [eq] at q; exact q
  | exn c G' => rw [e (by rw [eq]; exact fun z => nomatch z), eq]; rw [eq] at q; exact q
def startE (n : Nat) (xs : List Vl) : LEnv := xs.map (fun x => some (.val x)) ++ List.replicate (n - xs.length) none
def runF (n : Nat) (d : DS) : FT := fun xs G => match d (startE n xs) G with
  | .nx _ G' => .ok .non G'
  | .rt v G' => .ok v G'
  | .ex c _ G' => .exn c G'
  | _ => .bad
section
variable {P : Program} {w : World} {base : Heap} {kt : Kt}
theorem start_re {W : Wd} {xs : List Vl} {vs : List V} {N : List Str} (r : Reps kt.K W xs vs) (H0 : Hp) : RE kt H0 W (L2.start N vs) (startE N.length xs) := by
  have hl := r.length
  refine ⟨by simp [L2.start, startE, hl], fun i fv hi => ?_⟩
  unfold startE at hi
  by_cases h : i < xs.length
  · rw [List.getElem?_append_left (by simpa using h), List.getElem?_map] at hi
    cases e : xs[i]? with
    | none => rw [e] at hi; cases hi
    | some x =>
      rw [e] at hi; cases hi
      obtain ⟨v, h1, h2⟩ := r.get e
      refine ⟨v, ?_, h2, fun z => nomatch z⟩
      unfold L2.start
      rw [List.getElem?_append_left (by rw [List.length_map, ← hl]; exact h), List.getElem?_map, h1]; rfl
  · rw [List.getElem?_append_right (by simpa using h), List.getElem?_replicate] at hi
    split at hi <;> cases hi
/-- a def of the text, by its body -/
theorem DFn.of {x qual : Str} {st : Stmt} {f : Addr} {fd : FuncData} {N ps : List Str} {k : Nat} (F : Fun kt.K x qual st f fd) (S : FnScope N ps (defScope st)) (hb : Binds kt.K fd ps []) (d : DS)
    (hbody : ∀ (cdv : Value) (A : Around) (outer : List Env) (s : Shared) (H : Hp) (E : XK) (W0 : Wd), Room k (A.deeper (envOfC qual (defScope st) s.heap.objs.size f cdv)) →
      SSs kt ⟨W0, false, false⟩ (cxOf (L2.CX P w) P w kt.K kt.mg base N qual (defScope st) f cdv A outer s H E) (defBody st) d) : DFn P w base kt (k + 1) f ps.length (runF N.length d) := by
  refine ⟨⟨fd, ps, F.okX S (fun vs H Q E ⟨W, G, xs, e, ok, nl, r, hl, q⟩ => by rw [← r.length]; exact hl) fun cdv A outer s H vs Q E hr ⟨W, G, xs, e, ok, nl, r, hl, q⟩ => ?_, hb, rfl⟩, F.kp⟩
  subst e
  have tk : Takes (cxOf (L2.CX P w) P w kt.K kt.mg base N qual (defScope st) f cdv A outer s W.H E) (fun cls d _ H => E cls d H) := takes_of rfl rfl rfl rfl
  refine ⟨_, hbody cdv A outer s W.H E W hr _ tk, W, startE N.length xs, G, rfl, ⟨ok, start_re r _, Ext.refl, fun _ => nl⟩, ?_⟩
  unfold runF at q
  cases e : d (startE N.length xs) G with
  | bad => rw [e] at q; exact q
  | nx e' G' => rw [e] at q; exact fun W' σ _ A => q W' .non A.si A.ok (A.nl rfl) rfl
  | bk e' G' => rw [e] at q; exact q.elim
  | ct e' G' => rw [e] at q; exact q.elim
  | rt v G' => rw [e] at q; exact fun W' w _ A r => q W' w A.si A.ok (A.nl rfl) r
  | ex c e' G' => rw [e] at q; exact fun W' σ od _ A z => q W' od A.si A.ok (A.nl rfl) z
end

/-! ### calls -/
def dCall (n : Nat) (Φ : FT) (ds : DA) : DE := fun env G => (ds env G).bind fun xs G1 => if xs.length = n then Φ xs G1 else .bad
def dMeth (C n : Nat) (Φ : FT) (do_ : DE) (ds : DA) : DE := fun env G => (do_ env G).bind fun x G1 => match x with
  | .ref i => match G1[i]? with
    | some (.ins C' _) => if C' = C then (ds env G1).bind fun xs G2 => if xs.length + 1 = n then Φ (x :: xs) G2 else .bad else .bad
    | _ => .bad
  | _ => .bad
def dMake (C n : Nat) (Φ : FT) (ds : DA) : DE := fun env G => (ds env G).bind fun xs G1 => if xs.length + 1 = n then (Φ (.ref G1.length :: xs) (G1 ++ [.ins C []])).bind fun r G2 => match r with
    | .non => .ok (.ref G1.length) G2
    | _ => .bad
  else .bad
/-- the promise at a call -/
theorem sp_of {kt : Kt} {B : Bs} {σ : L2.St} {env : LEnv} {W : Wd} {G : Gst} {Wish : WX} {n : Nat} {Φ : FT} {xs : List Vl} {vs : List V} {Q : VK} (hlk : B.lk = false) (hp : B.p = false) (A : RAll kt B W σ env G) (r : Reps kt.K W xs vs) (hl : xs.length = n)
    (h : PoX kt B false σ env W Wish (fun W x v => Pk kt.K W .s x v) (Φ xs G) Q) : spD kt n Φ vs W.H Q (fun cls d H => Wish cls d σ H) := by
  refine ⟨W, G, xs, rfl, A.ok, A.nl hlk, r, hl, ?_⟩
  cases e : Φ xs G with
  | bad => rw [e] at h; exact h
  | ok x G' =>
    rw [e] at h
    exact fun W' v ee ok nl rr => h W' v ee ⟨ok, A.re.ext ee, (A.si.trans ee).mono (fun z => by rw [hp] at z; cases z), fun _ => nl⟩ (.inl rr)
  | exn c G' =>
    rw [e] at h
    exact fun W' od ee ok nl z => h W' od ee ⟨ok, A.re.ext ee, (A.si.trans ee).mono (fun z => by rw [hp] at z; cases z), fun _ => nl⟩ z
theorem PoX.fls {kt : Kt} {B : Bs} {p : Bool} {α β : Type} {Z : Wd → α → β → Prop} {σ : L2.St} {env : LEnv} {W : Wd} {Wish : WX} {r : CardH.R α} {Q : β → Hp → Prop} (h : PoX kt B false σ env W Wish Z r Q) : PoX kt B p σ env W Wish Z r Q := h.weakP fun z => nomatch z
section
variable {kt : Kt} {B : Bs} {X : Cx} {p pa pb : Bool} {a e : Expr} {es : List Expr} {da : DE} {ds : DA} {pos np apos : Pos} {x m : Str} {k n : Nat} {f : Addr} {Φ : FT}
theorem sx_call (F : DFn X.prog X.w X.base kt k f n Φ) (hr : Room k X.A) (hf : kt.mg x = some (.ref f)) (hlk : B.lk = false) (hp : B.p = false) (ha : SAm kt B X p .s (e :: es) ds) (hg : Gl X x := by rfl) (hK : X.K = kt.K := by rfl) (hmg : X.mg = kt.mg := by rfl)
    (hdb : (x == ("__debug__" : Str)) = false := by decide) (he : starEach (e :: es) X.env = (false, eval e X.env) :: starEach es X.env := by rfl) (hpl : (backTo pos (starEach es X.env)).any (·.1) = false := by rfl) :
    SX kt B X false .s (.Call (.Name x np) (e :: es) [] pos) (dCall n Φ ds) := fun Wish tk => by
  obtain ⟨⟨fd, ps, F, b, l⟩, kp⟩ := F
  rw [← hK, ← hmg] at F
  rw [← hK] at b kp
  rw [← hmg] at hf
  refine (pe_callS (E := WE Wish) F hr hg hf kp b (passAt tk) (ha Wish tk) hdb he hpl).imp fun σ H Q ⟨W, env, G, e, A, h⟩ => ?_
  subst e
  refine ⟨W, env, G, rfl, A, (PoX.bindE (q := false) h.fls).mono ?_⟩
  rintro vs H1 ⟨W1, xs, G1, rfl, e1, A1, z1, h1⟩
  split at h1
  · exact sp_of hlk hp A1 z1.strict ‹_› h1
  · exact h1.elim
theorem sx_call0 (F : DFn X.prog X.w X.base kt k f n Φ) (hr : Room k X.A) (hf : kt.mg x = some (.ref f)) (hlk : B.lk = false) (hp : B.p = false) (hg : Gl X x := by rfl) (hK : X.K = kt.K := by rfl) (hmg : X.mg = kt.mg := by rfl)
    (hdb : (x == ("__debug__" : Str)) = false := by decide) : SX kt B X false .s (.Call (.Name x np) [] [] pos) (dCall n Φ daNil) := fun Wish tk => by
  obtain ⟨⟨fd, ps, F, b, l⟩, kp⟩ := F
  rw [← hK, ← hmg] at F
  rw [← hK] at b kp
  rw [← hmg] at hf
  refine ⟨fun pins s σ H Q I ⟨W, env, G, e, A, h⟩ => ?_⟩
  subst e
  refine wpAny_Call_Name_kw (ld_glob I hg hf ?_ hdb)
  have h : PoX kt B false σ env W Wish (fun W x v => Pk kt.K W .s x v) (if ([] : List Vl).length = n then Φ [] G else .bad) Q := h
  split at h
  · exact PySem.W.callWith_K0 I.kIn kp (run_fnS (us := []) (vs := []) (E := WE Wish) F hr b (passAt tk σ) I .nil (sp_of hlk hp A (xs := []) rfl ‹_› h))
  · exact h.elim
theorem meth_none {W : Wd} {G : Gst} {i : Nat} {C : Nat} {fs : List (Nat × Fv)} {fv : List (Str × V)} (r : FldsRep kt W i fs fv) (ok : FldsOk kt C fs) (hm : Meth kt.K (kt.cls C) m f) : fv.lookup m = none :=
  FldsRep.noneS r fun g nm hg eg e => by
    have := ok.2 g nm hg eg
    rw [e] at this
    have h2 := hm.at_
    unfold NoAttr at this
    rw [this] at h2
    cases h2
/-- what is between an instance and its method -/
theorem meth_at {W : Wd} {G : Gst} {σ : L2.St} {env : LEnv} {v : V} {i C : Nat} {fs : List (Nat × Fv)} (A : RAll kt B W σ env G) (z : Pk kt.K W .s (.ref i) v) (eg : G[i]? = some (.ins C fs)) (hm : Meth kt.K (kt.cls C) m f) :
    ∃ a dx fv, v = .ref a ∧ W.H a = some (.ins (kt.cls C) dx fv) ∧ Cls kt.K (kt.cls C) ∧ fv.lookup m = none := by
  obtain ⟨a', rfl, ha'⟩ := z.ref
  obtain ⟨a2, q1, q2, dx, fv, q3, r, k⟩ := A.ok.rg.ob _ _ eg
  rw [ha'] at q1; cases q1
  exact ⟨a', dx, fv, rfl, q3, k.1, meth_none (G := G) r k hm⟩
theorem sx_meth {pl : Sem Bool} (C : Nat) (hm : Meth kt.K (kt.cls C) m f) (F : DFn X.prog X.w X.base kt k f n Φ) (hr : Room k X.A) (hlk : B.lk = false) (hp : B.p = false) (ho : SX kt B X pa .s a da) (ha : SAm kt B X p .s (e :: es) ds) (hK : X.K = kt.K := by rfl) (hmg : X.mg = kt.mg := by rfl)
    (hst : starEach (e :: es) X.env = (false, eval e X.env) :: starEach es X.env := by rfl) (hpl : (backTo pos (starEach es X.env)).any (·.1) = false := by rfl)
    (ht : eval (.Call (.Attribute a m apos) (e :: es) [] pos) X.env = (do
      let ov ← eval a X.env
      standAt apos.atName
      let (f, first) ← holding [ov] (getMethod ov m pl)
      callWith pos f first (backTo pos (starEach (e :: es) X.env)) (backToKw pos (keywordEach [] X.env))) := by rfl) :
    SX kt B X false .s (.Call (.Attribute a m apos) (e :: es) [] pos) (dMeth C n Φ da ds) := fun Wish tk => by
  obtain ⟨⟨fd, ps, F, b, l⟩, kp⟩ := F
  rw [← hK, ← hmg] at F
  rw [← hK] at b kp
  refine ⟨fun pins s σ H Q I ⟨W, env, G, e, A, h⟩ => ?_⟩
  subst e
  refine PySem.W.methodCall_KW (pl := pl) (thn ((ho Wish tk).run pins s σ _ _ I ⟨W, env, G, rfl, A, (PoX.bindE (q := false) h.fls).mono fun v H1 q => q⟩) fun u s1 ⟨v, H1, I1, ru, W1, x, G1, e1, ee, A1, z1, h1⟩ => ?_) ht
  subst e1
  split at h1
  case h_2 => exact h1.elim
  rename_i i
  split at h1
  case h_2 => exact h1.elim
  rename_i C' fs eg
  split at h1
  case isFalse => exact h1.elim
  rename_i eC
  subst eC
  obtain ⟨a', dx, fv, rfl, q3, c, ln⟩ := meth_at A1 z1 eg hm
  obtain rfl : u = Value.ref a' := ru
  rw [← hK] at c hm
  refine getmeth_ok I1 q3 c hm ln ?_
  refine PySem.W.callWith_K (first := [.ref a']) (h₀ := X.base) I.ok.mod.kin hm.kp (thn ((ha Wish tk).run pos pins s1 σ _ _ I1 ⟨W1, env, G1, rfl, A1, (PoX.bindE (q := false) h1.fls).mono fun v H1 q => q⟩) fun us s2 ⟨vs, H2, I2, r, W2, xs, G2, e2, ee2, A2, z2, h2⟩ => ⟨I2.kIn, ?_⟩) hst hpl
  subst e2
  split at h2
  · exact run_fnS (us := .ref a' :: us) (vs := .ref a' :: vs) (E := WE Wish) F hr b (passAt tk σ) I2 (.cons rfl r)
      (sp_of hlk hp A2 (xs := .ref i :: xs) ⟨_, _, rfl, (z1.ext (m := .s) ee2 (.inr (by simp))).strict, z2.strict⟩ ‹_› h2)
  · exact h2.elim
theorem sx_meth0 {pl : Sem Bool} (C : Nat) (hm : Meth kt.K (kt.cls C) m f) (F : DFn X.prog X.w X.base kt k f n Φ) (hr : Room k X.A) (hlk : B.lk = false) (hp : B.p = false) (ho : SX kt B X pa .s a da) (hK : X.K = kt.K := by rfl) (hmg : X.mg = kt.mg := by rfl)
    (ht : eval (.Call (.Attribute a m apos) [] [] pos) X.env = (do
      let ov ← eval a X.env
      standAt apos.atName
      let (f, first) ← holding [ov] (getMethod ov m pl)
      callWith pos f first (backTo pos (starEach [] X.env)) (backToKw pos (keywordEach [] X.env))) := by rfl) :
    SX kt B X false .s (.Call (.Attribute a m apos) [] [] pos) (dMeth C n Φ da daNil) := fun Wish tk => by
  obtain ⟨⟨fd, ps, F, b, l⟩, kp⟩ := F
  rw [← hK, ← hmg] at F
  rw [← hK] at b kp
  refine ⟨fun pins s σ H Q I ⟨W, env, G, e, A, h⟩ => ?_⟩
  subst e
  refine PySem.W.methodCall_KW (pl := pl) (thn ((ho Wish tk).run pins s σ _ _ I ⟨W, env, G, rfl, A, (PoX.bindE (q := false) h.fls).mono fun v H1 q => q⟩) fun u s1 ⟨v, H1, I1, ru, W1, x, G1, e1, ee, A1, z1, h1⟩ => ?_) ht
  subst e1
  split at h1
  case h_2 => exact h1.elim
  rename_i i
  split at h1
  case h_2 => exact h1.elim
  rename_i C' fs eg
  split at h1
  case isFalse => exact h1.elim
  rename_i eC
  subst eC
  obtain ⟨a', dx, fv, rfl, q3, c, ln⟩ := meth_at A1 z1 eg hm
  obtain rfl : u = Value.ref a' := ru
  rw [← hK] at c hm
  have h1 : PoX kt B false σ env W1 Wish (fun W x v => Pk kt.K W .s x v) (if ([] : List Vl).length + 1 = n then Φ [.ref i] G1 else .bad) Q := h1
  split at h1
  · refine getmeth_ok I1 q3 c hm ln ?_
    exact PySem.W.callWith_K0 (first := [.ref a']) I1.kIn hm.kp (run_fnS (us := [.ref a']) (vs := [.ref a']) (E := WE Wish) F hr b (passAt tk σ) I1 (.cons rfl .nil)
      (sp_of hlk hp A1 (xs := [.ref i]) ⟨_, _, rfl, z1.strict, rfl⟩ ‹_› h1))
  · exact h1.elim
/-! ### new objects -/
def Wd.mk1 (W : Wd) (x dx C : Addr) (n : Nat) : Wd := ⟨fun a => if a = x then .obj n else W.Γ a, W.ρ ++ [x], upd (upd W.H dx (.own x)) x (.ins C dx [])⟩
theorem RAll.mk1 {W : Wd} {σ : L2.St} {env : LEnv} {G : Gst} {y dx : Addr} {C : Nat} (A : RAll kt B W σ env G) (hy : W.H y = none) (hd : W.H dx = none) (hne : dx ≠ y) (c : Cls kt.K (kt.cls C)) :
    Ext true W (W.mk1 y dx (kt.cls C) G.length) ∧ RAll kt B (W.mk1 y dx (kt.cls C) G.length) σ env (G ++ [.ins C []]) := by
  have e : Ext true W (W.mk1 y dx (kt.cls C) G.length) := by
    have nb : ∀ b, W.H b ≠ none → (upd (upd W.H dx (.own y)) y (.ins (kt.cls C) dx [])) b = W.H b := fun b hb => by
      rw [upd_ne (fun z => hb (by rw [z]; exact hy)), upd_ne (fun z => hb (by rw [z]; exact hd))]
    exact ⟨fun b hb => if_neg fun z => hb (by rw [z]; exact hy), fun b o hb _ _ => (nb b (by rw [hb]; simp)).trans hb, fun b xs hb => (nb b (by rw [hb]; simp)).trans hb, fun b o u hb => (nb b (by rw [hb]; simp)).trans hb, fun b hb => by
      show (upd (upd W.H dx (.own y)) y (.ins (kt.cls C) dx [])) b ≠ none
      rw [nb b hb]; exact hb, [y], rfl⟩
  have hy2 : (W.mk1 y dx (kt.cls C) G.length).H y = some (.ins (kt.cls C) dx []) := upd_same
  refine ⟨e, ⟨fun b hb => ?_, ⟨?_, fun i o hi => ?_⟩, ?_, fun b ps q => ?_⟩, A.re.ext e, (A.si.trans e).mono fun z => by rw [z]; rfl, fun z b u o q => ?_⟩
  · show (upd (upd W.H dx (.own y)) y (.ins (kt.cls C) dx [])) b ≠ none
    by_cases k : b = y
    · rw [k, upd_same]; simp
    · rw [upd_ne k]
      by_cases k2 : b = dx
      · rw [k2, upd_same]; simp
      · rw [upd_ne k2]
        refine A.ok.tr b fun w => hb ?_
        show (if b = y then _ else W.Γ b) = _
        rw [if_neg k]; exact w
  · simp [Wd.mk1, A.ok.rg.len]
  · by_cases hl : i < G.length
    · rw [List.getElem?_append_left hl] at hi
      obtain ⟨b, h1, h2, h3⟩ := A.ok.rg.ob i o hi
      have hbn : W.H b ≠ none := by
        cases o with
        | lst xs => obtain ⟨vs, q, _⟩ := h3; rw [q]; simp
        | dct lk t kvs => obtain ⟨u, _, q⟩ := h3; exact q.some
        | ins C fs => obtain ⟨dx, fv, q, _⟩ := h3; rw [q]; simp
      refine ⟨b, e.toR.ref h1, (e.role b hbn).trans h2, ?_⟩
      cases o with
      | lst xs =>
        obtain ⟨vs, q, z⟩ := h3
        exact ⟨vs, e.keep b _ q (fun _ z => nomatch z) (.inl rfl), Reps.ext e _ _ z⟩
      | dct lk t kvs =>
        obtain ⟨u, q, z⟩ := h3
        exact ⟨u, q.ext e, z.keep e.toR rfl q.plain⟩
      | ins C fs =>
        obtain ⟨dx, fv, q, z, k⟩ := h3
        exact ⟨dx, fv, e.keep b _ q (fun _ z => nomatch z) (.inl rfl), FldsRep.extR e.toR rfl rfl (fun _ => rfl) _ _ z, k⟩
    · have hil : i = G.length := by
        have := (List.getElem?_eq_some_iff.mp hi).1
        rw [List.length_append, List.length_singleton] at this
        omega
      subst hil
      rw [List.getElem?_append_right (Nat.le_refl _)] at hi
      simp only [Nat.sub_self, List.getElem?_cons_zero, Option.some.injEq] at hi
      subst hi
      refine ⟨y, ?_, if_pos rfl, dx, [], hy2, rfl, c, fun f nm hf => nomatch hf⟩
      show (W.ρ ++ [y])[G.length]? = some y
      rw [← A.ok.rg.len, List.getElem?_append_right (Nat.le_refl _)]; simp
  · exact tabsN_upd (tabsN_upd A.ok.tabs hd) ((upd_ne (Ne.symm hne)).trans hy)
  · have q : (upd (upd W.H dx (.own y)) y (.ins (kt.cls C) dx [])) b = some (.tbl ps) := q
    by_cases k : b = y
    · rw [k, upd_same] at q; cases q
    · rw [upd_ne k] at q
      by_cases k2 : b = dx
      · rw [k2, upd_same] at q; cases q
      · rw [upd_ne k2] at q; exact A.ok.tb b ps q
  · have q : (upd (upd W.H dx (.own y)) y (.ins (kt.cls C) dx [])) b = some (.frz u o) := q
    by_cases k : b = y
    · rw [k, upd_same] at q; cases q
    · rw [upd_ne k] at q
      by_cases k2 : b = dx
      · rw [k2, upd_same] at q; cases q
      · rw [upd_ne k2] at q
        have g : (W.mk1 y dx (kt.cls C) G.length).Γ b = W.Γ b := if_neg k
        rw [g]
        exact A.nl z b u o q
theorem run_makeS {pins : List (Addr × Obj)} {σ : L2.St} {H : Hp} {s : Shared} {Q : VK} {us : List Value} {vs : List V} {C : Addr} {fd : FuncData} {ps : List Str} {sp : Sp} {E : XK} (M : Mk X.K C f) (F : FnOk X.prog X.w X.K X.mg X.base (L2.CX X.prog X.w) k f fd ps sp) (hr : Room (k + 1) X.A) (hb : Binds X.K fd ps [])
    (hx : ∀ (H : Hp) (s : Shared) (e : Value) (s' : Shared), Inv X pins σ H s → L2.CX X.prog X.w X.stack H s E e s' → X.xe e s') (I : Inv X pins σ H s) (r : Vals vs us)
    (h : ∀ x dx, H x = none → H dx = none → dx ≠ x → sp (.ref x :: vs) (upd (upd H dx (.own x)) x (.ins C dx [])) (fun v H2 => v = .non ∧ Q (.ref x) H2) E) :
    wpAny (model X.prog X.w) X.A (call (.ref C) us) (EP X pins σ Q) X.xe s := by
  have hq := h (s.heap.objs.size + 1) s.heap.objs.size (I.hok.fresh (Nat.le_succ _)) (I.hok.fresh (Nat.le_refl _)) (Nat.ne_of_lt (Nat.lt_succ_self _))
  have I2 := Inv.made (C := C) I
  have r2 : Vals (V.ref (s.heap.objs.size + 1) :: vs) (Value.ref (s.heap.objs.size + 1) :: us) := .cons rfl r
  have hl : (Value.ref (s.heap.objs.size + 1) :: us).length = ps.length := by
    have e := r2.length
    rw [F.len _ _ _ _ hq] at e
    exact e.symm
  have b := hb _ (Value.ref (s.heap.objs.size + 1) :: us) I2.kIn (by rw [List.append_nil]; exact hl)
  rw [List.append_nil] at b
  refine wpAny_call (make_map (f := f) I.kIn M.makes M.init (beq_iff_eq.mp M.fn) (codeAny_mono (F.run _ X.stack _ _ ⟨Value.ref (s.heap.objs.size + 1) :: us, []⟩ (Value.ref (s.heap.objs.size + 1) :: us) _ _ E (hr.make C us [])
    (I2.env0.make C us []) b r2 hq) fun r s' hq' => ?_))
  cases r with
  | error e => exact hx _ _ e s' I2 hq'
  | ok fl =>
    cases fl with
    | ret u =>
      obtain ⟨v, H', I3, rv, ev, q3⟩ := I2.after hq'
      subst ev
      exact ⟨rv, ⟨V.ref (s.heap.objs.size + 1), H', I3, rfl, q3⟩⟩
    | next => exact False.elim hq'
    | brk => exact False.elim hq'
    | cont => exact False.elim hq'
/-- the promise of an __init__ at a making -/
theorem mk_of' {W : Wd} {σ : L2.St} {env : LEnv} {G : Gst} {Wish : WX} {C : Nat} {xs : List Vl} {vs : List V} {Q : VK} (hlk : B.lk = false) (hp : B.p = false) (c : Cls kt.K (kt.cls C)) (A : RAll kt B W σ env G) (r : Reps kt.K W xs vs) (hl : xs.length + 1 = n)
    (h : PoX kt B false σ env W Wish (fun W x v => Pk kt.K W .s x v) ((Φ (.ref G.length :: xs) (G ++ [.ins C []])).bind fun r G2 => match r with
    | .non => .ok (.ref G.length) G2
    | _ => .bad) Q) : ∀ x dx, W.H x = none → W.H dx = none → dx ≠ x → spD kt n Φ (.ref x :: vs) (upd (upd W.H dx (.own x)) x (.ins (kt.cls C) dx [])) (fun v H2 => v = .non ∧ Q (.ref x) H2) (fun cls d H => Wish cls d σ H) := by
  intro x dx hx hd hne
  obtain ⟨e1, A1⟩ := A.mk1 (C := C) hx hd hne c
  have rx : (W.mk1 x dx (kt.cls C) G.length).ρ[G.length]? = some x := by
    show (W.ρ ++ [x])[G.length]? = some x
    rw [← A.ok.rg.len, List.getElem?_append_right (Nat.le_refl _)]; simp
  refine sp_of hlk hp (Wish := Wish) (Q := fun v H2 => v = .non ∧ Q (.ref x) H2) A1 (xs := .ref G.length :: xs) ⟨_, _, rfl, ⟨x, rfl, rx⟩, Reps.ext e1 _ _ r⟩ hl ?_
  refine ((PoX.shift (p := true) (q := false) (show PoX kt B (true && false) _ _ _ _ _ _ _ from h) e1).bindL).mono ?_
  rintro v H1 ⟨W1, y, G1, rfl, e2, A2, z, h1⟩
  cases y with
  | non => exact ⟨z.non, h1 W1 (.ref x) Ext.refl A2 (.inl ⟨x, rfl, e2.toR.ref rx⟩)⟩
  | _ => exact h1.elim
theorem sx_make (C : Nat) (M : Mk kt.K (kt.cls C) f) (c : Cls kt.K (kt.cls C)) (F : DFn X.prog X.w X.base kt k f n Φ) (hr : Room (k + 1) X.A) (hf : kt.mg x = some (.ref (kt.cls C))) (hlk : B.lk = false) (hp : B.p = false) (ha : SAm kt B X p .s (e :: es) ds) (hg : Gl X x := by rfl) (hK : X.K = kt.K := by rfl) (hmg : X.mg = kt.mg := by rfl)
    (hdb : (x == ("__debug__" : Str)) = false := by decide) (he : starEach (e :: es) X.env = (false, eval e X.env) :: starEach es X.env := by rfl) (hpl : (backTo pos (starEach es X.env)).any (·.1) = false := by rfl) :
    SX kt B X false .s (.Call (.Name x np) (e :: es) [] pos) (dMake C n Φ ds) := fun Wish tk => by
  obtain ⟨⟨fd, ps, F, b, l⟩, kp⟩ := F
  rw [← hK, ← hmg] at F
  rw [← hK] at b kp M
  rw [← hmg] at hf
  refine ⟨fun pins s σ H Q I ⟨W, env, G, e, A, h⟩ => ?_⟩
  subst e
  refine wpAny_Call_Name_kw (ld_glob I hg hf ?_ hdb)
  refine PySem.W.callWith_K (h₀ := X.base) I.ok.mod.kin M.kp (thn ((ha Wish tk).run pos pins s σ _ _ I ⟨W, env, G, rfl, A, (PoX.bindE (q := false) h.fls).mono fun v H1 q => q⟩) fun us s1 ⟨vs, H1, I1, r, W1, xs, G1, e1, ee, A1, z1, h1⟩ => ⟨I1.kIn, ?_⟩) he hpl
  subst e1
  split at h1
  · exact run_makeS M F hr b (fun H s e s' => passAt tk σ pins H s e s') I1 r (mk_of' hlk hp c A1 z1.strict ‹_› h1)
  · exact h1.elim
theorem sx_make0 (C : Nat) (M : Mk kt.K (kt.cls C) f) (c : Cls kt.K (kt.cls C)) (F : DFn X.prog X.w X.base kt k f n Φ) (hr : Room (k + 1) X.A) (hf : kt.mg x = some (.ref (kt.cls C))) (hlk : B.lk = false) (hp : B.p = false) (hg : Gl X x := by rfl) (hK : X.K = kt.K := by rfl) (hmg : X.mg = kt.mg := by rfl)
    (hdb : (x == ("__debug__" : Str)) = false := by decide) : SX kt B X false .s (.Call (.Name x np) [] [] pos) (dMake C n Φ daNil) := fun Wish tk => by
  obtain ⟨⟨fd, ps, F, b, l⟩, kp⟩ := F
  rw [← hK, ← hmg] at F
  rw [← hK] at b kp M
  rw [← hmg] at hf
  refine ⟨fun pins s σ H Q I ⟨W, env, G, e, A, h⟩ => ?_⟩
  subst e
  refine wpAny_Call_Name_kw (ld_glob I hg hf ?_ hdb)
  have h : PoX kt B false σ env W Wish (fun W x v => Pk kt.K W .s x v) (if ([] : List Vl).length + 1 = n then (Φ (.ref G.length :: []) (G ++ [.ins C []])).bind (fun r G2 => match r with
    | .non => .ok (.ref G.length) G2
    | _ => .bad) else .bad) Q := h
  split at h
  · exact PySem.W.callWith_K0 I.kIn M.kp (run_makeS M F hr b (fun H s e s' => passAt tk σ pins H s e s') I .nil (mk_of' hlk hp c A (xs := []) rfl ‹_› h))
  · exact h.elim
end
end CardH
end
section
set_option maxHeartbeats 2000000
namespace CardH
open PySem PySem.Spec PyProof.Rows L2 LamX

/-! ### lambdas that are told -/
/-- nothing but code objects comes, nothing but the tables grows -/
structure Grown (T : List (Addr × Str)) (H H1 : Hp) : Prop where
  ext : ExtN H H1
  tabs : Tabs T H1
  there : ∀ b, H b ≠ none → H1 b ≠ none
  tb : ∀ b ps, H b = some (.tbl ps) → ∃ ps', H1 b = some (.tbl ps')
section
variable {X : Cx} {pins : List (Addr × Obj)} {σ : L2.St} {H : Hp} {s : Shared}
theorem lam_new {T : List (Addr × Str)} {c P : Addr} {params : Arguments} {body : Expr} {scope : Scope} {pos : Pos} {E : Value → Shared → Prop} {Q : Value → Shared → Prop} (I : Inv X pins σ H s) (TB : TabB X.base X.mg c P) (hcode : X.env.code = .ref c)
    (hm : (P, X.env.qual ++ "<lambda>") ∈ T) (hu : ∀ p ∈ T, p.1 = P → p.2 = X.env.qual ++ "<lambda>") (hT : Tabs T H) (hdef : defaultsOf params X.env = ([], [])) (hfree : ∀ y ∈ scope.names, y.2 = .free → ∃ c, X.env.cells.lookup y.1 = some c)
    (k : ∀ (f c' : Addr) (pm ctv : Value) (H1 : Hp) (s' : Shared), Inv X pins σ H1 s' → Grown T H H1 → s'.heap.get? f = some (PySem.W.kla_obj "<lambda>" (X.env.qual ++ "<lambda>") params body scope (cloFrom X.env.cells scope.names []) pm c' ctv) →
      H1 f = none → f ∉ frs X.stack → H1 c' = some (CodeO c' (X.env.qual ++ "<lambda>")) → Q (.ref f) s') : wpAny (model X.prog X.w) X.A (eval (.Lambda params body scope pos) X.env) Q E s := by
  obtain ⟨ps, atP, trip, among⟩ := hT _ hm
  have bP := TB.bm.keeps I.bk
  have get : s.heap.get? P = some { cls := .none, data := .fields ps } := I.hok P _ atP
  have nofr : ∀ f, s.heap.objs.size ≤ f → f ∉ frs X.stack := by
    intro f hf z
    rcases List.mem_cons.mp (I.stkSub _ z) with e | e
    · subst e; exact absurd (Nat.lt_of_lt_of_le I.lt hf) (Nat.lt_irrefl _)
    · exact I.nofs hf e
  refine PySem.W.kla_eval hdef ?_
  rcases e : codeAmong pos ps.toList with _ | cv
  · refine PySem.W.kla_makeFunction (mg := X.mg) (c := c) (P := P) (ps := ps) (closure_ok hfree) I.ok.glob (I.mod.glob.keeps I.bk) hcode (TB.code.keeps I.bk) get trip e TB.gP bP ?_
    intro c' ctv h' tk hx hge hlt ⟨c2, oc, vs, t, e2, hoc, hd, hv⟩ htb
    cases e2
    have new : H c' = none := I.hok.fresh hge
    have fsz := Nat.le_trans hge (Nat.le_of_lt hlt)
    have nf1 : h'.objs.size ≠ c' := Nat.ne_of_gt hlt
    have nf2 : h'.objs.size ≠ P := Nat.ne_of_gt (Nat.lt_of_lt_of_le (Heap.lt_size get) fsz)
    have nPc : P ≠ c' := ne_of_none atP new
    have J := inv_table (t' := tk) (more := #[rawInt pos.line, rawInt pos.col, .ref c']) (h' := h'.push (PySem.W.kla_obj "<lambda>" (X.env.qual ++ "<lambda>") params body scope (cloFrom X.env.cells scope.names []) ((X.mg "__name__").getD .none) c' ctv)) I atP
      (fun b o hb q => Heap.get?_push_of_some _ (hx b o hb q)) (Heap.get?_push_of_some _ htb) hge ⟨oc, vs, t, Heap.get?_push_of_some _ hoc, hd, hv⟩
    generalize hG : upd (upd H P (.tbl (ps ++ #[rawInt pos.line, rawInt pos.col, .ref c']))) c' (CodeO c' (X.env.qual ++ "<lambda>")) = H1 at J
    have at1 : H1 c' = some (CodeO c' (X.env.qual ++ "<lambda>")) := by rw [← hG]; exact upd_same
    have at2 : H1 P = some (.tbl (ps ++ #[rawInt pos.line, rawInt pos.col, .ref c'])) := by rw [← hG, upd_ne nPc]; exact upd_same
    have at3 : ∀ b, b ≠ c' → b ≠ P → H1 b = H b := fun b n1 n2 => by rw [← hG, upd_ne n1, upd_ne n2]
    have ex : ExtN H H1 := by
      intro b o q n
      have n2 : b ≠ P := by rintro rfl; rw [atP] at q; exact n ps (Option.some.inj q).symm
      rw [at3 b (ne_of_none q new) n2]; exact q
    refine k h'.objs.size c' ((X.mg "__name__").getD .none) ctv H1 _ J ⟨ex, ?_, fun b hb => ?_, fun b qs q => ?_⟩ (Heap.get?_push_size _ rfl) ?_ (nofr _ fsz) at1
    · intro p hp
      by_cases hb : p.1 = P
      · rw [hu p hp hb, hb]
        refine ⟨_, at2, ?_, fun p' cv hcv => ?_⟩
        · rw [Array.toList_append]; exact PySem.TriplesOk_snoc _ _ _ _ trip
        · rw [Array.toList_append] at hcv
          rcases among_app _ trip hcv with z | z
          · obtain ⟨c0, q1, q2⟩ := among p' cv z
            exact ⟨c0, q1, ex _ _ q2 codeO_ne⟩
          · exact ⟨c', z, at1⟩
      · obtain ⟨qs, a1, a2, a3⟩ := hT p hp
        refine ⟨qs, by rw [at3 _ (ne_of_none a1 new) hb]; exact a1, a2, fun p' cv hcv => ?_⟩
        obtain ⟨c0, q1, q2⟩ := a3 p' cv hcv
        exact ⟨c0, q1, ex _ _ q2 codeO_ne⟩
    · by_cases z : b = P
      · subst z; rw [at2]; simp
      · by_cases z' : b = c'
        · subst z'; exact absurd new hb
        · rw [at3 b z' z]; exact hb
    · by_cases z : b = P
      · subst z; exact ⟨_, at2⟩
      · exact ⟨qs, by rw [at3 b (ne_of_none q new) z]; exact q⟩
    · rw [at3 _ nf1 nf2]; exact I.hok.fresh fsz
  · obtain ⟨c', ec, hco⟩ := among pos cv e
    subst ec
    refine PySem.W.kla_makeFunctionHit (mg := X.mg) (c := c) (P := P) (ps := ps) (closure_ok hfree) I.ok.glob (I.mod.glob.keeps I.bk) hcode (TB.code.keeps I.bk) get trip e bP ?_
    intro ctv h' tk hx hsz
    have J : Inv X pins σ H { s with heap := h'.push (PySem.W.kla_obj "<lambda>" (X.env.qual ++ "<lambda>") params body scope (cloFrom X.env.cells scope.names []) ((X.mg "__name__").getD .none) c' ctv), toks := tk } := I.kept fun b o q => Heap.get?_push_of_some _ (hx b o q)
    exact k h'.objs.size c' ((X.mg "__name__").getD .none) ctv H _ J ⟨ExtN.refl H, hT, fun _ h => h, fun b qs q => ⟨qs, q⟩⟩ (Heap.get?_push_size _ rfl) (I.hok.fresh hsz) (nofr _ hsz) hco
end
/-- the tables, each of one name -/
def tabsOf (Tl : List (Addr × Str)) : List NdefX.NTab := Tl.map fun p => (p.1, fun _ _ => p.2)
theorem tabs_to {Tl : List (Addr × Str)} {H : Hp} (h : NdefX.TabsN (tabsOf Tl) H) : Tabs Tl H := fun p hp => NdefX.TabN.to (h (p.1, fun _ _ => p.2) (List.mem_map.mpr ⟨p, hp, rfl⟩))
theorem tabs_back {Tl : List (Addr × Str)} {H : Hp} (h : Tabs Tl H) : NdefX.TabsN (tabsOf Tl) H := fun q hq => by
  obtain ⟨p, hp, rfl⟩ := List.mem_map.mp hq
  exact NdefX.TabN.of (h p hp)
theorem RAll.grown {kt : Kt} {B : Bs} {W : Wd} {σ : L2.St} {env : LEnv} {G : Gst} {Tl : List (Addr × Str)} {H1 : Hp} (hT : kt.T = tabsOf Tl) (A : RAll kt B W σ env G) (g : Grown Tl W.H H1) : Ext true W ⟨W.Γ, W.ρ, H1⟩ ∧ RAll kt B ⟨W.Γ, W.ρ, H1⟩ σ env G := by
  have e : Ext true W ⟨W.Γ, W.ρ, H1⟩ := ⟨fun _ _ => rfl, fun a o h nt _ => g.ext a o h nt, fun a xs h => g.ext a _ h (fun _ z => nomatch z), fun a o u h => g.ext a _ h (fun _ z => nomatch z), fun a h => g.there a h, [], by simp⟩
  refine ⟨e, ⟨fun a ha => g.there a (A.ok.tr a ha), A.ok.rg.ext e rfl, by rw [hT]; exact tabs_back g.tabs, fun b ps q => ?_⟩, A.re.ext e, (A.si.trans e).mono fun z => by rw [z]; rfl, fun z a o u q => ?_⟩
  · trivial
  · have q : H1 a = some (.frz o u) := q
    show (W.Γ a).lockable = true
    cases hW : W.H a with
    | none =>
      have : W.Γ a = .no := by
        cases hg : W.Γ a with
        | no => rfl
        | _ => exact absurd hW (A.ok.tr a (by rw [hg]; simp))
      rw [this]; rfl
    | some w =>
      by_cases hw : ∃ ps, w = .tbl ps
      · obtain ⟨ps, rfl⟩ := hw
        obtain ⟨ps2, q2⟩ := g.tb a ps hW
        rw [q] at q2; cases q2
      · have := g.ext a w hW fun ps z => hw ⟨ps, z⟩
        rw [q] at this; cases this
        exact A.nl z a o u hW
/-- what the clauses make of an exception of the class cls -/
def toldAt (K : PySem.W.Frag) (cls : Value) : List (Addr × Str) → Option Str
  | [] => none
  | (C, r) :: l => match PySem.W.exmOne K cls (.ref C) with
    | some true => some r
    | some false => toldAt K cls l
    | none => none
abbrev hdsL (l : List (Addr × Str)) : List (Value × (Addr → Value → Option Addr → TS)) := l.map fun p => (Value.ref p.1, fun _ _ _ => tRet (tC (V.str p.2)))
theorem wMany_told {K : PySem.W.Frag} {Wout : WX} {D : Ends} {cls : Value} {d : Option Addr} {σ : L2.St} {H : Hp} {r : Str} : ∀ {l : List (Addr × Str)}, toldAt K cls l = some r → D.rt (.str r) H → wMany K Wout D (hdsL l) cls d σ H
  | [], h, _ => by cases h
  | (C, r') :: l, h, q => by
    have h : (match PySem.W.exmOne K cls (.ref C) with | some true => some r' | some false => toldAt K cls l | none => none) = some r := h
    cases e : PySem.W.exmOne K cls (.ref C) with
    | none => rw [e] at h; cases h
    | some b =>
      rw [e] at h
      refine ⟨b, e, fun z a _ => ?_, fun z => ?_⟩
      · subst z
        cases h
        exact q
      · subst z
        exact wMany_told h q
/-- told(lambda: ..) -/
def dTold (tf : Ex → Option Str) (d : DE) : DE := fun env G => match d env G with
  | .ok v G1 => .ok v G1
  | .exn c G1 => match tf c with
    | some r => .ok (.str r) G1
    | none => .bad
  | .bad => .bad
/-- the def that tells: try: return a(); its clauses each return a text -/
structure ToldD (kt : Kt) (x a : Str) (g : Addr) (Ng : List Str) (sg : Scope) (body : List Stmt) (l : List (Addr × Str)) : Prop where
  ex : ∃ (oc : Value) (od : Option Addr) (pg : Arguments) (dV kV doc pm : Value) (an : Option Addr) (cdv ct : Value) (osl : Array (Option Value)), kt.K.lookup g = some ⟨oc, od, .func (PySem.W.fnOf x x pg body sg dV kV doc pm an cdv ct), osl⟩ ∧ PySem.W.codeIn kt.K cdv x = true ∧
    L2.Binds kt.K (PySem.W.fnOf x x pg body sg dV kV doc pm an cdv ct) [a] []
  kp : PySem.W.keepIn kt.K (.ref g) = true
  gl : kt.mg x = some (.ref g)
  sc : FnScope Ng [a] sg
  n0 : Ng[0]? = some a
  vis : Vis sg a
section
variable {kt : Kt} {B : Bs} {X : Cx} {p : Bool} {d : DE}
theorem sx_told {Tl : List (Addr × Str)} {x a : Str} {g c P : Addr} {k : Nat} {sg : Scope} {Ng : List Str} {params : Arguments} {body : Expr} {scope : Scope} {np lpos pos p1 p2 p3 p8 : Pos} {h₀ : ExceptHandler} {hds : List ExceptHandler} {l : List (Addr × Str)} {tf : Ex → Option Str}
    (hT : kt.T = tabsOf Tl) (D : ToldD kt x a g Ng sg [.Try [.Return (some (.Call (.Name a p1) [] [] p2)) p3] (h₀ :: hds) [] [] p8] l)
    (hH : ∀ (cdv : Value) (s : Shared) (H : Hp), HdsOk (cxOf C8.CX0 X.prog X.w X.K X.mg X.base Ng x sg g cdv X.A X.stack s H C8.E0).nox (h₀ :: hds) (hdsL l)) (htf : ∀ c r, tf c = some r → toldAt kt.K (kt.exc c.cls) l = some r ∧ okStr r = true)
    (TB : TabB X.base X.mg c P) (hcode : X.env.code = .ref c) (hmT : (P, X.env.qual ++ "<lambda>") ∈ Tl) (hu : ∀ p ∈ Tl, p.1 = P → p.2 = X.env.qual ++ "<lambda>") (hr : Room (k + 2) X.A) (L : lamSB X.env.scope scope = true)
    (hbody : ∀ (A : Around) (outer : List Env) (s : Shared) (H : Hp) (E : XK) (f c' : Addr), Room k (A.deeper (lamEnv X scope s.heap.objs.size f c')) → SX kt B (lamCx X A outer s H E scope f c') p .s body d)
    (hg : Gl X x := by rfl) (hdef : defaultsOf params X.env = ([], []) := by rfl) (hbind : ∀ (q : Str) (cl : List (Str × Addr)) (pm cv ctv : Value), bindArgs (PySem.W.kla_fn "<lambda>" q params body scope cl pm cv ctv) ⟨[], []⟩ = pure [] := by intros; rfl)
    (hK : X.K = kt.K := by rfl) (hmg : X.mg = kt.mg := by rfl) (hdb : (x == ("__debug__" : Str)) = false := by decide) (hd : (a == ("__debug__" : Str)) = false := by decide) (hcd : (a == ("__classdict__" : Str)) = false := by decide) :
    SX kt B X p .s (.Call (.Name x np) [.Lambda params body scope lpos] [] pos) (dTold tf d) := fun Wish tk => by
  obtain ⟨⟨oc, od, pg, dV, kV, doc, pm, an, cdv, ct, osl, lk, hcg, hb⟩, kp, gl, Sg, hNg, hva⟩ := D
  rw [← hK] at lk hcg hb kp
  rw [← hmg] at gl
  refine ⟨fun pins s σ H Q I ⟨W, env, G, e, A, h⟩ => ?_⟩
  subst e
  have LS := lamS_by L
  refine wpAny_Call_Name_kw (ld_glob I hg gl ?_ hdb)
  refine PySem.W.callWith_K (h₀ := X.base) I.ok.mod.kin kp ?_ (by rfl) (by rfl)
  show wpAny _ _ (spliced ((false, eval (.Lambda params body scope lpos) X.env) :: backTo pos (starEach [] X.env))) _ _ s
  refine Calls.spliced_cons (lam_new I TB hcode hmT hu (tabs_to (by rw [← hT]; exact A.ok.tabs)) hdef (LS.has I.ok) fun f c' pm' ctv H1 s' I1 gr hf hfn hfr hco => Calls.spliced_nil ⟨I1.kIn, ?_⟩)
  obtain ⟨e1, A1⟩ := A.grown hT gr
  have h1 := PoX.shift (p := true) (q := p) (show PoX kt B (true && p) _ _ _ _ _ _ _ from by rw [Bool.true_and]; exact h) e1
  have rc : codeAny (model X.prog X.w) X.A (.call (.ref g) ⟨[.ref f], []⟩) (CR C8.CX0 X.stack X.prog X.w H1 s' Q C8.E0) s' := by
    refine run_ofS (N := Ng) (ps := [a]) (us := [.ref f]) (vs := [.ref f]) lk hcg Sg hr I1.env0 (hb s' [.ref f] I1.kIn rfl) (.cons rfl .nil) rfl fun hr' => ?_
    have X0 := ps_try_many (X := (cxOf C8.CX0 X.prog X.w X.K X.mg X.base Ng x sg g cdv X.A X.stack s' H1 C8.E0).nox) (pos := p8) (body := [.Return (some (.Call (.Name a p1) [] [] p2)) p3])
      (tb := fun Wi D σZ HZ => ∃ Ech : XK, (∀ cls d σ' H', Ech cls d H' → Wi cls d σ' H') ∧ σZ[0]? = some (some (.ref f)) ∧ HZ c' = some (CodeO c' (X.env.qual ++ "<lambda>")) ∧ rdX kt B p (fun cls d _ H => Ech cls d H) (fun W x v => Pk kt.K W .s x v) d σ HZ D.rt)
      rfl rfl LamX.takes0 (fun Wi pn xe tkW _ => ?_) (hH cdv s' H1)
    · refine ⟨_, (pss_one X0).nox, ?_⟩
      refine ⟨fun cls _ H' => ∃ r, toldAt X.K cls l = some r ∧ Q (.str r) H', fun cls d σ' H' ⟨r, q1, q2⟩ => wMany_told q1 q2, ?_, hco, ⟨W.Γ, W.ρ, H1⟩, env, G, rfl, A1, ?_⟩
      · have hpl : ([a] : List Str).length ≤ Ng.length := by
          have := congrArg List.length Sg.pre
          rw [List.length_take] at this; omega
        cases Ng with
        | nil => simp at hNg
        | cons y r => rfl
      · unfold dTold at h1
        cases q : d env G with
        | bad => rw [q] at h1; exact h1
        | ok v G1 => rw [q] at h1; exact h1
        | exn c1 G1 =>
          rw [q] at h1
          dsimp only at h1
          intro W' od ee A' z
          cases qt : tf c1 with
          | none => rw [qt] at h1; exact h1.elim
          | some r =>
            rw [qt] at h1
            obtain ⟨t1, t2⟩ := htf c1 r qt
            rw [hK]
            exact ⟨r, t1, h1 W' (.str r) ee A' (.inl ⟨rfl, t2⟩)⟩
    · refine ⟨fun pinsZ sZ σZ HZ DZ IZ ⟨Ech, hW, z1, z2, z3⟩ => ?_⟩
      have act := pe_act (CXg := C8.CX0) (Eg := C8.E0) (Ng := Ng) (i := 0) (p1 := p1) (p2 := p2) I1 LS hf hfn hfr (hbind _ _ _ _ _) tkW hW hr' (fun A outer s2 H2 hr2 => hbody A outer s2 H2 Ech f c' hr2 (fun cls d _ H => Ech cls d H) (takes_of rfl rfl rfl rfl)) hNg hva hd hcd
      exact (pss_one (ps_ret (pos := p3) act)).run pinsZ sZ σZ HZ DZ IZ ⟨z1, z2, z3⟩
  refine wpAny_call (codeAny_mono rc fun r s2 hq => ?_)
  rcases r with e | fl
  · exact (show False from hq).elim
  · cases fl with
    | ret u => exact I1.after hq
    | next => exact False.elim hq
    | brk => exact False.elim hq
    | cont => exact False.elim hq
end
end CardH
end
section
set_option maxHeartbeats 2000000
namespace CardH
open PySem PySem.Spec PyProof.Rows L2

/-! ### is None -/
def isNon : Vl → Bool
  | .non => true
  | _ => false
def vIsN : Vl → Vl → Option Vl
  | x, .non => some (.bl (isNon x))
  | _, _ => none
def vNotN : Vl → Vl → Option Vl
  | x, .non => some (.bl (!isNon x))
  | _, _ => none
theorem rep_non {K : PySem.W.Frag} {W : Wd} {x : Vl} {v : V} (h : Pk K W .f x v) : decide (v = .non) = isNon x := by
  cases x with
  | non => obtain rfl := h.non; rfl
  | bl b => obtain rfl := h.bl; rfl
  | int i => obtain rfl := h.int; rfl
  | str z => obtain ⟨rfl, _⟩ := h.str; rfl
  | tup xs => obtain ⟨a, vs, rfl, _⟩ := h.tup; rfl
  | stp xs => obtain ⟨a, vs, rfl, _⟩ := h.stp; rfl
  | ktp xs => obtain ⟨a, vs, rfl, _⟩ := h.ktp; rfl
  | lst xs => obtain ⟨a, vs, rfl, _⟩ := h.lst; rfl
  | dct t kvs =>
    cases t with
    | false => obtain ⟨a, vs, rfl, _⟩ := h.dK; rfl
    | true => obtain ⟨a, vs, rfl, _⟩ := h.dT; rfl
  | ref i => obtain ⟨a, rfl, _⟩ := h.ref; rfl
  | scr ns => obtain ⟨a, rfl, _⟩ := h.scr; rfl
section
variable {kt : Kt} {B : Bs} {X : Cx} {p pa pb : Bool} {m ma mb : Md} {a b e : Expr} {es : List Expr} {da db d : DE} {ds : DA} {pos np : Pos} {x : Str}
theorem ops_isN : OpS kt X (compareOp .Is) vIsN := by
  refine ⟨_, op_isN, fun B σ env G W x y v u z Q A hx hy e q => ?_⟩
  unfold vIsN at e
  split at e
  · cases e
    exact ⟨hy.non, by rw [rep_non hx]; exact q W _ Ext.refl A rfl⟩
  · cases e
theorem ops_notN : OpS kt X (compareOp .IsNot) vNotN := by
  refine ⟨_, op_notN, fun B σ env G W x y v u z Q A hx hy e q => ?_⟩
  unfold vNotN at e
  split at e
  · cases e
    exact ⟨hy.non, by rw [rep_non hx]; exact q W _ Ext.refl A rfl⟩
  · cases e

/-! ### lists of ints -/
def listOf (G : Gst) (x : Vl) : Option (List Vl) := match seqOf G x with
  | some (false, ys) => some ys
  | _ => none
def iList1 (G : Gst) : List Vl → Option (List Int)
  | [x] => (listOf G x).bind intsOf
  | _ => none
theorem iList1_r {W : Wd} {G : Gst} {σ : L2.St} {env : LEnv} {xs : List Vl} {vs : List V} {ns : List Int} (A : RAll kt B W σ env G) (hx : PkS kt.K W .f xs vs) (e : iList1 G xs = some ns) : ∃ a, vs = [.ref a] ∧ SqL kt.K W.H a (ns.map V.int) := by
  unfold iList1 at e
  split at e
  · rename_i x
    obtain ⟨v, rfl, h⟩ := hx.one
    obtain ⟨ys, e1, e2⟩ := Option.bind_eq_some_iff.mp e
    unfold listOf at e1
    split at e1
    · rename_i zs e3
      cases e1
      obtain ⟨a, us, rfl, r, g⟩ := seqOf_r A h e3
      rw [intsOf_eq e2] at r
      rw [ints_reps r] at g
      exact ⟨a, rfl, g⟩
    · cases e1
  · cases e
def oSumI (G : Gst) (xs : List Vl) : Option Vl := (iList1 G xs).map fun ns => .int ns.sum
def maxI : List Int → Option Int
  | [] => none
  | x :: xs => some (xs.foldl max x)
def minI : List Int → Option Int
  | [] => none
  | x :: xs => some (xs.foldl min x)
theorem foldl_max : ∀ (xs : List Int) (x : Int), xs.foldl max x ∈ x :: xs ∧ ∀ y ∈ x :: xs, y ≤ xs.foldl max x
  | [], x => ⟨by simp, fun y hy => by simp at hy; simp [hy]⟩
  | z :: xs, x => by
    obtain ⟨h1, h2⟩ := foldl_max xs (max x z)
    simp only [List.foldl_cons]
    refine ⟨?_, fun y hy => ?_⟩
    · rcases List.mem_cons.mp h1 with e | h
      · rw [e]
        rcases Int.le_total x z with k | k
        · rw [Int.max_eq_right k]; simp
        · rw [Int.max_eq_left k]; simp
      · simp [h]
    · have hm := h2 (max x z) (by simp)
      rcases List.mem_cons.mp hy with e | h
      · subst e; omega
      · rcases List.mem_cons.mp h with e | h
        · subst e; omega
        · exact h2 y (by simp [h])
theorem foldl_min : ∀ (xs : List Int) (x : Int), xs.foldl min x ∈ x :: xs ∧ ∀ y ∈ x :: xs, xs.foldl min x ≤ y
  | [], x => ⟨by simp, fun y hy => by simp at hy; simp [hy]⟩
  | z :: xs, x => by
    obtain ⟨h1, h2⟩ := foldl_min xs (min x z)
    simp only [List.foldl_cons]
    refine ⟨?_, fun y hy => ?_⟩
    · rcases List.mem_cons.mp h1 with e | h
      · rw [e]
        rcases Int.le_total x z with k | k
        · rw [Int.min_eq_left k]; simp
        · rw [Int.min_eq_right k]; simp
      · simp [h]
    · have hm := h2 (min x z) (by simp)
      rcases List.mem_cons.mp hy with e | h
      · subst e; omega
      · rcases List.mem_cons.mp h with e | h
        · subst e; omega
        · exact h2 y (by simp [h])
def oMaxI (G : Gst) (xs : List Vl) : Option Vl := ((iList1 G xs).bind maxI).map .int
def oMinI (G : Gst) (xs : List Vl) : Option Vl := ((iList1 G xs).bind minI).map .int
theorem fn_sumI (hc : X.calm = true) (hK : X.K = kt.K := by rfl) : FnS kt X (.builtin "sum") oSumI := by
  refine ⟨_, cr_sum hc, fun B σ env G W xs vs z Q A hx e q => ?_⟩
  obtain ⟨ns, e1, rfl⟩ := Option.map_eq_some_iff.mp e
  obtain ⟨a, rfl, h⟩ := iList1_r A hx e1
  rw [hK]
  exact ⟨a, ns, rfl, h, q W _ Ext.refl A rfl⟩
theorem fn_maxI (hc : X.calm = true) (hK : X.K = kt.K := by rfl) : FnS kt X (.builtin "max") oMaxI := by
  refine ⟨_, cr_max hc, fun B σ env G W xs vs z Q A hx e q => ?_⟩
  obtain ⟨k, e0, rfl⟩ := Option.map_eq_some_iff.mp e
  obtain ⟨ns, e1, e2⟩ := Option.bind_eq_some_iff.mp e0
  obtain ⟨a, rfl, h⟩ := iList1_r A hx e1
  rw [hK]
  cases ns with
  | nil => cases e2
  | cons n ns =>
    cases e2
    obtain ⟨f1, f2⟩ := foldl_max ns n
    refine ⟨a, n :: ns, rfl, h, by simp, fun m hm hb => ?_⟩
    have : m = ns.foldl max n := Int.le_antisymm (f2 m hm) (hb _ f1)
    subst this
    exact q W _ Ext.refl A rfl
theorem fn_minI (hc : X.calm = true) (hK : X.K = kt.K := by rfl) : FnS kt X (.builtin "min") oMinI := by
  refine ⟨_, cr_min hc, fun B σ env G W xs vs z Q A hx e q => ?_⟩
  obtain ⟨k, e0, rfl⟩ := Option.map_eq_some_iff.mp e
  obtain ⟨ns, e1, e2⟩ := Option.bind_eq_some_iff.mp e0
  obtain ⟨a, rfl, h⟩ := iList1_r A hx e1
  rw [hK]
  cases ns with
  | nil => cases e2
  | cons n ns =>
    cases e2
    obtain ⟨f1, f2⟩ := foldl_min ns n
    refine ⟨a, n :: ns, rfl, h, by simp, fun m hm hb => ?_⟩
    have : m = ns.foldl min n := Int.le_antisymm (hb _ f1) (f2 m hm)
    subst this
    exact q W _ Ext.refl A rfl
/-- sorted ints -/
def insI (x : Int) : List Int → List Int
  | [] => [x]
  | y :: ys => if x ≤ y then x :: y :: ys else y :: insI x ys
def sortI (xs : List Int) : List Int := xs.foldr insI []
theorem insI_perm (x : Int) : ∀ ys : List Int, (insI x ys).Perm (x :: ys)
  | [] => List.Perm.refl _
  | y :: ys => by
    unfold insI
    split
    · exact List.Perm.refl _
    · exact ((insI_perm x ys).cons y).trans (List.Perm.swap x y ys)
theorem insI_sorted (x : Int) : ∀ {ys : List Int}, ys.Pairwise (· ≤ ·) → (insI x ys).Pairwise (· ≤ ·)
  | [], _ => by simp [insI]
  | y :: ys, h => by
    unfold insI
    obtain ⟨h1, h2⟩ := List.pairwise_cons.mp h
    split
    · rename_i hxy
      exact List.pairwise_cons.mpr ⟨fun z hz => by
        rcases List.mem_cons.mp hz with e | hz
        · omega
        · have := h1 z hz; omega, h⟩
    · rename_i hxy
      refine List.pairwise_cons.mpr ⟨fun z hz => ?_, insI_sorted x h2⟩
      rcases List.mem_cons.mp ((insI_perm x ys).mem_iff.mp hz) with e | hz
      · omega
      · exact h1 z hz
theorem sortI_perm : ∀ xs : List Int, (sortI xs).Perm xs
  | [] => List.Perm.refl _
  | x :: xs => (insI_perm x _).trans ((sortI_perm xs).cons x)
theorem sortI_sorted : ∀ xs : List Int, (sortI xs).Pairwise (· ≤ ·)
  | [] => List.Pairwise.nil
  | x :: xs => insI_sorted x (sortI_sorted xs)
theorem sorted_uniq : ∀ {xs ys : List Int}, xs.Perm ys → xs.Pairwise (· ≤ ·) → ys.Pairwise (· ≤ ·) → xs = ys
  | [], ys, p, _, _ => (List.nil_perm.mp p).symm
  | x :: xs, [], p, _, _ => by have := p.length_eq; simp at this
  | x :: xs, y :: ys, p, h, g => by
    obtain ⟨h1, h2⟩ := List.pairwise_cons.mp h
    obtain ⟨g1, g2⟩ := List.pairwise_cons.mp g
    have e : x = y := by
      have a1 : x ∈ y :: ys := p.mem_iff.mp (by simp)
      have a2 : y ∈ x :: xs := p.mem_iff.mpr (by simp)
      rcases List.mem_cons.mp a1 with e | a1
      · exact e
      · rcases List.mem_cons.mp a2 with e | a2
        · exact e.symm
        · have := h1 y a2; have := g1 x a1; omega
    subst e
    rw [sorted_uniq (List.Perm.cons_inv p) h2 g2]
def oSortI (G : Gst) (xs : List Vl) : Option Vl := (iList1 G xs).map fun ns => .lst ((sortI ns).map .int)
theorem fn_sortI (hK : X.K = kt.K := by rfl) : FnS kt X (.builtin "sorted") oSortI := by
  refine ⟨_, cr_sortedI, fun B σ env G W xs vs z Q A hx e q => ?_⟩
  obtain ⟨ns, e1, rfl⟩ := Option.map_eq_some_iff.mp e
  obtain ⟨a, rfl, h⟩ := iList1_r A hx e1
  rw [hK]
  refine ⟨a, ns, rfl, h, fun ns' p hp hs hn => ?_⟩
  obtain rfl : ns' = sortI ns := sorted_uniq (hp.trans (sortI_perm ns).symm) hs (sortI_sorted ns)
  obtain ⟨e2, A2, r⟩ := new_lst A hn (reps_ints (K := kt.K) (W := W) (sortI ns))
  exact q _ _ e2 A2 r

/-! ### isinstance of a built-in type -/
def tyNm : Vl → Option String
  | .non => some "NoneType"
  | .bl _ => some "bool"
  | .int _ => some "int"
  | .str _ => some "str"
  | .tup _ => some "tuple"
  | .stp _ => some "tuple"
  | .lst _ => some "list"
  | _ => none
def vIsi (T : String) (f : String → Option Bool) (x : Vl) : Option Vl := ((tyNm x).bind f).map .bl
theorem tyNm_r {K : PySem.W.Frag} {W : Wd} {y : Vl} {v : V} {n : String} (h : Pk K W .f y v) (e : tyNm y = some n) : TyX K W.H v (.type n) := by
  cases y with
  | non => cases e; obtain rfl := h.non; exact .base .non
  | bl b => cases e; obtain rfl := h.bl; exact .base (.bl b)
  | int i => cases e; obtain rfl := h.int; exact .base (.int i)
  | str z => cases e; obtain ⟨rfl, _⟩ := h.str; exact .base (.str z)
  | tup xs => cases e; obtain ⟨a, vs, o, rfl, _, g, _, _⟩ := h.tup'; exact .fTuple g
  | stp xs =>
    cases e
    obtain ⟨a, vs, rfl, g, _⟩ := h.val (fun _ z => nomatch z) fun _ _ z => nomatch z
    exact .base (.tup g)
  | lst xs => cases e; obtain ⟨a, vs, rfl, g, _⟩ := h.lst; exact .base (.lst g)
  | _ => cases e
theorem sx_isi (T : String) (f : String → Option Bool) {tn : Str} {p2 : Pos} (hf : ∀ n b, f n = some b → PySem.W.kitOne X.K (.type n) (.type T) = some b) (ha : SX kt B X p m a da) (hv : bootBuiltins tn = some (.type T)) (hg : Gl X "isinstance" := by rfl) (hm : X.mg "isinstance" = none := by rfl) (hgt : Gl X tn := by rfl) (hmt : X.mg tn = none := by rfl)
    (hb : bootBuiltins "isinstance" = some (.builtin "isinstance") := by kernel_rfl) (hn : tn ≠ "__name__" := by decide) (hd : (tn == ("__debug__" : Str)) = false := by decide) (hK : X.K = kt.K := by rfl)
    (he1 : starEach [a, .Name tn p2] X.env = (false, eval a X.env) :: starEach [.Name tn p2] X.env := by rfl) (he2 : starEach [.Name tn p2] X.env = (false, eval (.Name tn p2) X.env) :: starEach [] X.env := by rfl) (hpl : (backTo pos (starEach [.Name tn p2] X.env)).any (·.1) = false := by rfl) :
    SX kt B X p .s (.Call (.Name "isinstance" np) [a, .Name tn p2] [] pos) (dUn (vIsi T f) da) := fun Wish tk => by
  refine (pe_callB call_isi hg hm hb (pa_cons (ha Wish tk) (pa_cons (pe_bltn (v := .ty T) hgt hmt hv rfl hn hd) pa_nil he2) he1) (by decide) (by decide) he1 hpl).imp fun σ H Q ⟨W, env, G, e, A, h⟩ => ?_
  subst e
  refine ⟨W, env, G, rfl, A, h.bindL.mono ?_⟩
  rintro v H1 ⟨W1, y, G1, rfl, e1, A1, z1, h1⟩
  obtain ⟨z, ez, q⟩ := opsPo h1
  obtain ⟨b, e0, rfl⟩ := Option.map_eq_some_iff.mp ez
  obtain ⟨n, e2, e3⟩ := Option.bind_eq_some_iff.mp e0
  exact ⟨v, .ty T, .type n, .type T, b, rfl, .ty T, by rw [hK]; exact tyNm_r z1.any e2, hf n b e3, q W1 _ Ext.refl A1 rfl⟩

/-! ### in a range; list(range) -/
def vInR (x i j : Vl) : Option Vl := match x, i, j with
  | .int k, .int a, .int b => some (.bl (decide (a ≤ k ∧ k < b)))
  | _, _, _ => none
def dInR (dx : DE) (ds : DA) : DE := fun env G => (dx env G).bind fun x G1 => (ds env G1).bind fun ys G2 => match ys with
  | [i, j] => opt (vInR x i j) G2
  | _ => .bad
theorem sx_inR {b c : Expr} {p3 p4 : Pos} (hx : SX kt B X pa .s a da) (ha : SAm kt B X pb .s [b, c] ds) (hg : Gl X "range" := by rfl) (hm : X.mg "range" = none := by rfl) (he : starEach [b, c] X.env = (false, eval b X.env) :: starEach [c] X.env := by rfl) (hpl : (backTo p4 (starEach [c] X.env)).any (·.1) = false := by rfl)
    (hk : behindInMarks .In (.Call (.Name "range" p3) [b, c] [] p4) = false := by rfl) : SX kt B X (pa && pb) .s (.Compare a [.In] [.Call (.Name "range" p3) [b, c] [] p4] pos) (dInR da ds) := fun Wish tk => by
  refine (pe_cmpR op_in_rng (hx Wish tk) (pe_callTy cr_range2 hg hm boot_range (ha Wish tk) (by decide) (by decide) he hpl) hk).imp fun σ H Q ⟨W, env, G, e, A, h⟩ => ?_
  subst e
  refine ⟨W, env, G, rfl, A, h.bindE.mono ?_⟩
  rintro v H1 ⟨W1, x, G1, rfl, e1, A1, z1, h1⟩
  refine ⟨W1, env, G1, rfl, A1, h1.bindL.mono ?_⟩
  rintro vs H2 ⟨W2, ys, G2, rfl, e2, A2, z2, h2⟩
  split at h2
  · rename_i i j
    obtain ⟨z, ez, q⟩ := opsPo h2
    unfold vInR at ez
    split at ez
    · cases ez
      obtain ⟨v1, v2, rfl, r1, r2⟩ := z2.two
      cases r1.int; cases r2.int; cases z1.int
      refine ⟨_, _, rfl, fun p hp => ⟨_, p, _, _, rfl, rfl, upd_same, ?_⟩⟩
      exact q (W2.alloc p (.rng _ _) .no) _ (Ext.alloc hp) (A2.alloc hp rfl rfl) rfl
    · cases ez
  · exact h2.elim
def lRng (f : List Vl → Option (List Vl)) (xs : List Vl) : Option Vl := (f xs).bind fun ys => if ys.length ≤ 16777216 then some (.lst ys) else none
theorem list_of_range {pins : List (Addr × Obj)} {σ : L2.St} {H : Hp} {s : Shared} {Q : VK} {r : Addr} {i j c : Int} {n : Nat} {t u v : Tok} (hc : X.calm = true) (I : L2.Inv X pins σ H s) (hr : IsRange s.heap r i j c t u v) (g : RgC i j c n) (hn : n ≤ 16777216)
    (q : ∀ l, H l = none → Q (.ref l) (upd H l (.lst ((List.range n).map fun k => V.int (i + (k : Nat) * c))))) : wpAny (model X.prog X.w) X.A (call (.type "list") [.ref r]) (EP X pins σ Q) X.xe s := by
  refine call_list_range (n := n) (I.ok.hd hc) hr g.2.2.1 g.2.2.2 hn fun h' tk acc c' hk e' hi => ?_
  have hl : acc.toList.length = n := by rw [Array.length_toList]; exact hi.1
  have hv : Vals ((List.range n).map fun k => V.int (i + (k : Nat) * c)) acc.toList := by
    rw [← hl]
    refine vals_of_get acc.toList _ fun k w hw => ?_
    obtain ⟨t', rfl⟩ := hi.2 k w (by rw [← hw, Array.getElem?_toList])
    exact ⟨t', rfl⟩
  exact ⟨.ref s.heap.objs.size, upd H s.heap.objs.size (.lst _), I.laid hk (Nat.le_refl _) (show ObjOk X.prog X.w _ _ _ (.lst ((List.range n).map fun k => V.int (i + (k : Nat) * c))) from
    ⟨by rw [List.length_map, List.length_range, sizeLine_eq]; exact hn, acc.toList, c', hv, by rw [Array.toArray_toList]; exact e'⟩), rfl, q _ (I.hok.fresh (Nat.le_refl _))⟩
theorem RgC.one {i j : Int} (h : -(2 ^ 62) ≤ i ∧ i < 2 ^ 62 ∧ -(2 ^ 62) ≤ j ∧ j < 2 ^ 62) : RgC i j 1 (j - i).toNat := ⟨by decide, by decide, small_one h.1 h.2.1 h.2.2.1 h.2.2.2, rangeSize_nat i j⟩
/-- range's parts: from, to, step, how many -/
def rgOf : List Vl → Option (Int × Int × Int × Nat)
  | [.int j] => if sm62 j = true then some (0, j, 1, j.toNat) else none
  | [.int i, .int j] => if sm62 i = true ∧ sm62 j = true then some (i, j, 1, (j - i).toNat) else none
  | [.int i, .int j, .int c] => if c ≠ 0 ∧ c.natAbs < 1073741824 ∧ Builtin.Range.small i j c = true ∧ 0 ≤ Builtin.Range.rangeSize i j c then some (i, j, c, (Builtin.Range.rangeSize i j c).toNat) else none
  | _ => none
def oRgL (xs : List Vl) : Option Vl := (rgOf xs).bind fun q => if q.2.2.2 ≤ 16777216 then some (.lst (rgC q.1 q.2.2.1 q.2.2.2)) else none
theorem rgC_reps {K : PySem.W.Frag} {W : Wd} {i c : Int} {n : Nat} : Reps K W (rgC i c n) ((List.range n).map fun k => V.int (i + (k : Nat) * c)) := by
  have := reps_ints (K := K) (W := W) ((List.range n).map fun k : Nat => i + (k : Int) * c)
  rw [List.map_map, List.map_map] at this
  exact this
/-- list(range(..)) -/
theorem sx_lrg {es : List Expr} {e : Expr} {p3 p4 : Pos} (hc : X.calm = true) (ha : SAm kt B X p .s (e :: es) ds) (hg : Gl X "range" := by rfl) (hm : X.mg "range" = none := by rfl) (hgl : Gl X "list" := by rfl) (hml : X.mg "list" = none := by rfl)
    (he : starEach (e :: es) X.env = (false, eval e X.env) :: starEach es X.env := by rfl) (hpl : (backTo p4 (starEach es X.env)).any (·.1) = false := by rfl)
    (na : starEach [.Call (.Name "range" p3) (e :: es) [] p4] X.env = (false, eval (.Call (.Name "range" p3) (e :: es) [] p4) X.env) :: starEach [] X.env := by rfl) :
    SX kt B X p .s (.Call (.Name "list" np) [.Call (.Name "range" p3) (e :: es) [] p4] [] pos) (dFn (fun _ => oRgL) ds) := fun Wish tk => by
  refine ⟨fun pins s σ H Q I ⟨W, env, G, e0, A, h⟩ => ?_⟩
  subst e0
  refine wpAny_Call_Name_kw (ld_blt I hgl hml boot_list ?_ (by decide) (by decide))
  refine PyProof.Rows.callWith_type1 ?_ na rfl
  rw [na]
  show wpAny _ _ (spliced ((false, eval (.Call (.Name "range" p3) (e :: es) [] p4) X.env) :: backTo pos (starEach [] X.env))) _ _ s
  refine Calls.spliced_cons (wpAny_Call_Name_kw (ld_blt I hg hm boot_range (PyProof.Rows.callWith_type1 (thn ((ha Wish tk).run p4 pins s σ _ _ I ⟨W, env, G, rfl, A, h.bindL.mono fun _ _ z => z⟩) fun us s1 ⟨vs, H1, I1, rv, W1, xs, G1, e1, ee, A1, z1, h1⟩ => ?_) he hpl) (by decide) (by decide)))
  subst e1
  obtain ⟨z, ez, q⟩ := opsPo h1
  obtain ⟨⟨i, j, c, n⟩, eg, e2⟩ := Option.bind_eq_some_iff.mp ez
  split at e2
  case isFalse => cases e2
  rename_i hn
  cases e2
  have fin : ∀ {s' : Shared} {r : Addr} {t u v : Tok}, L2.Inv X pins σ W1.H s' → IsRange s'.heap r i j c t u v → RgC i j c n → wpAny (model X.prog X.w) X.A (call (.type "list") [.ref r]) (EP X pins σ Q) X.xe s' := fun {s' r t u v} I' hr g =>
    list_of_range hc I' hr g hn fun l hl => by
      obtain ⟨e3, A3, r3⟩ := new_lst A1 hl (rgC_reps (K := kt.K) (W := W1) (i := i) (c := c) (n := n))
      exact q _ _ e3 A3 r3
  unfold rgOf at eg
  split at eg
  · split at eg
    · rename_i hb
      cases eg
      have hb := sm62_ok hb
      obtain ⟨v, rfl, z2⟩ := z1.one
      cases z2.int
      cases rv with
      | cons r1 r2 =>
        cases r2
        obtain ⟨t, rfl⟩ := r1
        refine call_range_1 (Calls.spliced_nil (fin (I1.kept fun b u e => Heap.get?_push_of_some _ e) (IsRange.new _ _ _ _ _ _ _) ?_))
        have := RgC.one (i := 0) (j := j) ⟨by omega, by omega, hb.1, hb.2⟩
        simpa using this
    · cases eg
  · split at eg
    · rename_i hb
      cases eg
      obtain ⟨v, v2, rfl, z2, z3⟩ := z1.two
      cases z2.int; cases z3.int
      cases rv with
      | cons r1 r2 =>
        cases r2 with
        | cons r2 r3 =>
          cases r3
          obtain ⟨t, rfl⟩ := r1
          obtain ⟨t', rfl⟩ := r2
          exact call_range_2 (Calls.spliced_nil (fin (I1.kept fun b u e => Heap.get?_push_of_some _ e) (IsRange.new _ _ _ _ _ _ _) (RgC.one ⟨(sm62_ok hb.1).1, (sm62_ok hb.1).2, (sm62_ok hb.2).1, (sm62_ok hb.2).2⟩)))
    · cases eg
  · split at eg
    · rename_i hb
      cases eg
      obtain ⟨c0, c1, c2, c3⟩ := hb
      obtain ⟨v, v2, v3, rfl, z2, z3, z4⟩ := z1.three
      cases z2.int; cases z3.int; cases z4.int
      cases rv with
      | cons r1 r2 =>
        cases r2 with
        | cons r2 r3 =>
          cases r3 with
          | cons r3 r4 =>
            cases r4
            obtain ⟨t, rfl⟩ := r1
            obtain ⟨t', rfl⟩ := r2
            obtain ⟨t'', rfl⟩ := r3
            exact call_range_3 c0 (Calls.spliced_nil (fin (I1.kept fun b u e => Heap.get?_push_of_some _ e) (IsRange.new _ _ _ _ _ _ _) ⟨c0, c1, c2, (Int.toNat_of_nonneg c3).symm⟩)) (.inl (PyProof.noPylong_small c1))
    · cases eg
  · cases eg
end
end CardH
end
section
set_option maxHeartbeats 2000000
namespace CardH
open PySem PySem.Spec PyProof.Rows L2

/-! ### a slot's own list or dict is written -/
def isSlot (i : Nat) : Role → Bool
  | .slot j => j == i
  | _ => false
section
variable {kt : Kt} {B : Bs} {W W0 : Wd} {σ : L2.St} {env : LEnv} {G : Gst} {a : Addr} {o o0 : HO} {i : Nat} {p : Bool}
theorem ExtR.slotWr (ha : W.Γ a = .slot i) (h : W.H a = some o0) (hw : okW o0 = true) : ExtR p (isSlot i) W (W.wr a o) where
  role := fun _ _ _ => rfl
  keep := fun b u hb _ hs _ => (upd_ne (fun e => by rw [e, ha] at hs; simp [isSlot] at hs)).trans hb
  tups := fun b xs hb => (upd_ne (fun e => by rw [e, h] at hb; cases hb; cases hw)).trans hb
  frz := fun b o u hb _ => (upd_ne (fun e => by rw [e, h] at hb; cases hb; cases hw)).trans hb
  there := fun b hb => by
    show upd W.H a o b ≠ none
    by_cases e : b = a
    · rw [e, upd_same]; simp
    · rw [upd_ne e]; exact hb
  pre := ⟨[], by simp [Wd.wr]⟩
theorem ExtR.toSl {S : Role → Bool} {W' : Wd} (hS : ∀ r, S r = true → isSl r = true) (e : ExtR p S W W') : ExtS W W' := by
  have hf : ∀ r, isSl r = false → S r = false := fun r h => by
    cases q : S r with
    | false => rfl
    | true => rw [hS r q] at h; cases h
  exact ⟨fun a h hs => e.role a h (hf _ hs), fun a o h nt hs hp => e.keep a o h nt (hf _ hs) (hp.imp (fun z => nomatch z) id), e.tups, fun a o u h hs => e.frz a o u h (hf _ hs), e.there, e.pre⟩
theorem isSlot_sl : ∀ r, isSlot i r = true → isSl r = true := fun r h => by cases r <;> first | rfl | cases h
theorem Ext.wr0 (e : Ext p W0 W) (h0 : W0.H a = none) (h : W.H a = some o0) (hw : okW o0 = true) : Ext p W0 (W.wr a o) where
  role := fun b hb => e.role b hb
  keep := fun b u hb nt hp => (upd_ne (ne_of_none hb h0)).trans (e.keep b u hb nt hp)
  tups := fun b zs hb => (upd_ne (ne_of_none hb h0)).trans (e.tups b zs hb)
  frz := fun b o u hb => (upd_ne (ne_of_none hb h0)).trans (e.frz b o u hb)
  there := fun b hb => by
    show upd W.H a o b ≠ none
    rw [upd_ne (fun z => hb (by rw [z]; exact h0))]; exact e.there b hb
  pre := e.pre
theorem RAll.slotWr {fv : Fv} (A : RAll kt B W σ env G) (ha : W.Γ a = .slot i) (h : W.H a = some o0) (hw : okW o0 = true) (hw' : okW o = true) (h0 : B.W0.H a = none) (hσ : σ[i]? = some (some (.ref a))) (hv : FvRep kt.K (W.wr a o) (.slot i) fv (.ref a)) :
    RAll kt B (W.wr a o) σ (env.set i (some fv)) G := by
  have e : ExtR true (isSlot i) W (W.wr a o) := ExtR.slotWr ha h hw
  have e2 : ExtR false (isSlot i) W (W.wr a o) := ExtR.slotWr ha h hw
  refine ⟨⟨fun b hb => e.there b (A.ok.tr b hb), A.ok.rg.extR e rfl rfl (fun _ => rfl) (fun _ _ => rfl) rfl, ?_, fun b ps q => ?_⟩, ⟨by rw [List.length_set]; exact A.re.len, fun j g hj => ?_⟩, A.si.wr0 h0 h hw, fun z b u x q => ?_⟩
  · refine tabs_but A.ok.tabs fun b u q k => (upd_ne (fun z => ?_)).trans q
    rw [z, h] at q; cases q
    rcases k with ⟨_, k⟩ | ⟨_, k⟩ <;> rw [k] at hw <;> cases hw
  · have q : upd W.H a o b = some (.tbl ps) := q
    by_cases z : b = a
    · rw [z, upd_same] at q; cases q; cases hw'
    · rw [upd_ne z] at q; exact A.ok.tb b ps q
  · by_cases eij : i = j
    · subst eij
      by_cases hi : i < env.length
      · rw [List.getElem?_set_self hi] at hj
        cases hj
        exact ⟨.ref a, hσ, hv, fun _ b z => by cases z; exact h0⟩
      · rw [List.getElem?_eq_none (by simpa using hi)] at hj; cases hj
    · rw [List.getElem?_set_ne eij] at hj
      obtain ⟨v, q1, q2, q3⟩ := A.re.sl j g hj
      exact ⟨v, q1, FvRep.extR e2 rfl rfl (by simp [isSlot]; exact Ne.symm eij) (.inr rfl) _ _ q2, q3⟩
  · have q : upd W.H a o b = some (.frz u x) := q
    by_cases k : b = a
    · rw [k, upd_same] at q; cases q; cases hw'
    · rw [upd_ne k] at q
      exact A.nl z b u x q
/-- a new list, dict of a slot's own -/
theorem RAll.ownL (A : RAll kt B W σ env G) (hp : W.H a = none) {xs : List Vl} {vs : List V} (h : Reps kt.K W xs vs) : RAll kt B (W.alloc a (.lst vs) (.slot i)) (σ.set i (some (.ref a))) (env.set i (some (.ol xs))) G := by
  have A1 := A.alloc (o := .lst vs) (r := .slot i) hp rfl rfl
  exact ⟨A1.ok, A1.re.set ⟨a, vs, rfl, if_pos rfl, upd_same, Reps.ext (Ext.alloc hp) _ _ h⟩ fun _ b z => by cases z; exact A.fresh hp, A1.si, A1.nl⟩
theorem RAll.ownD (A : RAll kt B W σ env G) (hp : W.H a = none) : RAll kt B (W.alloc a (.dK []) (.slot i)) (σ.set i (some (.ref a))) (env.set i (some (.od false []))) G := by
  have A1 := A.alloc (o := .dK []) (r := .slot i) hp rfl rfl
  exact ⟨A1.ok, A1.re.set (fv := .od false []) ⟨a, [], rfl, if_pos rfl, .inl upd_same, rfl⟩ fun _ b z => by cases z; exact A.fresh hp, A1.si, A1.nl⟩
/-- the slot's own list is seen as a value from now on -/
def isSlotR (i : Nat) : Role → Bool := isSlot i
end
def dOwnL (i : Nat) (ds : DA) : DS := fun e G => sb e (ds e G) fun xs G1 => if xs.length ≤ 16777216 then .nx (e.set i (some (.ol xs))) G1 else .bad
def dOwnD (i : Nat) : DS := fun e G => .nx (e.set i (some (.od false []))) G
/-- d[k] = v -/
def dPutD (i : Nat) (dv dk : DE) : DS := fun e G => sb e (dv e G) fun v G1 => match e[i]? with
  | some (some (.od false kvs)) => sb e (dk e G1) fun k G2 => match keyOf k with
    | some q => if kvs.length < 16777216 then .nx (e.set i (some (.od false (dputF keyOf kvs k q v)))) G2 else .bad
    | none => .bad
  | _ => .bad
/-- l.append(v) -/
def dApp (i : Nat) (dv : DE) : DS := fun e G => match e[i]? with
  | some (some (.ol xs)) => sb e (dv e G) fun v G1 => if xs.length < 16777216 then .nx (e.set i (some (.ol (xs ++ [v])))) G1 else .bad
  | _ => .bad
/-- the own list of a slot is a value from now on -/
def frzE (i : Nat) (e : LEnv) : LEnv := match e[i]? with
  | some (some (.ol xs)) => e.set i (some (.val (.lst xs)))
  | _ => e
def dFrz (i : Nat) (d : DS) : DS := fun e G => d (frzE i e) G
section
variable {kt : Kt} {B : Bs} {X : Cx} {p pa pb : Bool} {m ma mb : Md} {a b e : Expr} {es : List Expr} {da db d dv dk : DE} {ds : DA} {pos pos' np : Pos} {x : Str} {st : Stmt} {sts : List Stmt} {dst : DS}
theorem ss_ownL (i : Nat) {p2 : Pos} (hN : X.N.Nodup) (ha : SAm kt B X p .s es ds) (hi : X.N[i]? = some x := by rfl) (hx : Loc X.env.scope x := by first | exact Or.inl rfl | exact Or.inr rfl) (hs : swapsWith (.List es p2) (some (.Name x pos')) pos.line X.env = pure false := by rfl)
    (hf : X.fn x = true ∨ X.env.scope.names.lookup x = some .local := by first | exact .inl rfl | exact .inr rfl) : SS kt B X (.Assign [.Name x pos'] (.List es p2) pos) (dOwnL i ds) := fun Wish tk => (ps_set hN hi hx (pe_lst (ha Wish tk)) hs hf).imp fun D σ H ⟨W, env, G, e, A, h⟩ => by
  subst e
  refine ⟨W, env, G, rfl, A, h.bindS.mono ?_⟩
  rintro vs H1 ⟨W1, xs, G1, rfl, e1, A1, z1, h1⟩
  split at h1
  · refine ⟨by rw [← z1.strict.length, sizeLine_eq]; assumption, fun p hp => ?_⟩
    exact h1 (W1.alloc p (.lst vs) (.slot i)) _ (Ext.alloc (p := p) hp).toS (A1.ownL hp z1.strict)
  · exact h1.elim
theorem ss_ownD (i : Nat) {p2 : Pos} (hN : X.N.Nodup) (hi : X.N[i]? = some x := by rfl) (hx : Loc X.env.scope x := by first | exact Or.inl rfl | exact Or.inr rfl) (hs : swapsWith (.Dict [] [] p2) (some (.Name x pos')) pos.line X.env = pure false := by rfl)
    (hf : X.fn x = true ∨ X.env.scope.names.lookup x = some .local := by first | exact .inl rfl | exact .inr rfl) : SS kt B X (.Assign [.Name x pos'] (.Dict [] [] p2) pos) (dOwnD i) := fun Wish tk => (ps_set hN hi hx pe_dnewK hs hf).imp fun D σ H ⟨W, env, G, e, A, h⟩ => by
  subst e
  exact fun p hp => h (W.alloc p (.dK []) (.slot i)) _ (Ext.alloc hp).toS (A.ownD hp)
theorem ss_putD (i : Nat) {p3 : Pos} (hlk : B.lk = false) (hu : X.A.units + 1 < cLine) (hv : SX kt B X pa .s e dv) (hk : SX kt B X pb .s b dk) (hi : X.N[i]? = some x := by rfl) (hvis : Vis X.env.scope x := by first | exact Or.inl rfl | exact Or.inr (Or.inl rfl) | exact Or.inr (Or.inr rfl))
    (hd : (x == ("__debug__" : Str)) = false := by decide) (hcd : (x == ("__classdict__" : Str)) = false := by decide) (hs : swapsWithSole [.Subscript (.Name x p3) b pos'] e pos.line X.env = pure false := by rfl) (hw : swappedStores [.Subscript (.Name x p3) b pos'] e X.env = pure none := by rfl)
    (h1 : (assignEach [.Subscript (.Name x p3) b pos'] X.env).map (·.2) = [assign (.Subscript (.Name x p3) b pos') X.env] := by rfl)
    (ha : ∀ v, assign (.Subscript (.Name x p3) b pos') X.env v = (do
      let ov ← holding [v] (eval (.Name x p3) X.env)
      let iv ← holding [v, ov] (eval b X.env)
      standAt pos'
      holding [v, ov, iv] (setItem ov iv v)
      release [v, ov, iv] []) := by intro _; rfl) : SS kt B X (.Assign [.Subscript (.Name x p3) b pos'] e pos) (dPutD i dv dk) := fun Wish tk => by
  refine (ps_asg (hv Wish tk) (pg_sub (pe_var hi hvis hd hcd) (hk Wish tk) (set_dict hu) ha) hs hw h1).imp fun D σ H ⟨W, env, G, e, A, h⟩ => ?_
  subst e
  refine ⟨W, env, G, rfl, A, h.bindS.mono ?_⟩
  rintro v H1 ⟨W1, y, G1, rfl, e1, A1, z1, h1⟩
  split at h1
  case h_2 => exact h1.elim
  rename_i kvs ei
  obtain ⟨w, hσ, hfv, hown⟩ := A1.re.sl i _ ei
  obtain ⟨a', ks, rfl, ga, gr, gk⟩ := hfv
  refine ⟨.ref a', hσ, W1, env, G1, rfl, A1, h1.bindS.mono ?_⟩
  rintro k' H2 ⟨W2, kx, G2, rfl, e2, A2, z2, h2⟩
  split at h2
  case h_2 => exact h2.elim
  rename_i q eq
  split at h2
  case isFalse => exact h2.elim
  rename_i hl
  obtain ⟨w2, hσ2, hfv2, hown2⟩ := A2.re.sl i _ ei
  rw [hσ] at hσ2
  cases hσ2
  obtain ⟨a2, ks2, ea, ga2, gr2, gk2⟩ := hfv2
  cases ea
  have gH : W2.H a' = some (.dK ks2) := by
    rcases gr2 with g | ⟨o, g⟩
    · exact g
    · have := A2.nl hlk a' o _ g
      rw [ga2] at this; cases this
  have hl2 : ks2.length < sizeLine := by rw [← gk2.length, sizeLine_eq]; exact hl
  have rv : Rep kt.K W2 y v := Rep.ext e2 _ _ z1.strict
  have eX : ExtS W2 (W2.wr a' (.dK (putK ks2 q v))) := (ExtR.slotWr (p := true) ga2 gH rfl).toSl isSlot_sl
  refine ⟨a', _, rfl, .inl ⟨ks2, q, gH, keyOf_rep z2.strict eq, hl2, rfl⟩, ?_⟩
  refine h2 (W2.wr a' (.dK (putK ks2 q v))) σ eX (A2.slotWr ga2 gH rfl rfl (hown2 rfl a' rfl) hσ (fv := .od false _) ⟨a', _, rfl, ga2, .inl upd_same, ?_⟩)
  have eX2 : ExtR true (isSlot i) W2 (W2.wr a' (.dK (putK ks2 q v))) := ExtR.slotWr ga2 gH rfl
  exact RepK.of ((RepK.extR eX2 rfl rfl _ _ gk2).to.put ⟨eq, ok_rep z2.strict⟩ (Rep.extR eX2 rfl rfl _ _ rv))
/-- l.append(v), a statement -/
theorem ss_app (i : Nat) {p2 apos cpos : Pos} (hv : SX kt B X pa .s e dv) (hi : X.N[i]? = some x := by rfl) (hvis : Vis X.env.scope x := by first | exact Or.inl rfl | exact Or.inr (Or.inl rfl) | exact Or.inr (Or.inr rfl))
    (hd : (x == ("__debug__" : Str)) = false := by decide) (hcd : (x == ("__classdict__" : Str)) = false := by decide) (hbase : attributeBase (.Name x p2) "append" X.env (eval (.Name x p2) X.env) = eval (.Name x p2) X.env := by rfl)
    (hfew : ((backTo cpos (starEach [e] X.env)).all (fun x => !x.1) && (backToKw cpos (keywordEach [] X.env)).all (fun x => x.1.isSome) && decide (([e] : List Expr).length + ([] : List Keyword).length + (if ([] : List Keyword).isEmpty then 0 else 1) < 30)) = true := by rfl)
    (hline : (apos.endLine == cpos.line) = true := by rfl) (hst : starEach [e] X.env = (false, eval e X.env) :: starEach [] X.env := by rfl) (hplain : (backTo cpos (starEach [] X.env)).any (·.1) = false := by rfl)
    (hs : swapsWith (.Call (.Attribute (.Name x p2) "append" apos) [e] [] cpos) none pos.line X.env = pure false := by rfl) :
    SS kt B X (.Expr (.Call (.Attribute (.Name x p2) "append" apos) [e] [] cpos) pos) (dApp i dv) := fun Wish tk => by
  refine (ps_expr (pe_bm PySem.F.plainAttrs_list PySem.F.slot_list_append PySem.F.type_list_append mt_append (pe_var hi hvis hd hcd) (pa_cons (hv Wish tk) pa_nil hst) hbase hfew hline hst hplain) hs).imp fun D σ H ⟨W, env, G, e, A, h⟩ => ?_
  subst e
  unfold dApp at h
  split at h
  case h_2 => exact h.elim
  rename_i xs ei
  obtain ⟨w, hσ, hfv, hown⟩ := A.re.sl i _ ei
  obtain ⟨a', us, rfl, ga, gr, gk⟩ := hfv
  refine ⟨.ref a', hσ, .inl ⟨rfl, us, .inl (.inl gr)⟩, W, env, G, rfl, A, h.bindS.mono ?_⟩
  rintro v H1 ⟨W1, y, G1, rfl, e1, A1, z1, h1⟩
  split at h1
  case isFalse => exact h1.elim
  rename_i hl
  obtain ⟨w2, hσ2, hfv2, hown2⟩ := A1.re.sl i _ ei
  rw [hσ] at hσ2
  cases hσ2
  obtain ⟨a2, us2, ea, ga2, gH, gk2⟩ := hfv2
  cases ea
  have eX2 : ExtR true (isSlot i) W1 (W1.wr a' (.lst (us2 ++ [v]))) := ExtR.slotWr ga2 gH rfl
  refine ⟨a', us2, v, rfl, rfl, gH, by rw [← gk2.length, sizeLine_eq]; exact hl, ?_⟩
  refine h1 (W1.wr a' (.lst (us2 ++ [v]))) σ (eX2.toSl isSlot_sl) (A1.slotWr ga2 gH rfl rfl (hown2 rfl a' rfl) hσ (fv := .ol _) ⟨a', _, rfl, ga2, upd_same, ?_⟩)
  exact (Reps.extR eX2 rfl rfl _ _ gk2).append (Reps.one (Rep.extR eX2 rfl rfl _ _ z1.strict))

/-! ### a slot's own list becomes a value -/
theorem RAll.frz {W : Wd} {σ : L2.St} {env : LEnv} {G : Gst} (i : Nat) (A : RAll kt B W σ env G) : ∃ W', W'.H = W.H ∧ ExtS W W' ∧ RAll kt B W' σ (frzE i env) G := by
  unfold frzE
  split
  case h_2 => exact ⟨W, rfl, ExtR.refl, A⟩
  rename_i xs ei
  obtain ⟨w, hσ, ⟨a', us, rfl, ga, gH, gk⟩, hown⟩ := A.re.sl i _ ei
  have h0 := hown rfl a' rfl
  have e : ∀ p, ExtR p (isSlot i) W ⟨fun b => if b = a' then .froz else W.Γ b, W.ρ, W.H⟩ := fun p =>
    ⟨fun b _ hs => if_neg (fun z => by rw [z, ga] at hs; simp [isSlot] at hs), fun b o h _ _ _ => h, fun b xs h => h, fun _ _ _ h _ => h, fun b h => h, [], by simp⟩
  refine ⟨⟨fun b => if b = a' then .froz else W.Γ b, W.ρ, W.H⟩, rfl, (e true).toSl isSlot_sl, ⟨fun b hb => ?_, A.ok.rg.extR (e true) rfl rfl (fun _ => rfl) (fun _ _ => rfl) rfl, A.ok.tabs, fun b ps q => A.ok.tb b ps q⟩, ⟨by rw [List.length_set]; exact A.re.len, fun j g hj => ?_⟩, ?_, fun z b u x q => ?_⟩
  · by_cases k : b = a'
    · subst k
      show W.H b ≠ none
      rw [gH]; simp
    · refine A.ok.tr b fun w => hb ?_
      show (if b = a' then _ else W.Γ b) = _
      rw [if_neg k]; exact w
  · by_cases eij : i = j
    · subst eij
      by_cases hi : i < env.length
      · rw [List.getElem?_set_self hi] at hj
        cases hj
        exact ⟨.ref a', hσ, ⟨a', us, rfl, if_pos rfl, gH, Reps.extR (e true) rfl rfl _ _ gk⟩, fun z => nomatch z⟩
      · rw [List.getElem?_eq_none (by simpa using hi)] at hj; cases hj
    · rw [List.getElem?_set_ne eij] at hj
      obtain ⟨v, q1, q2, q3⟩ := A.re.sl j g hj
      exact ⟨v, q1, FvRep.extR (e false) rfl rfl (by simp [isSlot]; exact Ne.symm eij) (.inr rfl) _ _ q2, q3⟩
  · exact ⟨fun b hb => (if_neg (fun z => hb (by rw [z]; exact h0))).trans (A.si.role b hb), fun b o h nt hp => A.si.keep b o h nt hp, A.si.tups, A.si.frz, A.si.there, A.si.pre⟩
  · show (if b = a' then Role.froz else W.Γ b).lockable = true
    by_cases k : b = a'
    · rw [if_pos k]; rfl
    · rw [if_neg k]; exact A.nl z b u x q
theorem ss_frz (i : Nat) (h : SS kt B X st dst) : SS kt B X st (dFrz i dst) := fun Wish tk => (h Wish tk).imp fun D σ H ⟨W, env, G, e, A, h⟩ => by
  subst e
  obtain ⟨W', e1, e2, A'⟩ := A.frz i
  exact ⟨W', frzE i env, G, e1, A', h.shiftS e2⟩
theorem sss_frz (i : Nat) (h : SSs kt B X sts dst) : SSs kt B X sts (dFrz i dst) := fun Wish tk => (h Wish tk).imp fun D σ H ⟨W, env, G, e, A, h⟩ => by
  subst e
  obtain ⟨W', e1, e2, A'⟩ := A.frz i
  exact ⟨W', frzE i env, G, e1, A', h.shiftS e2⟩
end

/-! ### a new list of the store, returned -/
def dRetO (ds : DA) : DS := fun e G => sb e (ds e G) fun xs G1 => if xs.length ≤ 16777216 then .rt (.ref G1.length) (G1 ++ [.lst xs]) else .bad
def Wd.mkL (W : Wd) (y : Addr) (n : Nat) (vs : List V) : Wd := ⟨fun a => if a = y then .obj n else W.Γ a, W.ρ ++ [y], upd W.H y (.lst vs)⟩
section
variable {kt : Kt} {B : Bs} {X : Cx} {p pa pb : Bool} {m ma mb : Md} {a b e : Expr} {es : List Expr} {da db d dv dk : DE} {ds : DA} {pos pos' np : Pos} {x : Str}
theorem RAll.mkL {W : Wd} {σ : L2.St} {env : LEnv} {G : Gst} {y : Addr} {xs : List Vl} {vs : List V} (A : RAll kt B W σ env G) (hy : W.H y = none) (r : Reps kt.K W xs vs) :
    Ext true W (W.mkL y G.length vs) ∧ RAll kt B (W.mkL y G.length vs) σ env (G ++ [.lst xs]) := by
  have e : Ext true W (W.mkL y G.length vs) := by
    have nb : ∀ b, W.H b ≠ none → upd W.H y (.lst vs) b = W.H b := fun b hb => upd_ne (fun z => hb (by rw [z]; exact hy))
    exact ⟨fun b hb => if_neg fun z => hb (by rw [z]; exact hy), fun b o hb _ _ => (nb b (by rw [hb]; simp)).trans hb, fun b xs hb => (nb b (by rw [hb]; simp)).trans hb, fun b o u hb => (nb b (by rw [hb]; simp)).trans hb, fun b hb => by
      show upd W.H y (.lst vs) b ≠ none
      rw [nb b hb]; exact hb, [y], rfl⟩
  refine ⟨e, ⟨fun b hb => ?_, ⟨?_, fun i o hi => ?_⟩, tabsN_upd A.ok.tabs hy, fun b ps q => ?_⟩, A.re.ext e, (A.si.trans e).mono fun z => by rw [z]; rfl, fun z b u o q => ?_⟩
  · show upd W.H y (.lst vs) b ≠ none
    by_cases k : b = y
    · rw [k, upd_same]; simp
    · rw [upd_ne k]
      refine A.ok.tr b fun w => hb ?_
      show (if b = y then _ else W.Γ b) = _
      rw [if_neg k]; exact w
  · simp [Wd.mkL, A.ok.rg.len]
  · by_cases hl : i < G.length
    · rw [List.getElem?_append_left hl] at hi
      obtain ⟨b, h1, h2, h3⟩ := (A.ok.rg.extR (G := G) (W' := ⟨(W.mkL y G.length vs).Γ, W.ρ, (W.mkL y G.length vs).H⟩) (S := fun _ => false) ⟨fun b hb _ => e.role b hb, fun b o hb nt _ hp => e.keep b o hb nt hp, e.tups, fun b o u h _ => e.frz b o u h, e.there, [], by simp⟩ rfl rfl (fun _ => rfl) (fun _ _ => rfl) rfl).ob i o hi
      have h3' : ObRep kt (W.mkL y G.length vs) i b o := by
        have ee : ExtR true (fun _ => false) ⟨(W.mkL y G.length vs).Γ, W.ρ, (W.mkL y G.length vs).H⟩ (W.mkL y G.length vs) := ⟨fun _ _ _ => rfl, fun _ _ h _ _ _ => h, fun _ _ h => h, fun _ _ _ h _ => h, fun _ h => h, [y], rfl⟩
        cases o with
        | lst zs => obtain ⟨us, q, z⟩ := h3; exact ⟨us, q, Reps.extR ee rfl rfl _ _ z⟩
        | dct lk t kvs => obtain ⟨u, q, z⟩ := h3; exact ⟨u, q.extR ee rfl rfl, z⟩
        | ins C fs => obtain ⟨dx, fv, q, z, k⟩ := h3; exact ⟨dx, fv, q, FldsRep.extR ee rfl rfl (fun _ => rfl) _ _ z, k⟩
      exact ⟨b, by show (W.ρ ++ [y])[i]? = some b; rw [List.getElem?_append_left (List.getElem?_eq_some_iff.mp h1).1]; exact h1, h2, h3'⟩
    · have hil : i = G.length := by
        have := (List.getElem?_eq_some_iff.mp hi).1
        rw [List.length_append, List.length_singleton] at this
        omega
      subst hil
      rw [List.getElem?_append_right (Nat.le_refl _)] at hi
      simp only [Nat.sub_self, List.getElem?_cons_zero, Option.some.injEq] at hi
      subst hi
      refine ⟨y, ?_, if_pos rfl, vs, upd_same, Reps.ext e _ _ r⟩
      show (W.ρ ++ [y])[G.length]? = some y
      rw [← A.ok.rg.len, List.getElem?_append_right (Nat.le_refl _)]; simp
  · have q : upd W.H y (.lst vs) b = some (.tbl ps) := q
    by_cases k : b = y
    · rw [k, upd_same] at q; cases q
    · rw [upd_ne k] at q; exact A.ok.tb b ps q
  · have q : upd W.H y (.lst vs) b = some (.frz u o) := q
    by_cases k : b = y
    · rw [k, upd_same] at q; cases q
    · rw [upd_ne k] at q
      have g : (W.mkL y G.length vs).Γ b = W.Γ b := if_neg k
      rw [g]
      exact A.nl z b u o q
theorem ss_retO {p2 : Pos} (h : SAm kt B X p .s es ds) : SS kt B X (.Return (some (.List es p2)) pos) (dRetO ds) := fun Wish tk => (ps_ret (pe_lst (h Wish tk))).imp fun D σ H ⟨W, env, G, e, A, h⟩ => by
  subst e
  refine ⟨W, env, G, rfl, A, h.bindS.mono ?_⟩
  rintro vs H1 ⟨W1, xs, G1, rfl, e1, A1, z1, h1⟩
  split at h1
  · refine ⟨by rw [← z1.strict.length, sizeLine_eq]; assumption, fun y hy => ?_⟩
    obtain ⟨e2, A2⟩ := A1.mkL hy z1.strict
    refine h1 (W1.mkL y G1.length vs) (.ref y) e2.toS A2.out ⟨y, rfl, ?_⟩
    show (W1.ρ ++ [y])[G1.length]? = some y
    rw [← A1.ok.rg.len, List.getElem?_append_right (Nat.le_refl _)]; simp
  · exact h1.elim

/-! ### x op= e -/
def dAug (i : Nat) (o : Vl → Vl → Option Vl) (dv : DE) : DS := fun e G => match e[i]? with
  | some (some (.val y)) => sb e (dv e G) fun v G1 => match o y v with
    | some z => .nx (e.set i (some (.val z))) G1
    | none => .bad
  | _ => .bad
theorem ss_aug {op : Operator} {o : Vl → Vl → Option Vl} (i : Nat) (hN : X.N.Nodup) (ho : InS kt X op o) (hv : SX kt B X p .s e dv) (hi : X.N[i]? = some x := by rfl) (hx : Loc X.env.scope x := by first | exact Or.inl rfl | exact Or.inr rfl)
    (hf : X.fn x = true ∨ X.env.scope.names.lookup x = some .local := by first | exact .inl rfl | exact .inr rfl) : SS kt B X (.AugAssign (.Name x pos') op e pos) (dAug i o dv) := fun Wish tk => by
  obtain ⟨r, hr, hs⟩ := ho
  refine (ps_aug (ti := r) hN hi hx (hv Wish tk) (fun pins s σ H x y v u Q I rx ry q => hr pins s σ H x y v u Q I rx ry q) hf).imp fun D σ H ⟨W, env, G, e, A, h⟩ => ?_
  subst e
  unfold dAug at h
  split at h
  case h_2 => exact h.elim
  rename_i y ei
  obtain ⟨w, hσ, hfv, hown⟩ := A.re.sl i _ ei
  refine ⟨w, hσ, W, env, G, rfl, A, h.bindS.mono ?_⟩
  rintro v H1 ⟨W1, y1, G1, rfl, e1, A1, z1, h1⟩
  cases ez : o y y1 with
  | none => rw [ez] at h1; exact h1.elim
  | some z =>
    rw [ez] at h1
    exact hs B σ env G1 W1 y y1 w v z _ A1 (.inl (Rep.ext e1 _ _ hfv)) z1.any ez fun W2 w2 e2 A2 r2 => h1 W2 _ e2.toS (A2.set r2)
def vAddI : Vl → Vl → Option Vl
  | .int i, .int j => some (.int (i + j))
  | _, _ => none
theorem ins_add : InS kt X .Add vAddI := by
  refine ⟨_, iop_add, fun B σ env G W x y v u z Q A hx hy e q => ?_⟩
  unfold vAddI at e
  split at e
  · cases e
    obtain rfl := hx.int; obtain rfl := hy.int
    exact ⟨_, _, rfl, rfl, q W _ Ext.refl A rfl⟩
  · cases e
theorem ins_sub : InS kt X .Sub vSub := by
  refine ⟨_, iop_sub, fun B σ env G W x y v u z Q A hx hy e q => ?_⟩
  unfold vSub at e
  split at e
  · cases e
    obtain rfl := hx.int; obtain rfl := hy.int
    exact ⟨_, _, rfl, rfl, q W _ Ext.refl A rfl⟩
  · cases e
end
end CardH
end
section
set_option maxHeartbeats 2000000
namespace CardH
open PySem PySem.Spec PyProof.Rows L2 LamX

/-! ### a, b = x, y -/
def dPar (i j : Nat) (ds : DA) : DS := fun e G => sb e (ds e G) fun xs G1 => match xs with
  | [x, y] => .nx ((e.set i (some (.val x))).set j (some (.val y))) G1
  | _ => .bad
def dPar3 (i j l : Nat) (ds : DA) : DS := fun e G => sb e (ds e G) fun xs G1 => match xs with
  | [x, y, z] => .nx (((e.set i (some (.val x))).set j (some (.val y))).set l (some (.val z))) G1
  | _ => .bad
section
variable {kt : Kt} {B : Bs} {X : Cx} {p pa pb : Bool} {m ma mb : Md} {a b c e : Expr} {es : List Expr} {da db d dv dk : DE} {ds : DA} {pos pos' np : Pos} {x y z : Str}
theorem ss_par (i j : Nat) {px py pt : Pos} {kt' k2 pt2} (hc : X.calm = true) (hN : X.N.Nodup) (ha : SAm kt B X p .s [a, b] ds) (hi : X.N[i]? = some x := by rfl) (hj : X.N[j]? = some y := by rfl) (hij : i ≠ j := by decide) (hx : X.env.scope.names.lookup x = some .local := by rfl) (hy : X.env.scope.names.lookup y = some .local := by rfl)
    (hw : swappedStores [.Tuple [.Name x px, .Name y py] kt' pt] (.Tuple [a, b] k2 pt2) X.env = pure (some [x, y]) := by rfl) (hs : swapsWithSole [.Tuple [.Name x px, .Name y py] kt' pt] (.Tuple [a, b] k2 pt2) pos.line X.env = pure false := by rfl) :
    SS kt B X (.Assign [.Tuple [.Name x px, .Name y py] kt' pt] (.Tuple [a, b] k2 pt2) pos) (dPar i j ds) := fun Wish tk => (ps_par hc hN hi hj hij hx hy (ha Wish tk) hw hs).imp fun D σ H ⟨W, env, G, e, A, h⟩ => by
  subst e
  refine ⟨W, env, G, rfl, A, h.bindS.mono ?_⟩
  rintro vs H1 ⟨W1, xs, G1, rfl, e1, A1, z1, h1⟩
  split at h1
  · obtain ⟨v, u, rfl, r1, r2⟩ := z1.two
    exact ⟨v, u, rfl, h1 W1 _ ExtR.refl ((A1.set r1.strict).set r2.strict)⟩
  · exact h1.elim
end

section
variable {kt : Kt} {B : Bs} {X : Cx} {p pa pb : Bool} {m ma mb : Md} {a b c e : Expr} {es : List Expr} {da db d dv dk : DE} {ds : DA} {pos pos' np : Pos} {x y z : Str}
theorem ss_par3 (i j l : Nat) {px py pz pt : Pos} {kt' k2 pt2} (hc : X.calm = true) (hN : X.N.Nodup) (ha : SAm kt B X p .s [a, b, c] ds) (hi : X.N[i]? = some x := by rfl) (hj : X.N[j]? = some y := by rfl) (hl : X.N[l]? = some z := by rfl) (hij : i ≠ j := by decide) (hil : i ≠ l := by decide) (hjl : j ≠ l := by decide)
    (hx : X.env.scope.names.lookup x = some .local := by rfl) (hy : X.env.scope.names.lookup y = some .local := by rfl) (hz : X.env.scope.names.lookup z = some .local := by rfl) (hw : swappedStores [.Tuple [.Name x px, .Name y py, .Name z pz] kt' pt] (.Tuple [a, b, c] k2 pt2) X.env = pure (some [x, y, z]) := by rfl)
    (hs : swapsWithSole [.Tuple [.Name x px, .Name y py, .Name z pz] kt' pt] (.Tuple [a, b, c] k2 pt2) pos.line X.env = pure false := by rfl) :
    SS kt B X (.Assign [.Tuple [.Name x px, .Name y py, .Name z pz] kt' pt] (.Tuple [a, b, c] k2 pt2) pos) (dPar3 i j l ds) := fun Wish tk => (L2.ps_par3 hc hN hi hj hl hij hil hjl hx hy hz (ha Wish tk) hw hs).imp fun D σ H ⟨W, env, G, e, A, h⟩ => by
  subst e
  refine ⟨W, env, G, rfl, A, h.bindS.mono ?_⟩
  rintro vs H1 ⟨W1, xs, G1, rfl, e1, A1, z1, h1⟩
  split at h1
  · obtain ⟨u, v, w, rfl, r1, r2, r3⟩ := z1.three
    exact ⟨u, v, w, rfl, h1 W1 _ ExtR.refl (((A1.set r1.strict).set r2.strict).set r3.strict)⟩
  · exact h1.elim
end

/-! ### a unary minus -/
def vNeg : Vl → Option Vl
  | .int i => some (.int (-i))
  | _ => none
section
variable {kt : Kt} {B : Bs} {X : Cx} {p : Bool} {m : Md} {a : Expr} {da : DE} {pos : Pos}
theorem sx_neg (ha : SX kt B X p m a da) : SX kt B X p .s (.UnaryOp .USub a pos) (dUn vNeg da) := fun Wish tk => by
  refine (pe_un un_neg (ha Wish tk)).imp fun σ H Q ⟨W, env, G, e, A, h⟩ => ?_
  subst e
  refine ⟨W, env, G, rfl, A, h.bindL.mono ?_⟩
  rintro v H1 ⟨W1, y, G1, rfl, e1, A1, z1, h1⟩
  obtain ⟨z, ez, q⟩ := opsPo h1
  cases y with
  | int i => cases ez; cases z1.int; exact ⟨i, rfl, q W1 _ Ext.refl A1 rfl⟩
  | _ => cases ez
end

/-! ### a def of the head's facts -/
section
variable {P : Program} {w : World} {base : Heap} {kt : Kt}
theorem DFn.ofD {x qual : Str} {params : Arguments} {body : List Stmt} {scope : Scope} {pp : Str × Option Str} {N ps : List Str} {k : Nat} (F : ∃ fd, FunD kt.K x qual params body scope [] [] (He.fAd kt.K pp) fd) (S : FnScope N ps scope)
    (hb : ∀ (dV kV doc pm : Value) (an : Option Addr) (cdv ct : Value) (us : List Value), us.length = ps.length → bindArgs (PySem.W.fnOf x qual params body scope .none kV doc pm an cdv ct) ⟨us, []⟩ = pure (ps.zip us)) (d : DS)
    (hbody : ∀ (A : Around) (outer : List Env) (s : Shared) (H : Hp) (E : XK) (W0 : Wd), Room k (A.deeper (envOfC qual scope s.heap.objs.size (He.fAd kt.K pp) (.ref (He.codeOf kt.K pp)))) →
      SSs kt ⟨W0, false, false⟩ (cxOf (L2.CX P w) P w kt.K kt.mg base N qual scope (He.fAd kt.K pp) (.ref (He.codeOf kt.K pp)) A outer s H E) body d) : DFn P w base kt (k + 1) (He.fAd kt.K pp) ps.length (runF N.length d) := by
  obtain ⟨fd, F⟩ := F
  obtain ⟨⟨oc, od, dV, kV, doc, pm, an, cdv, ct, osl, rfl, lk, hcd, hdv, hkw⟩, kp⟩ := F
  have hdV : dV = .none := by
    rcases hdv with ⟨_, e⟩ | ⟨e, _⟩
    · exact e
    · exact absurd rfl e
  subst hdV
  obtain ⟨c, rfl⟩ := He.codeIn_ref hcd
  have ec : He.codeOf kt.K pp = c := He.codeOf_eq lk rfl
  rw [ec] at hbody
  refine ⟨⟨_, ps, fn_of lk hcd S (fun vs H Q E ⟨W, G, xs, e, ok, nl, r, hl, q⟩ => by rw [← r.length]; exact hl) fun A outer s H vs Q E hr ⟨W, G, xs, e, ok, nl, r, hl, q⟩ => ?_, .all fun us hl => hb .none kV doc pm an (.ref c) ct us hl, rfl⟩, kp⟩
  subst e
  have tk : Takes (cxOf (L2.CX P w) P w kt.K kt.mg base N qual scope (He.fAd kt.K pp) (.ref c) A outer s W.H E) (fun cls d _ H => E cls d H) := takes_of rfl rfl rfl rfl
  refine ⟨_, hbody A outer s W.H E W hr _ tk, W, startE N.length xs, G, rfl, ⟨ok, start_re r _, Ext.refl, fun _ => nl⟩, ?_⟩
  unfold runF at q
  cases e : d (startE N.length xs) G with
  | bad => rw [e] at q; exact q
  | nx e' G' => rw [e] at q; exact fun W' σ _ A => q W' .non A.si A.ok (A.nl rfl) rfl
  | bk e' G' => rw [e] at q; exact q.elim
  | ct e' G' => rw [e] at q; exact q.elim
  | rt v G' => rw [e] at q; exact fun W' w _ A r => q W' w A.si A.ok (A.nl rfl) r
  | ex c e' G' => rw [e] at q; exact fun W' σ od _ A z => q W' od A.si A.ok (A.nl rfl) z
theorem room_hu {A : Around} {k : Nat} (hr : Room k A) : A.units + 64 < cLine ∧ A.units + 65 < cLine ∧ A.units + 1 < cLine := by
  have := hr.un
  exact ⟨by omega, by omega, by omega⟩
end
theorem passes_cx {P : Program} {w : World} {K : PySem.W.Frag} {mg : Str → Option Value} {base : Heap} {N : List Str} {qual : Str} {scope : Scope} {f : Addr} {cd : Value} {A : Around} {outer : List Env} {s : Shared} {H : Hp} {E : XK} :
    PassesOwn (model P w) (cxOf (L2.CX P w) P w K mg base N qual scope f cd A outer s H E).A (cxOf (L2.CX P w) P w K mg base N qual scope f cd A outer s H E).env (cxOf (L2.CX P w) P w K mg base N qual scope f cd A outer s H E).xe :=
  passes_of (X := cxOf (L2.CX P w) P w K mg base N qual scope f cd A outer s H E) (K := fun e s'' => L2.CX P w outer H s E e s'') (E₁ := fun e' s'' => L2.CX P w outer H s E e' s'') rfl
end CardH
end
section
set_option maxHeartbeats 2000000
namespace CardH
open PySem PySem.Spec PyProof.Rows L2 LamX

section
variable {kt : Kt} {B : Bs} {X : Cx} {p pa pb pc pi pt pe : Bool} {ma mb mc : Md} {a b c elt tg iter : Expr} {da db dc de : DE} {t u : DT} {pos spos py : Pos} {ifs : List Expr} {scope : Scope} {own : List (Str × Nat)} {sl : List Nat} {di : DI} {g : DG} {dt : DT}
/-- x = [..], on one line -/
theorem ss_setLc (i : Nat) {y : Str} (hc : X.calm = true) (hN : X.N.Nodup) (hi : SI kt B X pi tg iter di) (ok : blkC X.N X.env.scope scope own = true)
    (hg : ∀ (s : Shared) (H : Hp) (C : Addr) (cl : List (Str × Addr)) (fp : List Addr), SG kt B (X.blk s H scope (compEnvC scope cl C X.env) fp) sl tg g)
    (ht : ∀ (s : Shared) (H : Hp) (C : Addr) (cl : List (Str × Addr)) (fp : List Addr), STs kt B (X.blk s H scope (compEnvC scope cl C X.env) fp) pt ifs dt)
    (he : ∀ (s : Shared) (H : Hp) (C : Addr) (cl : List (Str × Addr)) (fp : List Addr), SX kt B (X.blk s H scope (compEnvC scope cl C X.env) fp) pe .s elt de)
    (hy : X.N[i]? = some y := by rfl) (hyl : X.env.scope.names.lookup y = some .local := by rfl) (hk : X.env.scope.kind = .function := by rfl) (hl : (py.line == pos.line) = true := by rfl)
    (ha : (scope.names.any fun (n, k) => n == y && (k == .local || k == .cell)) = false := by rfl)
    (hsl : sl.all (fun i => (own.map (·.2)).contains i) = true := by rfl) (hs : ∀ x, foldedSetIterable iter X.env x = pure x := by intro _; rfl) :
    SS kt B X (.Assign [.Name y py] (.ListComp elt [⟨tg, iter, ifs, 0⟩] scope pos) spos) (dAsg (dLc (own.map (·.2)) di g dt de) (gSet i)) := fun Wish tk => by
  obtain ⟨wi, hwi, him⟩ := lc_imp (pt := pt) (pe := pe) (g := g) (dt := dt) (de := de) hi hsl tk
  refine (ps_setLc hc hN hy hyl (sw_true hk hyl hl ha) hwi (blkOk_by ok) hg (fun s H C cl fp => ht s H C cl fp _ takes_blk) (fun s H C cl fp => he s H C cl fp _ takes_blk) hs).imp fun D σ H ⟨W, env, G, e, A, h⟩ => ?_
  subst e
  refine him _ _ _ ⟨W, env, G, rfl, A, h.bindS.mono ?_⟩
  rintro v H1 ⟨W1, x, G1, rfl, e1, A1, z1, h1⟩
  exact h1 W1 _ ExtR.refl (A1.set z1.strict)
end
end CardH
end
section
set_option maxHeartbeats 2000000
namespace CardH
open PySem PySem.Spec PyProof.Rows L2 LamX

/-! ### enumerate(tuple) -/
theorem meets_enum1 {v : Value} {o : Obj} {H : Heap → Prop} (B : Begins v o H) :
    Meets (Builtin.«enumerate.__new__» ⟨[.type "enumerate", v], []⟩) (fun _ R s => H s.heap ∧
      R (.ok (.ret (.ref (s.heap.push o).objs.size))) { s with heap := (s.heap.push o).push { cls := .type "enumerate", data := .fields #[.none, .bool false, .ref s.heap.objs.size, rawInt 0, .none, .none] } }) :=
  .of_wp fun prog w A R s h => by
    obtain ⟨hp, g, d, tk, os⟩ := s; obtain ⟨h1, h⟩ := h
    have hsub := sub_enumerate
    have q1 : ∀ {A' : Around} {E : Value → Shared → Prop} {Q : Value → Shared → Prop}, Q (.ref hp.objs.size) ⟨hp.push o, g, d, tk, os⟩ → wpAny (model prog w) A' (pyIter v) Q E ⟨hp, g, d, tk, os⟩ :=
      fun q => B.iter prog w _ _ ⟨hp, g, d, tk, os⟩ _ h1 q
    wp_walk using q1
    refine wpAny_stack_any fun st => wpAny_pure ?_
    split
    · rename_i c _ _ _ _ _
      cases (c == Value.type "enumerate") <;> (wp_walk using q1; exact ⟨_, rfl, h⟩)
    · wp_walk using q1
      exact ⟨_, rfl, h⟩
theorem call_enum1 {prog : Program} {w : World} {A : Around} {E : Value → Shared → Prop} {s : Shared} {v : Value} {o : Obj} {H : Heap → Prop} {Q : Value → Shared → Prop} (B : Begins v o H) (h1 : H s.heap)
    (h : ∀ h', IsEnum h' (s.heap.objs.size + 1) s.heap.objs.size 0 .none → h'.get? s.heap.objs.size = some o → (∀ b o, s.heap.get? b = some o → h'.get? b = some o) → Q (.ref (s.heap.objs.size + 1)) { s with heap := h' }) :
    wpAny (model prog w) A (call (.type "enumerate") [v]) Q E s := by
  refine callType_new F.called_enumerate (by decide) (F.typeCall_enumerate_1 _) (F.newCall_enumerate_1 _) (fun obj => F.args_object_init_2 obj _) F.entry_enumerate_new (meets_enum1 B) ⟨h1, ?_⟩
  have hz : (s.heap.push o).objs.size = s.heap.objs.size + 1 := Heap.size_push ..
  show _ ∧ _
  rw [hz]
  have he : IsEnum ((s.heap.push o).push { cls := .type "enumerate", data := .fields #[.none, .bool false, .ref s.heap.objs.size, rawInt 0, .none, .none] }) (s.heap.objs.size + 1) s.heap.objs.size 0 .none := by
    have := Heap.get?_push_size (s.heap.push o) (o := { cls := .type "enumerate", data := .fields #[.none, .bool false, .ref s.heap.objs.size, rawInt 0, .none, .none] }) rfl
    rw [hz] at this; exact this
  exact ⟨⟨_, he, rfl⟩, h _ he (Heap.get?_push_of_some _ (Heap.get?_push_size _ B.free)) fun b o x => Heap.get?_push_of_some _ (Heap.get?_push_of_some _ x)⟩
/-- the tuple at a, each item in a new pair -/
def IteT (K : PySem.W.Frag) (a : Addr) : It :=
  ⟨fun i H => ∃ (xs : List V) (x : V), SqT K H a xs ∧ xs[i]? = some x, fun i H v H' => ∃ T x, v = .ref T ∧ H T = none ∧ H' = upd H T (.tup [.int (i : Nat), x]) ∧ ∀ xs, SqT K H a xs → xs[i]? = some x, fun i H => ∃ xs : List V, SqT K H a xs ∧ xs.length = i⟩
theorem turn_enumT {P : Program} {w : World} {K : PySem.W.Frag} {elts : List Expr} {kk : Nat} {tpos : Pos} (a e it : Addr) :
    Turn P w K (.Tuple elts kk tpos) (IteT K a) [e, it] e (fun i h => (∃ old, IsEnum h e it ((i : Nat) : Int) old) ∧ h.IsTupleIter it a i ∧ e ≠ it ∧ e ≠ a ∧ a ≠ it) where
  mem := by simp
  obj := fun i h st b hb => by
    obtain ⟨⟨old, he⟩, ⟨o, ho, hc, hd⟩, _⟩ := st
    have e' : b = e ∨ b = it := by simpa using hb
    rcases e' with z | z
    · rw [z]; exact ⟨_, he, fun v q => nomatch q⟩
    · rw [z]; exact ⟨o, ho, fun v q => by rw [hd] at q; cases q⟩
  keep := fun i h h' st k => let ⟨⟨old, he⟩, hi, hne⟩ := st; ⟨⟨old, k e (by simp) _ he⟩, hi.at fun o q => k it (by simp) o q, hne⟩
  item := by
    intro X hP hw hK hc i pins s σ H E I hf st hg
    subst hP hw hK
    obtain ⟨⟨old, he⟩, hit, hne, hea, hai⟩ := st
    obtain ⟨xs, x, hq, hx⟩ := hg
    obtain ⟨its, rv, p, hz⟩ := I.tuple hq
    obtain ⟨u, hu, ru⟩ := rv.get hx
    have hel : e < s.heap.objs.size := Heap.lt_size he
    have hil : it < s.heap.objs.size := by obtain ⟨_, q, _⟩ := hit; exact Heap.lt_size q
    have hi : i < its.toArray.size := by simpa using (List.getElem?_eq_some_iff.mp hu).1
    have D := Draws.tuple (prog := X.prog) (w := X.w) (A := X.A.in1) (I.ok.hd hc) it a hai its.toArray
    refine wpAny_pyNext_enum_itemD D he ⟨hit, p⟩ hi hne (by simp [hne, hea]) fun y h' tk hy ho hit' hT hsz hk => ?_
    have ey : y = u := by
      have hy : its.toArray[i]? = some y := hy
      rw [show its.toArray[i]? = its[i]? by simp, hu] at hy
      exact (Option.some.inj hy).symm
    subst ey
    refine ⟨_, rfl, wpAny_letOwnedTupleGo_enum (s := { s with heap := h', toks := tk + 1 }) ho fun h'' he' sb => ?_⟩
    have hT2 : h''.get? s.heap.objs.size = some { cls := .type "tuple", data := .seq #[.int i tk, y] } := (sb.2 _ (Nat.ne_of_gt hel)).trans hT
    have new : ObjOk X.prog X.w (upd H s.heap.objs.size (.tup [.int (i : Nat), x])) h'' s.heap.objs.size (.tup [.int (i : Nat), x]) :=
      ⟨by show 2 ≤ sizeLine; decide, [.int i tk, y], .cons ⟨_, rfl⟩ (.cons ru .nil), ⟨_, hT2, rfl, _, rfl⟩⟩
    have I1 : Inv X pins σ (upd H s.heap.objs.size (.tup [.int (i : Nat), x])) { s with heap := h'', toks := tk + 1 } :=
      I.turnedNew (ch := [e, it]) (fun b ob hb q => (sb.2 b (fun z => hb (by simp [z]))).trans (hk b ob (fun z => hb (by simp [z])) (fun z => hb (by simp [z])) q)) hf (Nat.le_refl _) new
    refine ⟨.ref s.heap.objs.size, _, I1, rfl, ⟨_, x, rfl, I.hok.fresh (Nat.le_refl _), rfl, fun ys hy => by rw [I.tuple_inj hy hq]; exact hx⟩, ⟨⟨y, ?_⟩, hit'.1.at fun o q => (sb.2 it (Ne.symm hne)).trans q, hne, hea, hai⟩, fun b hb => ?_⟩
    · have e1 : ((i + 1 : Nat) : Int) = (i : Int) + 1 := by omega
      rw [e1]; exact he'
    · have hb' : b < s.heap.objs.size := by
        have e' : b = e ∨ b = it := by simpa using hb
        rcases e' with z | z
        · rw [z]; exact hel
        · rw [z]; exact hil
      rw [upd_ne (Nat.ne_of_lt hb')]
      exact (hf b hb).1
  done := by
    intro X hP hw hK hc i pins s σ H E I hf st hg
    subst hP hw hK
    obtain ⟨⟨old, he⟩, hit, hne, hea, hai⟩ := st
    obtain ⟨xs, hq, hx⟩ := hg
    obtain ⟨its, rv, p, hz⟩ := I.tuple hq
    obtain ⟨f0, f1, f2, f3, f4, f5⟩ := hf it (by simp)
    have hl := rv.length
    have ei : its.toArray.size = i := by simp; omega
    have D := Draws.tuple (prog := X.prog) (w := X.w) (A := X.A.in1) (I.ok.hd hc) it a hai its.toArray
    exact wpAny_pyNext_enum_endD D he (by rw [ei]; exact ⟨hit, p⟩) fun h' eb => ⟨rfl, I.turned (t' := s.toks) (fun b o hb q => eb b o hb q) f0 f1 f3 f4 f5⟩
  self := fun A i s Q E st h => let ⟨⟨_, he⟩, _⟩ := st; wpAny_pyIter_enum he h
theorem walk_enumT {K : PySem.W.Frag} {a : Addr} {xs : List V} : Walk (IteT K a) xs.length (fun H => SqT K H a xs) (YPair (fun i => some (.int (i : Nat))) (fun i => xs[i]?)) := by
  refine ⟨fun i _ hi q => ⟨xs, xs[i], q, by simp [hi]⟩, fun _ q => ⟨xs, q, rfl⟩, fun i H v H' _ q y => ?_⟩
  obtain ⟨T, x, h1, h2, h3, h4⟩ := y
  exact ⟨T, .int (i : Nat), x, h1, h2, h3, rfl, h4 xs q⟩
def iEnumT (K : PySem.W.Frag) (ta : TA) : TI := fun σ H R => ta σ H fun vs H1 => ∃ a xs, vs = [.ref a] ∧ ((SqL K H1 a xs ∧ R (Ite K a) H1) ∨ (SqT K H1 a xs ∧ R (IteT K a) H1))
theorem pi_enumT {X : Cx} {e : Expr} {ta : TA} {p pos tpos : Pos} {elts : List Expr} {kk : Nat} (hg : Gl X "enumerate") (hm : X.mg "enumerate" = none) (ha : PA X [e] ta) (hs : starEach [e] X.env = [(false, eval e X.env)] := by rfl) :
    PI X (.Tuple elts kk tpos) (.Call (.Name "enumerate" p) [e] [] pos) (iEnumT X.K ta) := by
  refine ⟨fun pins s σ H R I h => ?_⟩
  refine Call_ (ld_blt I hg hm boot_enumerate (PyProof.Rows.callWith_type1 (thn (ha.run pos pins s σ H _ I h) fun us s1 ⟨vs, H1, I1, r1, q1⟩ => ?_) hs rfl))
  obtain ⟨a, xs, ex, hq⟩ := q1
  subst ex
  cases r1 with
  | cons r rr =>
    cases rr
    cases r
    have mem : ∀ b ∈ [s1.heap.objs.size + 1, s1.heap.objs.size], s1.heap.objs.size ≤ b := fun b hb => by
      have e' : b = s1.heap.objs.size + 1 ∨ b = s1.heap.objs.size := by simpa using hb
      rcases e' with z | z <;> (rw [z]; first | exact Nat.le_add_right _ _ | exact Nat.le_refl _)
    rcases hq with ⟨hq, q⟩ | ⟨hq, q⟩
    · obtain ⟨its, rv, p', hz⟩ := I1.list hq
      refine call_enumerate_list p'.isList fun h' he hit hsz hk => wpAny_pyIter_enum he ?_
      have I2 : Inv X pins σ H1 { s1 with heap := h' } := I1.kept (t' := s1.toks) hk
      exact ⟨s1.heap.objs.size + 1, [s1.heap.objs.size + 1, s1.heap.objs.size], _, _, H1, rfl, I2, turn_enum a (s1.heap.objs.size + 1) s1.heap.objs.size, ⟨⟨.none, he⟩, hit, Nat.succ_ne_self _⟩, fun b hb => I1.fpOk (mem b hb) (I1.hok.fresh (mem b hb)), q⟩
    · obtain ⟨its, rv, p', hz⟩ := I1.tuple hq
      have hal : a < s1.heap.objs.size := by obtain ⟨_, z, _⟩ := p'; exact Heap.lt_size z
      refine call_enum1 (begins_tuple a its.toArray) p' fun h' he hit hk => wpAny_pyIter_enum he ?_
      have I2 : Inv X pins σ H1 { s1 with heap := h' } := I1.kept (t' := s1.toks) hk
      exact ⟨s1.heap.objs.size + 1, [s1.heap.objs.size + 1, s1.heap.objs.size], _, _, H1, rfl, I2, turn_enumT a (s1.heap.objs.size + 1) s1.heap.objs.size, ⟨⟨.none, he⟩, ⟨_, hit, rfl, rfl⟩, Nat.succ_ne_self _, Nat.ne_of_gt (Nat.lt_succ_of_lt hal), Nat.ne_of_lt hal⟩, fun b hb => I1.fpOk (mem b hb) (I1.hok.fresh (mem b hb)), q⟩
def enOfT : List Vl → Option (List Vl)
  | [.lst xs] => some (enL 0 xs)
  | [x] => (itemsOf x).map (enL 0)
  | _ => none
section
variable {kt : Kt} {B : Bs} {X : Cx} {p : Bool} {e : Expr} {ds : DA} {pos np : Pos}
theorem si_enT {elts : List Expr} {kk : Nat} {tpos : Pos} (ha : SAm kt B X p .s [e] ds) (hg : Gl X "enumerate" := by rfl) (hm : X.mg "enumerate" = none := by rfl) (hs : starEach [e] X.env = [(false, eval e X.env)] := by rfl) (hK : X.K = kt.K := by rfl) :
    SI kt B X p (.Tuple elts kk tpos) (.Call (.Name "enumerate" np) [e] [] pos) (diRng enOfT ds) := fun Wish tk => by
  refine ⟨_, pi_enumT hg hm (ha Wish tk) hs, fun σ H R ⟨W, env, G, e, A, h⟩ => ?_⟩
  subst e
  refine ⟨W, env, G, rfl, A, (bindI (Z := fun W x v => PkS kt.K W .s x v) (f := fun x _ => enOfT x) h).mono ?_⟩
  rintro vs H1 ⟨W1, xs, G1, ys, rfl, A1, z1, ef, hr⟩
  have fin : ∀ (zs : List Vl) (us : List V) (a : Addr) (Gd : Hp → Prop) (J : It), Reps kt.K W1 zs us → (∀ W'', ExtS W1 W'' → Gd W''.H) → Walk J us.length Gd (YPair (fun i => some (.int (i : Nat))) (fun i => us[i]?)) → ys = enL 0 zs → R J W1.H := by
    intro zs us a Gd J r hq wk ey
    subst ey
    refine hr _ _ _ (by rw [enL_length, r.length]; exact wk) ⟨hq, fun i H x H' hi y W'' e2 eh => ?_⟩
    obtain ⟨T, w1, w2, rfl, hT, rfl, e3, e4⟩ := y
    cases e3
    obtain ⟨y', h1, h2⟩ := (Reps.extR e2 rfl rfl _ _ r).get' e4
    refine ⟨.stp [.int i, y'], by rw [enL_get, h1]; simp, .inr ⟨T, _, rfl, hT, rfl, ?_⟩⟩
    have hT' : W''.H T = none := by rw [eh]; exact hT
    exact ⟨T, _, rfl, upd_same, _, _, rfl, rfl, _, _, rfl, h2.ext (Ext.alloc hT'), rfl⟩
  unfold enOfT at ef
  split at ef
  · rename_i zs
    cases ef
    obtain ⟨v, rfl, z2⟩ := z1.one
    obtain ⟨a, us, rfl, r, hq⟩ := rep_sqL (W' := W1) z2.strict
    rw [hK]
    exact ⟨a, us, rfl, .inl ⟨hq W1 ExtR.refl, fin zs us a _ _ r hq walk_enum rfl⟩⟩
  · rename_i x _
    obtain ⟨v, rfl, z2⟩ := z1.one
    obtain ⟨zs, e1, rfl⟩ := Option.map_eq_some_iff.mp ef
    obtain ⟨a, us, rfl, r, hq⟩ := rep_sqT z2.strict e1
    rw [hK]
    exact ⟨a, us, rfl, .inr ⟨hq W1 ExtR.refl, fin zs us a _ _ r hq walk_enumT rfl⟩⟩
  · cases ef
end
end CardH
end
section
set_option maxHeartbeats 2000000
namespace CardH
open PySem PySem.Spec PyProof.Rows L2 LamX GenW

/-! ### a generator expression's block: a frame of its own, under whoever draws from it -/
def gEnv (X : Cx) (scope : Scope) (C : Addr) (code : Value) : Env := genEnv scope (cloFrom X.env.cells scope.names []) C code builtinsNs X.env
def gcx (X : Cx) (A : Around) (s : Shared) (H : Hp) (scope : Scope) (code : Value) (fp : List Addr) (pn : List (Addr × Obj)) : Cx where
  prog := X.prog
  w := X.w
  K := X.K
  mg := X.mg
  base := X.base
  A := A.deeper (gEnv X scope s.heap.objs.size code)
  N := X.N
  s_0 := s
  H_0 := H
  env := gEnv X scope s.heap.objs.size code
  outer := X.stack
  stack := gEnv X scope s.heap.objs.size code :: X.stack
  ex := fp
  fn := fun _ => false
  calm := true
  pn := pn
  xe := fun _ _ => False
theorem takes_gx {X : Cx} {A : Around} {s : Shared} {H : Hp} {scope : Scope} {code : Value} {fp : List Addr} {pn : List (Addr × Obj)} : Takes (gcx X A s H scope code fp pn) (fun _ _ _ _ => False) := fun u s' ⟨a, B, sI, pins, σ, H, cls, d, _, _, _, _, _, _, _, _, w⟩ => w
/-- the block's names are told, no cell among them -/
def gblkC (N : List Str) (sc scope : Scope) (own : List (Str × Nat)) : Bool := blkC N sc scope own && scope.names.all fun y => y.2 != .cell
section
variable {X : Cx} {pins : List (Addr × Obj)} {σ : L2.St} {H : Hp} {s : Shared}
theorem gen_start {A : Around} {scope : Scope} {own : List (Str × Nat)} {fp : List Addr} {code : Value} {h1 : Heap} {it : Value} {g1 : Array GenState} {d1 : Drawn} {tk : Nat} (I : Inv X pins σ H s) (ok : BlkOk X.N X.env.scope scope own) (hN : X.N.Nodup) (hnc : ∀ y ∈ scope.names, y.2 ≠ .cell)
    (hfp : ∀ b ∈ fp, FpOk X pins H b ∧ b < s.heap.objs.size) (hd : A.handled = none) (hfr : A.frames = some X.stack) (hns : h1.Ns s.heap.objs.size fun y => if y = ".0" then some it else none) (kp : ∀ b o, s.heap.get? b = some o → h1.get? b = some o) (hb : AllBare g1) :
    Inv (gcx X A s H scope code fp []) [] (wipe σ (own.map (·.2))) H { s with heap := h1, gens := g1, drawn := d1, toks := tk } := by
  have hfree : ∀ y ∈ scope.names, y.2 = .free → ∃ c, X.env.cells.lookup y.1 = some c := fun y hy e => by
    rcases ok.free y hy e with k | k
    · exact I.ok.has _ (.inl k)
    · exact I.ok.has _ (.inr k)
  have cm : ∀ {y c}, (cloFrom X.env.cells scope.names []).lookup y = some c → X.env.cells.lookup y = some c := fun {y c} e => by
    rcases cloFrom_mem (PySem.mem_of_lookup e) with hm | ⟨h1, h2⟩
    · cases hm
    · obtain ⟨c1, hc⟩ := hfree _ h1 rfl
      have hc : X.env.cells.lookup y = some c1 := hc
      have e2 : c = c1 := by
        rw [h2, hc] <;> rfl
      rw [e2]
      exact hc
  have look : ∀ {y}, scope.names.lookup y = some .free → ∃ c, (cloFrom X.env.cells scope.names []).lookup y = some c := fun {y} hl =>
    mem_lookup (cloFrom_has (cells := X.env.cells) (acc := []) (PySem.mem_of_lookup hl))
  refine ⟨⟨I.ok.mod, ok.kind, I.ok.glob, rfl, Nat.le_refl _, fun y z c e1 e2 => I.ok.inj y z c (cm e1) (cm e2), fun y hy => ?_, fun y c z _ => absurd (show false = true from z) Bool.false_ne_true, fun _ => hd, Around.frames_deeper hfr, .inr ⟨rfl, rfl⟩, fun b hb' => ⟨?_, fun y c e z => ?_⟩, I.bs, Nat.le_trans I.ok.bsz I.sz, fun b o e hb' => ?_, fun b hb' z => ?_, I.stack, I.stkFree⟩,
    rfl, hb, Un.kept kp, ⟨_, hns, fun i y v e1 e2 e3 => ?_⟩, fun y c e => ?_, I.hok.fresh (Nat.le_refl _), fun y c e => ?_, fun q hq => absurd (show q ∈ ([] : List (Addr × Obj)) ++ [] from hq) (by simp), I.hok.kept kp, by rw [wipe_length]; exact I.len⟩
  · have hy : scope.names.lookup y = some .cell ∨ scope.names.lookup y = some .free := hy
    rcases hy with hy | hy
    · exact absurd rfl (hnc _ (PySem.mem_of_lookup hy))
    · exact look hy
  · exact Nat.ne_of_lt (hfp b hb').2
  · exact (hfp b hb').1.2.2.2.2.1 y c (cm e) z
  · rcases (hfp b hb').1.2.2.2.1 with z | z
    · exact I.ok.noex b o e z
    · exact absurd (Nat.lt_of_lt_of_le (Heap.lt_size e) (Nat.le_trans I.ok.bsz z)) (Nat.lt_irrefl _)
  · rcases List.mem_cons.mp (I.stkSub b z) with z | z
    · exact (hfp b hb').1.2.1 z
    · exact (hfp b hb').1.2.2.1 z
  · obtain ⟨e2, hne⟩ := wipe_some e2
    have e3 : Vis scope y := e3
    have no : ∀ k, scope.names.lookup y = some k → ¬ (k = .local ∨ k = .cell) := fun k e hh => by
      rcases ok.own _ (PySem.mem_of_lookup e) hh with e' | e'
      · obtain ⟨p, hp, hpy⟩ := List.mem_map.mp e'
        have e3 := ok.ix p hp
        have : p.1 = y := hpy
        rw [this] at e3
        exact hne (List.mem_map.mpr ⟨p, hp, nodup_ix hN e3 e1⟩)
      · exact e' (List.mem_of_getElem? e1)
    rcases e3 with k | k | k
    · exact absurd (.inl rfl) (no _ k)
    · exact absurd (.inr rfl) (no _ k)
    · obtain ⟨m, hn, hl⟩ := I.loc
      have hvis : Vis X.env.scope y := (ok.free _ (PySem.mem_of_lookup k) rfl).elim (fun k => .inr (.inl k)) (fun k => .inr (.inr k))
      obtain ⟨w', r, q⟩ := hl i y v e1 e2 hvis
      obtain ⟨c2, h2⟩ := look k
      refine ⟨w', r, .inr ⟨.inr k, c2, h2, ?_⟩⟩
      have c1 := cm h2
      rcases q with ⟨k', _⟩ | ⟨_, c3, e', z⟩
      · have k' : X.env.scope.names.lookup y = some .local := k'
        rcases ok.free _ (PySem.mem_of_lookup k) rfl with k2 | k2 <;> rw [show X.env.scope.names.lookup y = _ from k2] at k' <;> cases k'
      · rw [c1] at e'; cases e'
        exact z.keeps kp
  · obtain ⟨v, z⟩ := I.cell y c (cm e)
    exact ⟨v, z.keeps kp⟩
  · exact I.freeC y c (cm e)
end
section
variable {X : Cx} {pins : List (Addr × Obj)} {σ : L2.St} {H : Hp} {s : Shared}
/-- its code object, with the table's other code objects -/
theorem gcode_new {T : List (Addr × Str)} {c P : Addr} {scope : Scope} {pos : Pos} {E : Value → Shared → Prop} {Q : Value → Shared → Prop} (I : Inv X pins σ H s) (TB : LamX.TabB X.base X.mg c P) (hcode : X.env.code = .ref c)
    (hm : (P, X.env.qual ++ "<genexpr>") ∈ T) (hu : ∀ p ∈ T, p.1 = P → p.2 = X.env.qual ++ "<genexpr>") (hT : Tabs T H)
    (k : ∀ (cv : Value) (H1 : Hp) (s' : Shared), Inv X pins σ H1 s' → Grown T H H1 → s.heap.objs.size ≤ s'.heap.objs.size → (∀ b, H b = none → b < s.heap.objs.size → H1 b = none) → (∀ b o, H b = none → s.heap.get? b = some o → s'.heap.get? b = some o) → Q cv s') :
    wpAny (model X.prog X.w) X.A (genexprCode X.env pos (X.env.qual ++ "<genexpr>") scope) Q E s := by
  obtain ⟨ps, atP, trip, among⟩ := hT _ hm
  have get : s.heap.get? P = some { cls := .none, data := .fields ps } := I.hok P _ atP
  have cd : PySem.W.CodeHd s.heap c P := TB.code.keeps I.bk
  cases e : codeAmong pos ps.toList with
  | none =>
    refine wpAny_genexprCodeX hcode (cd.code get trip) (cd.tab get) e fun c' h' tk hx hge hlt hco' hrec htab' _ => ?_
    obtain ⟨c2, oc, vs, t, e2, hoc, hd, hv⟩ := hrec
    cases e2
    have htb : h'.get? P = some { cls := .none, data := .fields (ps ++ #[rawInt pos.line, rawInt pos.col, .ref c']) } := htab'.2
    have new : H c' = none := I.hok.fresh hge
    have nPc : P ≠ c' := ne_of_none atP new
    have J := inv_table (t' := tk) (more := #[rawInt pos.line, rawInt pos.col, .ref c']) (h' := h') I atP (fun b o hb q => hx b o hb q) htb hge ⟨oc, vs, t, hoc, hd, hv⟩
    generalize hG : upd (upd H P (.tbl (ps ++ #[rawInt pos.line, rawInt pos.col, .ref c']))) c' (CodeO c' (X.env.qual ++ "<genexpr>")) = H1 at J
    have at1 : H1 c' = some (CodeO c' (X.env.qual ++ "<genexpr>")) := by rw [← hG]; exact upd_same
    have at2 : H1 P = some (.tbl (ps ++ #[rawInt pos.line, rawInt pos.col, .ref c'])) := by rw [← hG, upd_ne nPc]; exact upd_same
    have at3 : ∀ b, b ≠ c' → b ≠ P → H1 b = H b := fun b n1 n2 => by rw [← hG, upd_ne n1, upd_ne n2]
    have ex : ExtN H H1 := by
      intro b o q n
      have n2 : b ≠ P := by rintro rfl; rw [atP] at q; exact n ps (Option.some.inj q).symm
      rw [at3 b (ne_of_none q new) n2]; exact q
    refine k (.ref c') H1 _ J ⟨ex, ?_, fun b hb => ?_, fun b qs q => ?_⟩ (Nat.le_trans hge (Nat.le_of_lt hlt)) (fun b hb hl => ?_) fun b o hb q => hx b o (fun z => by rw [z, atP] at hb; cases hb) q
    · intro p hp
      by_cases hb : p.1 = P
      · rw [hu p hp hb, hb]
        refine ⟨_, at2, ?_, fun p' cv hcv => ?_⟩
        · rw [Array.toList_append]; exact PySem.TriplesOk_snoc _ _ _ _ trip
        · rw [Array.toList_append] at hcv
          rcases among_app _ trip hcv with z | z
          · obtain ⟨c0, q1, q2⟩ := among p' cv z
            exact ⟨c0, q1, ex _ _ q2 codeO_ne⟩
          · exact ⟨c', z, at1⟩
      · obtain ⟨qs, a1, a2, a3⟩ := hT p hp
        refine ⟨qs, by rw [at3 _ (ne_of_none a1 new) hb]; exact a1, a2, fun p' cv hcv => ?_⟩
        obtain ⟨c0, q1, q2⟩ := a3 p' cv hcv
        exact ⟨c0, q1, ex _ _ q2 codeO_ne⟩
    · by_cases z : b = P
      · subst z; rw [at2]; simp
      · by_cases z' : b = c'
        · subst z'; exact absurd new hb
        · rw [at3 b z' z]; exact hb
    · by_cases z : b = P
      · subst z; exact ⟨_, at2⟩
      · exact ⟨qs, by rw [at3 b (ne_of_none q new) z]; exact q⟩
    · rw [at3 b (Nat.ne_of_lt (Nat.lt_of_lt_of_le hl hge)) (fun z => by rw [z, atP] at hb; cases hb)]; exact hb
  | some cv =>
    refine wpAny_genexprCode_hit hcode (cd.code get trip) e ?_
    exact k cv H s I ⟨ExtN.refl H, hT, fun _ h => h, fun b qs q => ⟨qs, q⟩⟩ (Nat.le_refl _) (fun _ h _ => h) fun _ _ _ q => q
/-- the code of a generator expression, as a frame -/
theorem over_gen {A : Around} {elt target iter : Expr} {ifs : List Expr} {scope : Scope} {pos : Pos} {it acc : Value} {env : Env} :
    A.over (.compLoop (.GeneratorExp elt [⟨target, iter, ifs, 0⟩] scope pos) 0 it acc env) [] = A.deeper env := by
  first
    | rfl
    | (obtain ⟨hd, d, fr, gs, u⟩ := A; simp [Around.over, Around.deeper, marksOver, frameCount, unitsOf, envsOf, guardsOf, pushEnvs, pushGuards, Code.envs, Code.env?, Code.isFrame, Code.guards, Code.isGuard, Code.weight, Code.frames, Code.isCreation, Code.isCaller, Code.cUnits])
theorem over_genS {A : Around} {elt target iter : Expr} {ifs : List Expr} {scope : Scope} {pos : Pos} {it acc : Value} {env : Env} :
    A.over (.compStart (.GeneratorExp elt [⟨target, iter, ifs, 0⟩] scope pos) 0 it acc env) [] = A.deeper env := by
  first
    | rfl
    | (obtain ⟨hd, d, fr, gs, u⟩ := A; simp [Around.over, Around.deeper, marksOver, frameCount, unitsOf, envsOf, guardsOf, pushEnvs, pushGuards, Code.envs, Code.env?, Code.isFrame, Code.guards, Code.isGuard, Code.weight, Code.frames, Code.isCreation, Code.isCaller, Code.cUnits])
end
/-! ### who draws from it -/
/-- while the generator sleeps its consumer writes at sl alone -/
structure GMoved (sl : List Addr) (s s' : Shared) : Prop where
  os : s'.os = s.os
  bare : AllBare s'.gens
  keep : ∀ b o, b ∉ sl → s.heap.get? b = some o → s'.heap.get? b = some o
theorem GMoved.trans {sl : List Addr} {a b c : Shared} (x : GMoved sl a b) (y : GMoved sl b c) : GMoved sl a c := ⟨y.os.trans x.os, y.bare, fun d o h e => y.keep d o h (x.keep d o h e)⟩
theorem inv_moved {X : Cx} {sl : List Addr} {pl ps ps' : List (Addr × Obj)} {σ : L2.St} {H : Hp} {s s' : Shared} (hsl : ∀ b ∈ sl, X.s_0.heap.objs.size ≤ b ∧ b ≠ X.env.locals ∧ b ∉ X.fs ∧ (∀ x c, X.env.cells.lookup x = some c → c ≠ b) ∧ ∀ p ∈ X.pn ++ pl, p.1 ≠ b)
    (I : Inv X (ps ++ pl) σ H s) (hps : ps.map (·.1) = sl) (z : GMoved sl s s') (hps' : ∀ p ∈ ps', p.1 ∈ sl ∧ s'.heap.get? p.1 = some p.2 ∧ ∀ v, p.2.data ≠ .cell v) : Inv X (ps' ++ pl) σ H s' := by
  have hH : ∀ b ∈ sl, H b = none := fun b hb => by
    rw [← hps] at hb
    obtain ⟨p, hp, rfl⟩ := List.mem_map.mp hb
    exact (I.pin p (List.mem_append_right _ (List.mem_append_left _ hp))).2.1
  have I0 : Inv X pl σ H s := I.pins_of fun p hp => I.pin p (List.mem_append_right _ (List.mem_append_right _ hp))
  have nt : ∀ b u, H b = some u → b ∉ sl := fun b u q hb => by rw [hH b hb] at q; cases q
  obtain ⟨z1, z2, z3⟩ := z
  obtain ⟨hh, g, d, t, o⟩ := s'
  have ho : o = s.os := z1
  subst ho
  have J : Inv X pl σ H { s with heap := hh, gens := g, drawn := d, toks := t } := by
    refine I0.step (g' := g) (t' := t) (d' := d) (ch := sl) (fun b hb => ⟨.inr (hsl b hb).1, (hsl b hb).2.1, (hsl b hb).2.2.2.1, (hsl b hb).2.2.2.2⟩)
      (fun b ob _ _ hc q _ => z3 b ob hc q) (fun b ob _ _ hc q _ => ⟨ob.slots, z3 b ob hc q⟩) (fun _ _ _ _ n => n) (fun b ob hc q => ⟨ob, z3 b ob hc q⟩)
      (fun _ _ q => q) (fun _ _ _ q => q) (fun b ps q => ⟨#[], by rw [q]; simp⟩) (fun m hm => ?_) (fun b u q => ?_) z2
    · obtain ⟨ob, es, ep, ho, r⟩ := hm
      exact ⟨ob, es, ep, z3 _ ob (fun hb => (hsl _ hb).2.1 rfl) ho, r⟩
    · refine (I0.hok b u q).stay (fun c v hc y => z3 c v ?_ y) (fun _ y => y) fun _ _ y => y
      rcases hc with y | y
      · rw [y]; exact nt b u q
      · exact nt c _ y
  refine J.pins_of fun p hp => ?_
  rcases List.mem_append.mp hp with hp | hp
  · obtain ⟨h1, h2, h3⟩ := hps' p hp
    exact ⟨h2, hH _ h1, (hsl _ h1).2.1, (hsl _ h1).2.2.1, h3⟩
  · exact J.pin p (List.mem_append_right _ hp)
section
variable {α : Type} (step : α → V → Option (α ⊕ V)) (fin : α → V) (cp : α → List (Addr × Obj) → Prop) (sl : List Addr) (a g : Addr) (Fin : V → Shared → Prop)
def GYx : Protocol := fun n s₀ v s kap => AllBare s.gens ∧ s.heap.NoLimit ∧ s.heap.IsGen a g ∧ ∃ acc ps y, cp acc ps ∧ (∀ p ∈ ps, s₀.heap.get? p.1 = some p.2 ∧ s.heap.get? p.1 = some p.2) ∧ RelV y v ∧
  match step acc y with
  | none => False
  | some (.inr r) => Fin r s
  | some (.inl acc') => ∀ s' ps', cp acc' ps' → (∀ p ∈ ps', s'.heap.get? p.1 = some p.2 ∧ ∀ v, p.2.data ≠ .cell v) → GMoved sl s s' → kap (.send .none) s'
def GRx : GenEnd := fun n s₀ r s => ((r = .ok (.ret .none) ∨ r = .ok .next) ∧ AllBare s.gens ∧ ∃ acc ps, cp acc ps ∧ (∀ p ∈ ps, s₀.heap.get? p.1 = some p.2 ∧ s.heap.get? p.1 = some p.2) ∧ Fin (fin acc) s) ∨ ∃ e, r = .error e ∧ False
end
theorem thn0 {α : Type} {t : Sem α} {Q Q' : α → Shared → Prop} {M : Model} {A : Around} {E E' : Value → Shared → Prop} {s : Shared} (hE : E = fun _ _ => False) (h : wpAny M A t Q E s) (hQ : ∀ a s, Q a s → Q' a s) : wpAny M A t Q' E' s := wpAny_mono h hQ fun _ _ z => False.elim (by rw [hE] at z; exact z)
/-- the turns of a generator expression, and what its consumer makes of the items; W by the turn, a measure and what the consumer has -/
def gTurns {α : Type} (step : α → V → Option (α ⊕ V)) (fin : α → V) (J : It) (g : TG) (tt : TT) (te : TE) (σ0 : L2.St) (vs : List Nat) (Q : VK) (W : Nat → Nat → α → Hp → Prop) : Prop := ∀ i m acc H, W i m acc H →
  (J.stop i H ∧ Q (fin acc) H) ∨ (J.go i H ∧ ∃ Nx : α → Hp → Prop, (∀ acc' H', Nx acc' H' → ∃ m', m' < m ∧ W (i + 1) m' acc' H') ∧ ∀ x H', J.yld i H x H' → g x σ0 H' fun σ2 H2 => wipe σ2 vs = σ0 ∧ tt σ2 H2 fun b H3 =>
    if b = true then te σ2 H3 fun y H4 => (match step acc y with
      | none => False
      | some (.inl acc') => Nx acc' H4
      | some (.inr r) => Q r H4) else Nx acc H3)
section
variable {X : Cx} {A : Around} {s0 : Shared} {H0 : Hp} {scope : Scope} {code : Value} {fp : List Addr} {pn : List (Addr × Obj)} {tg iter elt : Expr} {ifs : List Expr} {pos : Pos} {J : It} {it : Addr} {tn : Nat → Heap → Prop} {g : TG} {tt : TT} {te : TE} {σ0 : L2.St} {vs : List Nat} {Q : VK}
  {α : Type} {step : α → V → Option (α ⊕ V)} {fin : α → V} {cp : α → List (Addr × Obj) → Prop} {sl : List Addr} {a gi : Addr} {Fin : V → Shared → Prop} {W : Nat → Nat → α → Hp → Prop}
theorem seg_gx (hco : scope.isCoroutine = false) (T : Turn X.prog X.w X.K tg J fp it tn) (pg : PG (gcx X A s0 H0 scope code fp pn) tg g) (pt : PTs (gcx X A s0 H0 scope code fp pn) ifs tt) (pe : PE (gcx X A s0 H0 scope code fp pn) elt te)
    (ht : gTurns step fin J g tt te σ0 vs Q W) (hw0 : wipe σ0 vs = σ0) (hcp : ∀ acc ps, cp acc ps → ps.map (·.1) = sl)
    (hsl : ∀ b ∈ sl, s0.heap.objs.size ≤ b ∧ b ≠ s0.heap.objs.size ∧ b ∉ frs X.stack ∧ (∀ x c, (cloFrom X.env.cells scope.names []).lookup x = some c → c ≠ b) ∧ b ∉ fp ∧ ∀ p ∈ pn, p.1 ≠ b) (hpf : ∀ p ∈ pn, p.1 ∉ fp)
    (hgen : ∀ s' : Shared, (∀ p ∈ pn, s'.heap.get? p.1 = some p.2) → s'.heap.IsGen a gi)
    (hfin : ∀ r acc ps pl σ' H' s', cp acc ps → (∀ p ∈ pl, p.1 ∈ fp) → Inv (gcx X A s0 H0 scope code fp pn) (ps ++ pl) σ' H' s' → Q r H' → Fin r s') :
    ∀ (m n i : Nat) (acc : α) (ps : List (Addr × Obj)) (s : Shared) (H : Hp) (s₀ : Shared), m < n → W i m acc H → cp acc ps → (∀ p ∈ ps, s₀.heap.get? p.1 = some p.2) → Inv (gcx X A s0 H0 scope code fp pn) ps σ0 H s → tn i s.heap → (∀ b ∈ fp, H b = none) →
      Seg (model X.prog X.w) A (GRx fin cp Fin) (GYx step cp sl a gi Fin) n s₀ (.compLoop (.GeneratorExp elt [⟨tg, iter, ifs, 0⟩] scope pos) 0 (.ref it) .none (gEnv X scope s0.heap.objs.size code))
        ((model X.prog X.w).den (.compLoop (.GeneratorExp elt [⟨tg, iter, ifs, 0⟩] scope pos) 0 (.ref it) .none (gEnv X scope s0.heap.objs.size code))) [] s := by
  have psl : ∀ {acc ps}, cp acc ps → ∀ p ∈ ps, p.1 ∈ sl := fun c p hp => by rw [← hcp _ _ c]; exact List.mem_map.mpr ⟨p, hp, rfl⟩
  have stat : ∀ {ps : List (Addr × Obj)} {σ' : L2.St} {H' : Hp} {s' : Shared}, Inv (gcx X A s0 H0 scope code fp pn) ps σ' H' s' → (∀ p ∈ ps, p.1 ∈ sl) → (∀ b ∈ fp, H' b = none) → ∀ b ∈ fp, FpOk (gcx X A s0 H0 scope code fp pn) ps H' b := fun {ps σ' H' s'} I' hp hn b hb =>
    ⟨hn b hb, (I'.ok.exf b hb).1, I'.ok.exfs b hb, .inl hb, fun x c e => (I'.ok.exf b hb).2 x c e, fun p hq => by
      have hq : p ∈ pn ++ ps := hq
      rcases List.mem_append.mp hq with q | q
      · exact fun z => hpf p q (by rw [z]; exact hb)
      · exact fun z => (hsl _ (hp p q)).2.2.2.2.1 (by rw [z]; exact hb)⟩
  intro m
  induction m using Nat.strongRecOn with
  | _ m ih =>
    intro n i acc ps s H s₀ hmn w cpa hs0 I st nf
    show Seg _ A _ _ _ s₀ _ ((compTurn (.GeneratorExp elt [⟨tg, iter, ifs, 0⟩] scope pos) 0 (.ref it) .none (gEnv X scope s0.heap.objs.size code)).onRaise (leaving (gEnv X scope s0.heap.objs.size code))) [] s
    rw [compTurn_gen, Sem.onRaise_eq_wrap]
    refine seg_bind_wrap (wpAny_standAt ?_)
    rcases ht i m acc H w with ⟨stop, q⟩ | ⟨go, Nx, hNx, hstep⟩
    · have td := T.done (gcx X A s0 H0 scope code fp pn) rfl rfl rfl rfl i ps s _ H (fun _ _ => False) I (stat I (psl cpa) nf) st stop
      refine seg_bind_wrap ?_
      rw [over_gen]
      refine thnF td fun r s6 ⟨hr, I6⟩ => ?_
      subst hr
      exact seg_end (.ok .next) (.inl ⟨.inr rfl, I6.bare, acc, ps, cpa, fun p hp => ⟨hs0 p hp, (I6.pin p (List.mem_append_right _ hp)).1⟩, hfin _ acc ps [] _ _ _ cpa (fun p hp => by cases hp) (by rw [List.append_nil]; exact I6) q⟩)
    · have ti := T.item (gcx X A s0 H0 scope code fp pn) rfl rfl rfl rfl i ps s _ H (fun _ _ => False) I (stat I (psl cpa) nf) st go
      refine seg_bind_wrap ?_
      rw [over_gen]
      refine thnF ti fun r s6 ⟨u, hr, h6⟩ => ?_
      subst hr
      show Seg _ A _ _ _ s₀ _ ((letOwnedTupleGo tg (.ref it) u >>= _).wrap _ _ _ _) [] s6
      refine seg_bind_wrap ?_
      rw [over_gen]
      refine thnF h6 fun _ s7 ⟨x, H7, I7, r7, y7, st7, n7⟩ => ?_
      have I7' := I7.pinned (stat I7 (psl cpa) n7) (T.obj _ _ st7)
      refine seg_bind_wrap ?_
      rw [over_gen]
      refine thn0 rfl (pg.run _ s7 _ H7 x u _ I7' r7 (hstep x H7 y7)) fun _ s8 ⟨σ8, H8, I8, hw8, q8⟩ => ?_
      refine seg_bind_wrap ?_
      rw [over_gen]
      refine thn0 rfl (pt.run _ s8 σ8 H8 _ I8 q8) fun b s9 ⟨H9, I9, q9⟩ => ?_
      have more : ∀ {ps' : List (Addr × Obj)} {s' : Shared} {H' : Hp}, Inv (gcx X A s0 H0 scope code fp pn) (ps' ++ pinsAt fp s7.heap) σ8 H' s' → Inv (gcx X A s0 H0 scope code fp pn) ps' σ0 H' s' ∧ tn (i + 1) s'.heap ∧ ∀ b ∈ fp, H' b = none := fun {ps' s' H'} I' => by
        have pin' : ∀ b ∈ fp, ∀ o, s7.heap.get? b = some o → s'.heap.get? b = some o ∧ H' b = none := fun b hb o e =>
          let z := I'.pin (b, o) (List.mem_append_right _ (List.mem_append_right _ (mem_pinsAt hb e)))
          ⟨z.1, z.2.1⟩
        have hl : σ0.length = σ8.length := by rw [← hw8, wipe_length]
        refine ⟨I'.unpinned.weak hl (fun j v e => ?_), T.keep _ _ _ st7 fun b hb o e => (pin' b hb o e).1, fun b hb => ?_⟩
        · rw [← hw8] at e
          exact (wipe_some e).1
        · obtain ⟨o, e, _⟩ := T.obj _ _ st7 b hb
          exact (pin' b hb o e).2
      cases b with
      | false =>
        simp only [Bool.false_eq_true, if_false] at q9 ⊢
        obtain ⟨m', hm, w'⟩ := hNx acc H9 q9
        obtain ⟨J1, J2, J3⟩ := more I9
        exact seg_again rfl (ih m' hm n (i + 1) acc ps s9 H9 s₀ (by omega) w' cpa hs0 J1 J2 J3)
      | true =>
        simp only [if_true] at q9 ⊢
        obtain ⟨k, rfl⟩ : ∃ k, n = k + 1 := ⟨n - 1, by omega⟩
        have hy : ∀ v, yieldOut (gEnv X scope s0.heap.objs.size code) v = yieldValue v := fun v => by
          have e : (gEnv X scope s0.heap.objs.size code).scope.isCoroutine = false := hco
          simp only [yieldOut, e, Bool.false_eq_true, if_false]
        simp only [hy]
        rw [Sem.bind_eq_wrap', Sem.bind_eq_wrap', Sem.wrap_wrap, Sem.wrap_wrap]
        refine seg_wrap ?_
        rw [over_gen]
        refine thn0 rfl (pe.run _ s9 σ8 H9 _ I9 q9) fun z s10 ⟨yv, H10, I10, r10, nx⟩ => ?_
        refine seg_at (seg_yield rfl rfl rfl ⟨I10.bare, I10.nolimit, hgen s10 fun p hp => (I10.pin p (List.mem_append_left _ hp)).1, acc, ps, yv, cpa, fun p hp => ⟨hs0 p hp, (I10.pin p (List.mem_append_right _ (List.mem_append_left _ hp))).1⟩, r10, ?_⟩)
        dsimp only at nx
        cases es : step acc yv with
        | none => rw [es] at nx; exact nx.elim
        | some o =>
          rw [es] at nx
          cases o with
          | inr r => exact hfin r acc ps _ _ _ _ cpa (fun p hp => (of_pinsAt hp).1) I10 nx
          | inl acc' =>
            intro s' ps' cpa' hp' hmv
            obtain ⟨m', hm, w'⟩ := hNx acc' H10 nx
            have I11 := inv_moved (sl := sl) (ps := ps) (ps' := ps') (pl := pinsAt fp s7.heap) (fun b hb => ⟨(hsl b hb).1, (hsl b hb).2.1, (hsl b hb).2.2.1, (hsl b hb).2.2.2.1, fun p hp => ?_⟩) I10 (hcp _ _ cpa) hmv fun p hp => ⟨psl cpa' p hp, hp' p hp⟩
            · obtain ⟨J1, J2, J3⟩ := more I11
              exact seg_again rfl (ih m' hm k (i + 1) acc' ps' s' H10 s' (by omega) w' cpa' (fun p hp => (hp' p hp).1) J1 J2 J3)
            · have hp : p ∈ pn ++ pinsAt fp s7.heap := hp
              rcases List.mem_append.mp hp with hp | hp
              · exact (hsl b hb).2.2.2.2.2 p hp
              · exact fun z => (hsl b hb).2.2.2.2.1 (by rw [← z]; exact (of_pinsAt hp).1)
end
end CardH
end
section
set_option maxHeartbeats 2000000
namespace CardH
open PySem PySem.Spec PyProof.Rows L2 LamX GenW

section
variable {X : Cx} {A : Around} {s0 : Shared} {H0 : Hp} {scope : Scope} {code : Value} {fp : List Addr} {pn : List (Addr × Obj)} {tg iter elt : Expr} {ifs : List Expr} {pos : Pos} {it : Addr} {tn : Nat → Heap → Prop}
theorem seg_start {R : GenEnd} {Y : Protocol} {n : Nat} {s₀ s : Shared} (st : tn 0 s.heap) (hself : ∀ (A : Around) (Q : Value → Shared → Prop) (E : Value → Shared → Prop), Q (.ref it) s → wpAny (model X.prog X.w) A (pyIter (.ref it)) Q E s)
    (loop : Seg (model X.prog X.w) A R Y n s₀ (.compLoop (.GeneratorExp elt [⟨tg, iter, ifs, 0⟩] scope pos) 0 (.ref it) .none (gEnv X scope s0.heap.objs.size code))
        ((model X.prog X.w).den (.compLoop (.GeneratorExp elt [⟨tg, iter, ifs, 0⟩] scope pos) 0 (.ref it) .none (gEnv X scope s0.heap.objs.size code))) [] s) :
    Seg (model X.prog X.w) A R Y n s₀ (.compStart (.GeneratorExp elt [⟨tg, iter, ifs, 0⟩] scope pos) 0 (.ref it) .none (gEnv X scope s0.heap.objs.size code))
        ((model X.prog X.w).den (.compStart (.GeneratorExp elt [⟨tg, iter, ifs, 0⟩] scope pos) 0 (.ref it) .none (gEnv X scope s0.heap.objs.size code))) [] s := by
  show Seg _ A _ _ _ s₀ _ ((compStart (.GeneratorExp elt [⟨tg, iter, ifs, 0⟩] scope pos) 0 (.ref it) .none (gEnv X scope s0.heap.objs.size code)).onRaise (leaving (gEnv X scope s0.heap.objs.size code))) [] s
  unfold compStart
  rw [Sem.onRaise_eq_wrap]
  show Seg _ A _ _ _ s₀ _ ((ask >>= _).wrap _ _ _ _) [] s
  refine seg_bind_wrap (wpAny_askSetting ?_)
  split
  · exact seg_again rfl loop
  · first
      | exact seg_bind_wrap (wpAny_rule (seg_bind_wrap (wpAny_standAt (seg_bind_wrap (hself _ _ _ (seg_again rfl loop))))))
      | (refine seg_bind_wrap (wpAny_rule ?_); show Seg _ A _ _ _ s₀ _ ((standAt iter.pos >>= _).wrap _ _ _ _) [] s; exact seg_bind_wrap (wpAny_standAt (seg_bind_wrap (hself _ _ _ (seg_again rfl loop)))))
theorem gpinned {pn ps : List (Addr × Obj)} {σ : L2.St} {H : Hp} {s : Shared} (I : Inv (gcx X A s0 H0 scope code fp []) [] σ H s)
    (h : ∀ p ∈ pn ++ ps, s.heap.get? p.1 = some p.2 ∧ H p.1 = none ∧ p.1 ≠ s0.heap.objs.size ∧ p.1 ∉ frs X.stack ∧ ∀ v, p.2.data ≠ .cell v) : Inv (gcx X A s0 H0 scope code fp pn) ps σ H s :=
  ⟨⟨I.ok.mod, I.ok.kind, I.ok.glob, I.ok.blt, I.ok.above, I.ok.inj, I.ok.has, I.ok.cab, I.ok.hd, I.ok.frames, I.ok.stk, I.ok.exf, I.ok.bs, I.ok.bsz, I.ok.noex, I.ok.exfs, I.ok.funs, I.ok.frf⟩, I.os, I.bare, I.base, I.loc, I.cell, I.free, I.freeC, h, I.hok, I.len⟩
end

/-! ### the consumers' loops -/
section
variable {P : Program} {w : World} {A : Around} {α : Type} (step : α → V → Option (α ⊕ V)) (fin : α → V) (cp : α → List (Addr × Obj) → Prop) (sl : List Addr) (a g : Addr) (Fin : V → Shared → Prop)
def GReady (P : Program) (w : World) (A : Around) (n : Nat) (s : Shared) : Prop := s.heap.IsGen a g ∧ s.heap.NoLimit ∧ ∃ gs, s.gens[g]? = some gs ∧ gs.Goes (model P w) A (GRx fin cp Fin) (GYx step cp sl a g Fin) n (.send .none) (s.setGen g .running)
/-- one item is drawn -/
theorem gnext {n : Nat} {s : Shared} {Q : Option Value → Shared → Prop} {E : Value → Shared → Prop} (hh : A.handled = none) (hd : A.depth < recursionLimit) (h : GReady step fin cp sl a g Fin P w A.in1 n s)
    (hnone : ∀ s1 acc ps, AllBare s1.gens → cp acc ps → (∀ p ∈ ps, s.heap.get? p.1 = some p.2 ∧ s1.heap.get? p.1 = some p.2) → Fin (fin acc) s1 → Q none s1)
    (hsome : ∀ v s1 acc ps y, AllBare s1.gens → cp acc ps → (∀ p ∈ ps, s.heap.get? p.1 = some p.2 ∧ s1.heap.get? p.1 = some p.2) → RelV y v → (match step acc y with
      | none => False
      | some (.inr r) => Fin r s1
      | some (.inl acc') => ∀ s' ps', s'.gens = s1.gens → cp acc' ps' → (∀ p ∈ ps', s'.heap.get? p.1 = some p.2 ∧ ∀ v, p.2.data ≠ .cell v) → GMoved sl s1 s' → ∃ m, m < n ∧ GReady step fin cp sl a g Fin P w A.in1 m s') → Q (some v) s1)
    (hmv : ∀ r s1 s2, Fin r s1 → GMoved sl s1 s2 → Fin r s2) (hsa : a ∉ sl) (hsc : cStatics ∉ sl) :
    wpAny (model P w) A (pyNext (.ref a)) Q E s := by
  obtain ⟨hg, hl, gs, hgs, hgo⟩ := h
  have hgl : g < s.gens.size := (Array.getElem?_eq_some_iff.mp hgs).1
  have sg : ∀ (s1 : Shared) (x : GenState), x.bare = true → AllBare s1.gens → GMoved sl s1 (s1.setGen g x) := fun s1 x hx hb => ⟨rfl, allBare_setGen hb hx, fun _ _ _ e => e⟩
  refine wpAny_gsz (n := g + 1) hgl (next_genG (A := A) (F := fun n s₀ s => AllBare s.gens ∧ ∃ acc ps, cp acc ps ∧ (∀ p ∈ ps, s₀.heap.get? p.1 = some p.2 ∧ s.heap.get? p.1 = some p.2) ∧ Fin (fin acc) s) (Er := fun _ _ => False) hh hl hd hg hgs hgo (fun v s₁ gs' hbare hv hsz => ?_) (fun s₁ hp h' hk _ => ?_) fun e s₁ he => he.elim)
  · obtain ⟨hb1, hl1, hg1, acc, ps, y, hc, hps, rv, hm⟩ := hv
    refine hsome v _ acc ps y (allBare_setGen hb1 hbare) hc hps rv ?_
    cases es : step acc y with
    | none => rw [es] at hm; exact hm
    | some o =>
      rw [es] at hm
      cases o with
      | inr r => exact hmv _ _ _ hm (sg s₁ gs' hbare hb1)
      | inl acc' =>
        cases n with
        | zero => exact fun s' ps' eg hc' hp' mv => (hm (s'.setGen g .running) ps' hc' hp' ⟨mv.os, allBare_setGen mv.bare rfl, fun b o hb e => mv.keep b o hb e⟩).elim
        | succ m =>
          refine fun s' ps' eg hc' hp' mv => ⟨m, Nat.lt_succ_self _, ?_⟩
          have hsz1 : g < s'.gens.size := by rw [eg]; exact hsz
          refine ⟨?_, ?_, gs', ?_, hm (s'.setGen g .running) ps' hc' hp' ?_⟩
          · obtain ⟨o, nm, qn, ho, r⟩ := hg1
            exact ⟨o, nm, qn, mv.keep a o hsa ho, r⟩
          · obtain ⟨mc, hns, hnn⟩ := hl1
            exact ⟨mc, hns.at' fun o e => mv.keep _ o hsc e, hnn⟩
          · rw [eg]; exact setGen_at (by have q : (s₁.setGen g gs').gens.size = s₁.gens.size := setGen_size _ _ _; have hsz' : g + 1 ≤ (s₁.setGen g gs').gens.size := hsz; omega)
          · exact ⟨mv.os, allBare_setGen mv.bare rfl, fun b o hb e => mv.keep b o hb e⟩
  · obtain ⟨hb1, acc, ps, hc, hps, hF⟩ := hp
    exact hnone _ acc ps (allBare_setGen (s := s₁) hb1 rfl) hc (fun p hp => ⟨(hps p hp).1, hk _ _ (hps p hp).2⟩) (hmv _ _ _ hF ⟨rfl, allBare_setGen (s := s₁) hb1 rfl, fun b o _ e => hk b o e⟩)
end
def anyS : Unit → V → Option (Unit ⊕ V) := fun _ y => match y with
  | .bl true => some (.inr (.bl true))
  | .bl false => some (.inl ())
  | _ => none
def allS : Unit → V → Option (Unit ⊕ V) := fun _ y => match y with
  | .bl true => some (.inl ())
  | .bl false => some (.inr (.bl false))
  | _ => none
def sumS : Int → V → Option (Int ⊕ V) := fun a y => match y with
  | .int i => some (.inl (a + i))
  | _ => none
def cpU : Unit → List (Addr × Obj) → Prop := fun _ ps => ps = []
def cpI (S : Addr) : Int → List (Addr × Obj) → Prop := fun a ps => ∃ (t : Tok) (c : Nat), ps = [(S, lstObj #[.int a t] c)]
section
variable {P : Program} {w : World} {A : Around} {a g : Addr} {Fin : V → Shared → Prop} {R : Result → Shared → Prop}
theorem loop_any (hh : A.handled = none) (hd : A.depth < recursionLimit) (hmv : ∀ r s1 s2, Fin r s1 → GMoved [] s1 s2 → Fin r s2) (hR : ∀ r u s, AllBare s.gens → Fin r s → RelV r u → R (.ok (.ret u)) s) :
    ∀ (n : Nat) (s : Shared), GReady anyS (fun _ => .bl false) cpU [] a g Fin P w A.in1.in1 n s → codeAny (model P w) A (.builtin "any.loop" ⟨[.ref a], []⟩) R s := by
  intro n
  induction n using Nat.strongRecOn with
  | _ n ih =>
    intro s hs
    refine codeAny_builtin F.entry_any_loop ?_
    rw [Around.under_plainId F.plain_any_loop _]
    show wpAny _ A.in1 (pyNext (.ref a) >>= _) _ _ s
    refine wpAny_bind (gnext _ _ _ _ _ _ _ (A := A.in1) hh hd hs (fun s1 acc ps hb hc hp hF => ?_) (fun v s1 acc ps y hb hc hp rv hm => ?_) hmv (by simp) (by simp))
    · exact wpAny_bind (wpAny_rule (wpAny_pure (hR _ (.bool false) _ hb hF rfl)))
    · cases y with
      | bl b =>
        cases rv
        refine wpAny_bind (wpAny_holding (wpAny_truthy_bool ?_))
        refine wpAny_bind (wpAny_letGo ?_)
        cases b with
        | true =>
          simp only [if_true]
          exact wpAny_bind (wpAny_rule (wpAny_pure (hR _ (.bool true) _ hb hm rfl)))
        | false =>
          simp only [Bool.false_eq_true, if_false]
          obtain ⟨m, hlt, hm⟩ := hm s1 [] rfl rfl (fun p hp => by cases hp) ⟨rfl, hb, fun _ _ _ e => e⟩
          exact wpAny_pure ⟨plainId_quiet F.plain_any_loop _, ih m hlt _ hm⟩
      | _ => exact hm.elim
theorem loop_all (hh : A.handled = none) (hd : A.depth < recursionLimit) (hmv : ∀ r s1 s2, Fin r s1 → GMoved [] s1 s2 → Fin r s2) (hR : ∀ r u s, AllBare s.gens → Fin r s → RelV r u → R (.ok (.ret u)) s) :
    ∀ (n : Nat) (s : Shared), GReady allS (fun _ => .bl true) cpU [] a g Fin P w A.in1.in1 n s → codeAny (model P w) A (.builtin "all.loop" ⟨[.ref a], []⟩) R s := by
  intro n
  induction n using Nat.strongRecOn with
  | _ n ih =>
    intro s hs
    refine codeAny_builtin F.entry_all_loop ?_
    rw [Around.under_plainId F.plain_all_loop _]
    show wpAny _ A.in1 (pyNext (.ref a) >>= _) _ _ s
    refine wpAny_bind (gnext _ _ _ _ _ _ _ (A := A.in1) hh hd hs (fun s1 acc ps hb hc hp hF => ?_) (fun v s1 acc ps y hb hc hp rv hm => ?_) hmv (by simp) (by simp))
    · exact wpAny_bind (wpAny_rule (wpAny_pure (hR _ (.bool true) _ hb hF rfl)))
    · cases y with
      | bl b =>
        cases rv
        refine wpAny_bind (wpAny_holding (wpAny_truthy_bool ?_))
        refine wpAny_bind (wpAny_letGo ?_)
        cases b with
        | false =>
          simp only [Bool.false_eq_true, if_false]
          exact wpAny_bind (wpAny_rule (wpAny_pure (hR _ (.bool false) _ hb hm rfl)))
        | true =>
          simp only [if_true]
          obtain ⟨m, hlt, hm⟩ := hm s1 [] rfl rfl (fun p hp => by cases hp) ⟨rfl, hb, fun _ _ _ e => e⟩
          exact wpAny_pure ⟨plainId_quiet F.plain_all_loop _, ih m hlt _ hm⟩
      | _ => exact hm.elim
theorem loop_sum {S : Addr} (hh : A.handled = none) (hd : A.depth < recursionLimit) (hSa : S ≠ a) (hSc : S ≠ cStatics) (hmv : ∀ r s1 s2, Fin r s1 → GMoved [S] s1 s2 → Fin r s2) (hR : ∀ r u s, AllBare s.gens → Fin r s → RelV r u → R (.ok (.ret u)) s) :
    ∀ (n : Nat) (s : Shared) (st acc : Int) (t : Tok) (c : Nat), (st = 0 ∨ st = 2) → s.heap.get? S = some (lstObj #[.int acc t] c) → GReady sumS (fun a => .int a) (cpI S) [S] a g Fin P w A.in1.in1 n s → codeAny (model P w) A (.builtin "sum.loop" ⟨[.ref a, .ref S, rawInt st, rawInt 0], []⟩) R s := by
  intro n
  induction n using Nat.strongRecOn with
  | _ n ih =>
    intro s st acc t c hst2 hS hs
    refine codeAny_builtin F.entry_sum_loop ?_
    rw [Around.under_plainId F.plain_sum_loop _]
    show wpAny _ A.in1 (seqItems? (.ref S) >>= _) _ _ s
    refine wpAny_bind (wpAny_seqItems hS rfl ?_)
    show wpAny _ A.in1 (tryCatch (pyNext (.ref a)) _ >>= _) _ _ s
    have sS : ∀ {b : Int} {ps : List (Addr × Obj)} {s1 : Shared}, cpI S b ps → (∀ p ∈ ps, s.heap.get? p.1 = some p.2 ∧ s1.heap.get? p.1 = some p.2) → b = acc ∧ s1.heap.get? S = some (lstObj #[.int acc t] c) := fun {b ps s1} hc hp => by
      obtain ⟨t', c', rfl⟩ := hc
      obtain ⟨h1, h2⟩ := hp (S, lstObj #[.int b t'] c') (by simp)
      have h1 : s.heap.get? S = some (lstObj #[.int b t'] c') := h1
      have h2 : s1.heap.get? S = some (lstObj #[.int b t'] c') := h2
      rw [hS] at h1
      have e := Option.some.inj h1
      rw [← e] at h2
      refine ⟨?_, h2⟩
      have e2 := congrArg Obj.data e
      injection e2 with e3 _
      have e4 : #[Value.int acc t][0]? = #[Value.int b t'][0]? := by rw [e3]
      simp at e4
      exact e4.1.symm
    refine wpAny_bind (wpAny_tryCatch (gnext _ _ _ _ _ _ _ (A := A.in1) hh hd hs (fun s1 b ps hb hc hp hF => ?_) (fun v s1 b ps y hb hc hp rv hm => ?_) hmv (by simpa using fun e => hSa e.symm) (by simpa using fun e => hSc e.symm)))
    · obtain ⟨rfl, hS1⟩ := sS hc hp
      exact wpAny_pure (hR _ (.int b t) _ hb hF ⟨t, rfl⟩)
    · obtain ⟨rfl, hS1⟩ := sS hc hp
      cases y with
      | int i =>
        obtain ⟨ti, rfl⟩ := rv
        have go : ∀ (h' : Heap) (tk : Nat) (t2 : Tok) (c2 : Nat) (st2 : Int), (st2 = 0 ∨ st2 = 2) → h'.get? S = some (lstObj #[.int (b + i) t2] c2) → (∀ d o, d ≠ S → s1.heap.get? d = some o → h'.get? d = some o) →
            codeAny (model P w) A (.builtin "sum.loop" ⟨[.ref a, .ref S, rawInt st2, rawInt 0], []⟩) R { s1 with heap := h', toks := tk } := fun h' tk t2 c2 st2 hst hS2 hk => by
          obtain ⟨m, hlt, hm⟩ := hm { s1 with heap := h', toks := tk } [(S, lstObj #[.int (b + i) t2] c2)] rfl ⟨t2, c2, rfl⟩ (fun p hp => by
            rw [List.mem_singleton.mp hp]
            exact ⟨hS2, fun v q => by cases q⟩) ⟨rfl, hb, fun d o hd e => hk d o (by simpa using hd) e⟩
          exact ih m hlt _ st2 _ t2 c2 hst hS2 hm
        rcases hst2 with rfl | rfl
        · show wpAny _ A.in1 (if (_ : Bool) = true then (mkInt (b + i) >>= _) else _) _ _ _
          split
          · refine wpAny_bind (wpAny_mkInt ?_)
            show wpAny _ A.in1 (updateSeq S (fun _ => #[.int (b + i) s1.toks]) >>= _) _ _ _
            refine wpAny_bind ?_
            refine wpAny_updateSeq hS1 rfl (wpAny_pure ⟨plainId_quiet F.plain_sum_loop _, go _ _ _ _ 0 (.inl rfl) (Heap.get?_update_self _ hS1 rfl) fun d o hd e => (Heap.get?_update_other _ _ (Ne.symm hd)).trans e⟩)
          · refine wpAny_bind (wpAny_rule ?_)
            refine wpAny_bind (wpAny_attempt (wpAny_holding (wpAny_add_int ?_)))
            show wpAny _ A.in1 (updateSeq S (fun _ => #[.int (b + i) s1.toks]) >>= _) _ _ _
            refine wpAny_bind (wpAny_updateSeq hS1 rfl ?_)
            have hS₂ := Heap.get?_update_self (Obj.mapSeq fun _ => #[Value.int (b + i) s1.toks]) hS1 rfl
            refine wpAny_bind (wpAny_letGo ?_)
            refine wpAny_bind (wpAny_updateSeq hS₂ rfl (wpAny_pure ⟨plainId_quiet F.plain_sum_loop _, go _ _ _ _ 2 (.inr rfl) (Heap.get?_update_self _ hS₂ rfl) fun d o hd e => (Heap.get?_update_other _ _ (Ne.symm hd)).trans ((Heap.get?_update_other _ _ (Ne.symm hd)).trans e)⟩))
        · show wpAny _ A.in1 ((holding [Value.int i ti] (binaryOp .Add (.int b t) (.int i ti))).attempt >>= _) _ _ _
          refine wpAny_bind (wpAny_attempt (wpAny_holding (wpAny_add_int ?_)))
          show wpAny _ A.in1 (updateSeq S (fun _ => #[.int (b + i) s1.toks]) >>= _) _ _ _
          refine wpAny_bind (wpAny_updateSeq hS1 rfl ?_)
          have hS₂ := Heap.get?_update_self (Obj.mapSeq fun _ => #[Value.int (b + i) s1.toks]) hS1 rfl
          refine wpAny_bind (wpAny_letGo ?_)
          refine wpAny_bind (wpAny_updateSeq hS₂ rfl (wpAny_pure ⟨plainId_quiet F.plain_sum_loop _, go _ _ _ _ 2 (.inr rfl) (Heap.get?_update_self _ hS₂ rfl) fun d o hd e => (Heap.get?_update_other _ _ (Ne.symm hd)).trans ((Heap.get?_update_other _ _ (Ne.symm hd)).trans e)⟩))
      | _ => exact hm.elim
end
end CardH
end
section
set_option maxHeartbeats 2000000
namespace CardH
open PySem PySem.Spec PyProof.Rows L2 LamX GenW

/-- behind the consumer's writes the outer frame stands -/
def FinX (X : Cx) (pins : List (Addr × Obj)) (σ : L2.St) (sl : List Addr) (Q : VK) : V → Shared → Prop := fun r s => ∀ s', GMoved sl s s' → ∃ H', Inv X pins σ H' s' ∧ Q r H'
/-- a generator expression is made -/
def GNew (X : Cx) (pins : List (Addr × Obj)) (σ : L2.St) (k : Nat) {α : Type} (step : α → V → Option (α ⊕ V)) (fin : α → V) (acc0 : α) (Q : VK) (v : Value) (s5 : Shared) : Prop :=
  ∃ (a gi : Addr) (c : Code), v = .ref a ∧ a < s5.heap.objs.size ∧ s5.heap.IsGen a gi ∧ s5.heap.NoLimit ∧ AllBare s5.gens ∧ s5.gens[gi]? = some (.fresh c) ∧
    ∀ (A : Around) (cp : α → List (Addr × Obj) → Prop) (sl : List Addr) (ps : List (Addr × Obj)) (s2 : Shared), Room (k + 1) A → A.frames = some X.stack → (∀ acc ps, cp acc ps → ps.map (·.1) = sl) → (∀ b ∈ sl, s5.heap.objs.size ≤ b) → cp acc0 ps →
      (∀ p ∈ ps, s2.heap.get? p.1 = some p.2 ∧ ∀ v, p.2.data ≠ .cell v) → s2.os = s5.os → AllBare s2.gens → (∀ b o, s5.heap.get? b = some o → s2.heap.get? b = some o) →
      ∃ n, Seg (model X.prog X.w) A (GRx fin cp (FinX X pins σ sl Q)) (GYx step cp sl a gi (FinX X pins σ sl Q)) n s2 c ((model X.prog X.w).den c) [] s2
section
variable {X : Cx} {pins : List (Addr × Obj)} {σ : L2.St} {H : Hp} {s : Shared} {scope : Scope} {tg iter elt : Expr} {ifs : List Expr} {gpos : Pos} {own : List (Str × Nat)} {wi : TI} {g : TG} {tt : TT} {te : TE} {k : Nat} {α : Type} {step : α → V → Option (α ⊕ V)} {fin : α → V} {acc0 : α}
def tGx {α : Type} (T : List (Addr × Str)) (step : α → V → Option (α ⊕ V)) (fin : α → V) (acc0 : α) (wi : TI) (g : TG) (tt : TT) (te : TE) (vs : List Nat) : TE := fun σ H Q => wi σ H fun J H2 => Tabs T H2 ∧ ∀ H3, Grown T H2 H3 →
  ∃ W : Nat → Nat → α → Hp → Prop, (∃ m, W 0 m acc0 H3) ∧ gTurns step fin J g tt te (wipe σ vs) vs Q W
theorem gen_made {T : List (Addr × Str)} {c P : Addr} {Q : VK} (hN : X.N.Nodup) (TB : LamX.TabB X.base X.mg c P) (hcode : X.env.code = .ref c) (hm : (P, X.env.qual ++ "<genexpr>") ∈ T) (hu : ∀ p ∈ T, p.1 = P → p.2 = X.env.qual ++ "<genexpr>")
    (hco : scope.isCoroutine = false) (h0 : scope.names.lookup (".0" : Str) = some NameKind.local) (ok : BlkOk X.N X.env.scope scope own) (hnc : ∀ y ∈ scope.names, y.2 ≠ .cell) (hr : Room k X.A) (hi : PI X tg iter wi)
    (hg : ∀ (A : Around) (s : Shared) (H : Hp) (code : Value) (fp : List Addr) (pn : List (Addr × Obj)), Room k (A.deeper (gEnv X scope s.heap.objs.size code)) → PG (gcx X A s H scope code fp pn) tg g)
    (ht : ∀ (A : Around) (s : Shared) (H : Hp) (code : Value) (fp : List Addr) (pn : List (Addr × Obj)), Room k (A.deeper (gEnv X scope s.heap.objs.size code)) → PTs (gcx X A s H scope code fp pn) ifs tt)
    (he : ∀ (A : Around) (s : Shared) (H : Hp) (code : Value) (fp : List Addr) (pn : List (Addr × Obj)), Room k (A.deeper (gEnv X scope s.heap.objs.size code)) → PE (gcx X A s H scope code fp pn) elt te)
    (hs : ∀ x, genFold iter X.env x = pure x) (I : Inv X pins σ H s) (h : tGx T step fin acc0 wi g tt te (own.map (·.2)) σ H Q) :
    wpAny (model X.prog X.w) X.A (eval (.GeneratorExp elt [⟨tg, iter, ifs, 0⟩] scope gpos) X.env) (GNew X pins σ k step fin acc0 Q) X.xe s := by
  have hfree : ∀ y ∈ scope.names, y.2 = .free → ∃ c, X.env.cells.lookup y.1 = some c := fun y hy e => by
    rcases ok.free y hy e with k | k
    · exact I.ok.has _ (.inl k)
    · exact I.ok.has _ (.inr k)
  have cm : ∀ {y c}, (cloFrom X.env.cells scope.names []).lookup y = some c → X.env.cells.lookup y = some c := fun {y c} e => by
    rcases cloFrom_mem (PySem.mem_of_lookup e) with hm | ⟨h1, h2⟩
    · cases hm
    · obtain ⟨c1, hc⟩ := hfree _ h1 rfl
      have hc : X.env.cells.lookup y = some c1 := hc
      have e2 : c = c1 := by
        rw [h2, hc] <;> rfl
      rw [e2]
      exact hc
  refine wpAny_GeneratorExp_make hco (closure_ok hfree) hnc h0 ok.kind hr.depth ?_ hs
  refine thn (hi.run pins s σ H _ I h) fun xv s1 hx => thn hx fun itv s2 h2 => ?_
  obtain ⟨it, fp, tn, J, H2, e, I2, Tn, st2, f2, hT, q⟩ := h2
  subst e
  refine ⟨I2.nolimit, ?_⟩
  refine gcode_new I2 TB hcode hm hu hT fun cv H3 s3 I3 gr hsz hnn hkp => ?_
  obtain ⟨bm, ob, e1, e2, e3, e4, e5, e6, e7, e8⟩ := TB.bm
  refine wpAny_builtinsFor (m := X.mg) (by rw [I3.ok.glob]; exact I3.mod.glob.keeps I3.bk) e1 e2 (I3.bk _ _ e5) e6 e7 e8 ?_
  intro h' hns hsb
  obtain ⟨W, ⟨m0, w0⟩, turn⟩ := q H3 gr
  have sz' : h'.objs.size = s3.heap.objs.size + 1 := by rw [hsb.1, Heap.size_push]
  have kp' : ∀ b o, s3.heap.get? b = some o → h'.get? b = some o := fun b o e => hsb.extBut b o (Nat.ne_of_lt (Heap.lt_size e)) (Heap.get?_push_of_some _ e)
  have fsz : ∀ b ∈ fp, b < s2.heap.objs.size := fun b hb => by
    obtain ⟨o, e, _⟩ := Tn.obj _ _ st2 b hb
    exact Heap.lt_size e
  have f3 : ∀ b ∈ fp, FpOk X pins H3 b ∧ b < s3.heap.objs.size := fun b hb => ⟨⟨hnn b (f2 b hb).1 (fsz b hb), (f2 b hb).2⟩, Nat.lt_of_lt_of_le (fsz b hb) hsz⟩
  have st3 : tn 0 s3.heap := Tn.keep _ _ _ st2 fun b hb o e => hkp b o (f2 b hb).1 e
  have nofr : ∀ f, s3.heap.objs.size ≤ f → f ∉ frs X.stack := by
    intro f hf z
    rcases List.mem_cons.mp (I3.stkSub _ z) with e | e
    · subst e; exact absurd (Nat.lt_of_lt_of_le I3.lt hf) (Nat.lt_irrefl _)
    · exact I3.nofs hf e
  have lim3 := I3.nolimit
  generalize hgo : ({ cls := .type "generator", data := .fields #[.int s3.gens.size 0, .str "<genexpr>" (s3.toks + 1), .str (X.env.qual ++ "<genexpr>") (s3.toks + 1 + 1)] } : Obj) = go
  have go1 : go.cls = .type "generator" := by rw [← hgo]
  have hgen : ∀ s' : Shared, (∀ p ∈ [(h'.objs.size, go)], s'.heap.get? p.1 = some p.2) → s'.heap.IsGen h'.objs.size s3.gens.size := fun s' hp => ⟨go, _, _, hp (h'.objs.size, go) (by simp), by rw [← hgo], by rw [← hgo], by rw [← hgo]⟩
  have gcell : ∀ v, go.data ≠ .cell v := fun v z => by rw [← hgo] at z; cases z
  have gget : (h'.push go).get? h'.objs.size = some go := Heap.get?_push_size _ (by rw [← hgo]; rfl)
  have kp5 : ∀ b o, s3.heap.get? b = some o → (h'.push go).get? b = some o := fun b o e => Heap.get?_push_of_some _ (kp' b o e)
  refine ⟨h'.objs.size, s3.gens.size, _, rfl, by show _ < (h'.push go).objs.size; rw [Heap.size_push]; exact Nat.lt_succ_self _, hgen _ (fun p hp => by rw [List.mem_singleton.mp hp]; exact gget), lim3.keeps kp5, AllBare.push I3.bare rfl, Array.getElem?_push_size .., ?_⟩
  intro A cp sl ps s2' hrA hfr hcp hsl hc0 hps hos hba hk2
  have hsl : ∀ b ∈ sl, h'.objs.size + 1 ≤ b := fun b hb => by
    have z := hsl b hb
    have z : (h'.push go).objs.size ≤ b := z
    rw [Heap.size_push] at z; exact z
  obtain ⟨h2, g2, d2, t2, o2⟩ := s2'
  have ho : o2 = s3.os := hos
  subst ho
  have kp2 : ∀ b o, s3.heap.get? b = some o → h2.get? b = some o := fun b o e => hk2 b o (kp5 b o e)
  have I4 := gen_start (A := A) (own := own) (fp := fp) (code := cv) (h1 := h2) (it := .ref it) (g1 := g2) (d1 := d2) (tk := t2) I3 ok hN hnc f3 hrA.hd hfr ((hns.push go).keeps hk2) kp2 hba
  have ne0 : ∀ b, s3.heap.objs.size + 1 ≤ b → H3 b = none ∧ b ≠ s3.heap.objs.size ∧ b ∉ frs X.stack := fun b hb => ⟨I3.hok.fresh (Nat.le_of_succ_le hb), Nat.ne_of_gt hb, nofr b (Nat.le_of_succ_le hb)⟩
  have psl : ∀ p ∈ ps, p.1 ∈ sl := fun p hp => by rw [← hcp _ _ hc0]; exact List.mem_map.mpr ⟨p, hp, rfl⟩
  have I5 : Inv (gcx X A s3 H3 scope cv fp [(h'.objs.size, go)]) ps (wipe σ (own.map (·.2))) H3 { s3 with heap := h2, gens := g2, drawn := d2, toks := t2 } := gpinned I4 fun p hp => by
    rcases List.mem_append.mp hp with hp | hp
    · rw [List.mem_singleton.mp hp]
      obtain ⟨z1, z2, z3⟩ := ne0 h'.objs.size (by rw [sz']; exact Nat.le_refl _)
      exact ⟨hk2 _ _ gget, z1, z2, z3, gcell⟩
    · obtain ⟨z1, z2, z3⟩ := ne0 p.1 (by have := hsl _ (psl p hp); omega)
      exact ⟨(hps p hp).1, z1, z2, z3, (hps p hp).2⟩
  have hslG : ∀ b ∈ sl, s3.heap.objs.size ≤ b ∧ b ≠ s3.heap.objs.size ∧ b ∉ frs X.stack ∧ (∀ x c, (cloFrom X.env.cells scope.names []).lookup x = some c → c ≠ b) ∧ b ∉ fp ∧ ∀ p ∈ [(h'.objs.size, go)], p.1 ≠ b := fun b hb => by
    have hb1 := hsl b hb
    obtain ⟨z1, z2, z3⟩ := ne0 b (by omega)
    refine ⟨by omega, z2, z3, fun x c e z => ?_, fun z => ?_, fun p hp z => ?_⟩
    · obtain ⟨v, o, ho, _⟩ := I3.cell x c (cm e)
      have := Heap.lt_size ho
      have hc : c < s3.heap.objs.size := this
      rw [z] at hc
      have hb2 : s3.heap.objs.size ≤ b := by omega
      exact absurd (Nat.lt_of_lt_of_le hc hb2) (Nat.lt_irrefl _)
    · have hb2 : s3.heap.objs.size ≤ b := by omega
      exact absurd (Nat.lt_of_lt_of_le (f3 b z).2 hb2) (Nat.lt_irrefl _)
    · rw [List.mem_singleton.mp hp] at z
      have z : h'.objs.size = b := z
      rw [z] at hb1
      exact absurd hb1 (Nat.not_succ_le_self _)
  refine ⟨m0 + 1, seg_start (s := { s3 with heap := h2, gens := g2, drawn := d2, toks := t2 }) (Tn.keep _ _ _ st3 fun b hb o e => kp2 b o e) (fun A Q E q => Tn.self A 0 _ Q E (Tn.keep _ _ _ st3 fun b hb o e => kp2 b o e) q)
    (seg_gx (g := g) (tt := tt) (te := te) (J := J) (vs := own.map (·.2)) (Q := Q) (W := W) (sl := sl) hco Tn (hg _ _ _ _ _ _ (hrA.deeper _)) (ht _ _ _ _ _ _ (hrA.deeper _)) (he _ _ _ _ _ _ (hrA.deeper _)) turn wipe_wipe hcp hslG (fun p hp z => ?_) hgen (fun r acc ps pl σ' H' s' hc hpl IG hQ s'' mv => ?_)
      m0 (m0 + 1) 0 acc0 ps _ H3 _ (Nat.lt_succ_self _) w0 hc0 (fun p hp => (hps p hp).1) I5 (Tn.keep _ _ _ st3 fun b hb o e => kp2 b o e) (fun b hb => (f3 b hb).1.1))⟩
  · rw [List.mem_singleton.mp hp] at z
    have hc : (h'.objs.size : Nat) < s3.heap.objs.size := (f3 _ z).2
    omega
  · have I6 := inv_moved (sl := sl) (ps := ps) (ps' := []) (pl := pl) (fun b hb => ⟨(hslG b hb).1, (hslG b hb).2.1, (hslG b hb).2.2.1, (hslG b hb).2.2.2.1, fun p hp => ?_⟩) IG (hcp _ _ hc) mv fun p hp => by cases hp
    · exact ⟨H', I3.call' (ch := fp) I6.os I6.base I6.hok I6.bare fun b hb => ⟨(f3 b hb).1.2.2.2.1, (f3 b hb).1.2.1, (f3 b hb).1.2.2.2.2.1, (f3 b hb).1.2.2.2.2.2⟩, hQ⟩
    · have hp : p ∈ [(h'.objs.size, go)] ++ pl := hp
      rcases List.mem_append.mp hp with hp | hp
      · exact (hslG b hb).2.2.2.2.2 p hp
      · exact fun z => (hslG b hb).2.2.2.2.1 (by rw [← z]; exact hpl p hp)
variable {p pos : Pos}
theorem FinX.mv {sl : List Addr} {Q : VK} : ∀ r s1 s2, FinX X pins σ sl Q r s1 → GMoved sl s1 s2 → FinX X pins σ sl Q r s2 := fun r s1 s2 h m s' m' => h s' (m.trans m')
theorem ready {cp : α → List (Addr × Obj) → Prop} {sl : List Addr} {ps : List (Addr × Obj)} {a gi : Addr} {c : Code} {Q : VK} {s5 s6 : Shared} (hr : Room (k + 3) X.A) (hfr : X.A.frames = some X.stack) (hg : s5.heap.IsGen a gi) (hl : s5.heap.NoLimit) (hb : AllBare s5.gens) (hgs : s5.gens[gi]? = some (.fresh c))
    (hG : ∀ (A : Around) (cp : α → List (Addr × Obj) → Prop) (sl : List Addr) (ps : List (Addr × Obj)) (s2 : Shared), Room (k + 1) A → A.frames = some X.stack → (∀ acc ps, cp acc ps → ps.map (·.1) = sl) → (∀ b ∈ sl, s5.heap.objs.size ≤ b) → cp acc0 ps →
      (∀ p ∈ ps, s2.heap.get? p.1 = some p.2 ∧ ∀ v, p.2.data ≠ .cell v) → s2.os = s5.os → AllBare s2.gens → (∀ b o, s5.heap.get? b = some o → s2.heap.get? b = some o) →
      ∃ n, Seg (model X.prog X.w) A (GRx fin cp (FinX X pins σ sl Q)) (GYx step cp sl a gi (FinX X pins σ sl Q)) n s2 c ((model X.prog X.w).den c) [] s2)
    (hcp : ∀ acc ps, cp acc ps → ps.map (·.1) = sl) (hsl : ∀ b ∈ sl, s5.heap.objs.size ≤ b) (hc0 : cp acc0 ps) (hps : ∀ p ∈ ps, s6.heap.get? p.1 = some p.2 ∧ ∀ v, p.2.data ≠ .cell v) (os6 : s6.os = s5.os) (g6 : s6.gens = s5.gens) (k6 : ∀ b o, s5.heap.get? b = some o → s6.heap.get? b = some o) :
    ∃ n, GReady step fin cp sl a gi (FinX X pins σ sl Q) X.prog X.w X.A.in1.in1 n s6 := by
  obtain ⟨n, hn⟩ := hG X.A.in1.in1 cp sl ps (s6.setGen gi .running) hr.in1.in1 hfr hcp hsl hc0 hps os6 (allBare_setGen (by rw [g6]; exact hb) rfl) k6
  exact ⟨n, hg.keeps k6, hl.keeps k6, .fresh c, by rw [g6]; exact hgs, rfl, hn⟩
end
section
variable {X : Cx} {scope : Scope} {tg iter elt : Expr} {ifs : List Expr} {gpos p pos : Pos} {own : List (Str × Nat)} {wi : TI} {g : TG} {tt : TT} {te : TE} {k : Nat}
structure GxOk (X : Cx) (T : List (Addr × Str)) (scope : Scope) (own : List (Str × Nat)) (k : Nat) (c P : Addr) : Prop where
  nd : X.N.Nodup
  tb : LamX.TabB X.base X.mg c P
  cd : X.env.code = .ref c
  mem : (P, X.env.qual ++ "<genexpr>") ∈ T
  uniq : ∀ p ∈ T, p.1 = P → p.2 = X.env.qual ++ "<genexpr>"
  co : scope.isCoroutine = false
  dot : scope.names.lookup (".0" : Str) = some NameKind.local
  ok : BlkOk X.N X.env.scope scope own
  nc : ∀ y ∈ scope.names, y.2 ≠ .cell
  room : Room (k + 3) X.A
section
variable {T : List (Addr × Str)} {c P : Addr} (O : GxOk X T scope own k c P) (hi : PI X tg iter wi)
    (hg : ∀ (A : Around) (s : Shared) (H : Hp) (code : Value) (fp : List Addr) (pn : List (Addr × Obj)), Room k (A.deeper (gEnv X scope s.heap.objs.size code)) → PG (gcx X A s H scope code fp pn) tg g)
    (ht : ∀ (A : Around) (s : Shared) (H : Hp) (code : Value) (fp : List Addr) (pn : List (Addr × Obj)), Room k (A.deeper (gEnv X scope s.heap.objs.size code)) → PTs (gcx X A s H scope code fp pn) ifs tt)
    (he : ∀ (A : Around) (s : Shared) (H : Hp) (code : Value) (fp : List Addr) (pn : List (Addr × Obj)), Room k (A.deeper (gEnv X scope s.heap.objs.size code)) → PE (gcx X A s H scope code fp pn) elt te)
    (hs : ∀ x, genFold iter X.env x = pure x)
    (hst : starEach [.GeneratorExp elt [⟨tg, iter, ifs, 0⟩] scope gpos] X.env = (false, eval (.GeneratorExp elt [⟨tg, iter, ifs, 0⟩] scope gpos) X.env) :: starEach [] X.env)
include O hi hg ht he hs hst
theorem pe_gany (hgl : Gl X "any") (hm : X.mg "any" = none) : PE X (.Call (.Name "any" p) [.GeneratorExp elt [⟨tg, iter, ifs, 0⟩] scope gpos] [] pos) (tGx T anyS (fun _ => .bl false) () wi g tt te (own.map (·.2))) := by
  refine ⟨fun pins s σ H Q I h => ?_⟩
  refine wpAny_Call_Name_kw (ld_blt I hgl hm boot_any ?_)
  refine PyProof.Rows.callWith_builtin1 ?_ hst (by rfl)
  rw [hst]
  show wpAny _ _ (spliced ((false, eval (.GeneratorExp elt [⟨tg, iter, ifs, 0⟩] scope gpos) X.env) :: backTo pos (starEach [] X.env))) _ _ s
  refine Calls.spliced_cons (thn (gen_made (k := k) O.nd O.tb O.cd O.mem O.uniq O.co O.dot O.ok O.nc (O.room.mono (by omega)) hi hg ht he hs I h) fun v s5 hv => ?_)
  refine Calls.spliced_nil ?_
  obtain ⟨a, gi, cd, rfl, ha, hig, hl, hb, hgs, hG⟩ := hv
  refine call_function_tree F.kind_any F.plain_any F.entry_any (F.args_any1 _) ?_
  unfold Builtin.«any»
  refine wpAny_bind (m := oneArg "any" _) (wpAny_pure ?_)
  refine wpAny_bind (wpAny_pyIter_gen hig ?_)
  obtain ⟨n, hn⟩ := ready (cp := cpU) (sl := []) (ps := []) (s6 := s5) O.room I.ok.frames hig hl hb hgs hG (fun acc ps e => by rw [e]; rfl) (fun b hb => by cases hb) rfl (fun p hp => by cases hp) rfl rfl (fun _ _ e => e)
  refine wpAny_pure ⟨plainId_quiet F.plain_any_loop _, loop_any O.room.hd O.room.depth FinX.mv (fun r u s hbr hF rv => ?_) n s5 hn⟩
  obtain ⟨H', I', q⟩ := hF s ⟨rfl, hbr, fun _ _ _ e => e⟩
  exact ⟨r, H', I', rv, q⟩
theorem pe_gall (hgl : Gl X "all") (hm : X.mg "all" = none) (hbt : bootBuiltins "all" = some (.builtin "all")) : PE X (.Call (.Name "all" p) [.GeneratorExp elt [⟨tg, iter, ifs, 0⟩] scope gpos] [] pos) (tGx T allS (fun _ => .bl true) () wi g tt te (own.map (·.2))) := by
  refine ⟨fun pins s σ H Q I h => ?_⟩
  refine wpAny_Call_Name_kw (ld_blt I hgl hm hbt ?_)
  refine PyProof.Rows.callWith_builtin1 ?_ hst (by rfl)
  rw [hst]
  show wpAny _ _ (spliced ((false, eval (.GeneratorExp elt [⟨tg, iter, ifs, 0⟩] scope gpos) X.env) :: backTo pos (starEach [] X.env))) _ _ s
  refine Calls.spliced_cons (thn (gen_made (k := k) O.nd O.tb O.cd O.mem O.uniq O.co O.dot O.ok O.nc (O.room.mono (by omega)) hi hg ht he hs I h) fun v s5 hv => ?_)
  refine Calls.spliced_nil ?_
  obtain ⟨a, gi, cd, rfl, ha, hig, hl, hb, hgs, hG⟩ := hv
  refine call_function_tree F.kind_all F.plain_all F.entry_all (F.args_all1 _) ?_
  unfold Builtin.«all»
  refine wpAny_bind (m := oneArg "all" _) (wpAny_pure ?_)
  refine wpAny_bind (wpAny_pyIter_gen hig ?_)
  obtain ⟨n, hn⟩ := ready (cp := cpU) (sl := []) (ps := []) (s6 := s5) O.room I.ok.frames hig hl hb hgs hG (fun acc ps e => by rw [e]; rfl) (fun b hb => by cases hb) rfl (fun p hp => by cases hp) rfl rfl (fun _ _ e => e)
  refine wpAny_pure ⟨plainId_quiet F.plain_all_loop _, loop_all O.room.hd O.room.depth FinX.mv (fun r u s hbr hF rv => ?_) n s5 hn⟩
  obtain ⟨H', I', q⟩ := hF s ⟨rfl, hbr, fun _ _ _ e => e⟩
  exact ⟨r, H', I', rv, q⟩
theorem pe_gsum (hgl : Gl X "sum") (hm : X.mg "sum" = none) (hbt : bootBuiltins "sum" = some (.builtin "sum")) : PE X (.Call (.Name "sum" p) [.GeneratorExp elt [⟨tg, iter, ifs, 0⟩] scope gpos] [] pos) (tGx T sumS (fun a => .int a) 0 wi g tt te (own.map (·.2))) := by
  refine ⟨fun pins s σ H Q I h => ?_⟩
  refine wpAny_Call_Name_kw (ld_blt I hgl hm hbt ?_)
  refine PyProof.Rows.callWith_builtin1 ?_ hst (by rfl)
  rw [hst]
  show wpAny _ _ (spliced ((false, eval (.GeneratorExp elt [⟨tg, iter, ifs, 0⟩] scope gpos) X.env) :: backTo pos (starEach [] X.env))) _ _ s
  refine Calls.spliced_cons (thn (gen_made (k := k) O.nd O.tb O.cd O.mem O.uniq O.co O.dot O.ok O.nc (O.room.mono (by omega)) hi hg ht he hs I h) fun v s5 hv => ?_)
  refine Calls.spliced_nil ?_
  obtain ⟨a, gi, cd, rfl, ha, hig, hl, hb, hgs, hG⟩ := hv
  refine call_function_tree F.kind_sum F.plain_sum F.entry_sum (F.args_sum1 _) ?_
  unfold Builtin.«sum»
  simp only [List.length_cons, List.length_nil]
  rw [if_neg (by decide)]
  refine wpAny_bind (wpAny_of_eq (show Builtin.Builtins.bindParams "sum" ["start"] 0 { } = pure [none] from rfl) ?_)
  refine wpAny_bind (wpAny_pyIter_gen hig ?_)
  refine wpAny_bind (wpAny_mkInt ?_)
  refine wpAny_bind (wpAny_pure ?_)
  simp only [List.forIn_cons, List.forIn_nil]
  refine wpAny_bind (wpAny_bind (wpAny_bind (wpAny_isInstance (T := "int") (b := false) (typeIs_int _ _ _) PySem.sub_int_str ?_)))
  simp only [Bool.false_eq_true, if_false]
  refine wpAny_pure (wpAny_bind (wpAny_bind (wpAny_isInstance (T := "int") (b := false) (typeIs_int _ _ _) sub_int_bytes ?_)))
  simp only [Bool.false_eq_true, if_false]
  refine wpAny_pure (wpAny_bind (wpAny_bind (wpAny_isInstance (T := "int") (b := false) (typeIs_int _ _ _) sub_int_bytearray ?_)))
  simp only [Bool.false_eq_true, if_false]
  refine wpAny_pure (wpAny_pure ?_)
  refine wpAny_bind (wpAny_newObj_type ?_)
  have hS : (s5.heap.push (lstObj #[.int 0 s5.toks] 0)).get? s5.heap.objs.size = some (lstObj #[.int 0 s5.toks] 0) := Heap.get?_push_size _ rfl
  have hcl : cStatics < s5.heap.objs.size := let ⟨_, hn, _⟩ := hl; hn.lt
  obtain ⟨n, hn⟩ := ready (cp := cpI s5.heap.objs.size) (sl := [s5.heap.objs.size]) (ps := [(s5.heap.objs.size, lstObj #[.int 0 s5.toks] 0)]) (s6 := { s5 with heap := s5.heap.push (lstObj #[.int 0 s5.toks] 0), toks := s5.toks + 1 }) O.room I.ok.frames hig hl hb hgs hG
    (fun acc ps ⟨t, c, e⟩ => by rw [e]; rfl) (fun b hb => by rw [List.mem_singleton.mp hb]; exact Nat.le_refl _) ⟨_, _, rfl⟩ (fun p hp => by rw [List.mem_singleton.mp hp]; exact ⟨hS, fun v q => by cases q⟩) rfl rfl (fun _ _ e => Heap.get?_push_of_some _ e)
  refine wpAny_pure ⟨plainId_quiet F.plain_sum_loop _, loop_sum (S := s5.heap.objs.size) O.room.hd O.room.depth (Nat.ne_of_gt ha) (Nat.ne_of_gt hcl) FinX.mv (fun r u s hbr hF rv => ?_) n _ 0 0 s5.toks 0 (.inl rfl) hS hn⟩
  obtain ⟨H', I', q⟩ := hF s ⟨rfl, hbr, fun _ _ _ e => e⟩
  exact ⟨r, H', I', rv, q⟩
end
end
end CardH
end
section
set_option maxHeartbeats 2000000
namespace CardH
open PySem PySem.Spec PyProof.Rows L2 LamX GenW

/-! ### any, all, sum of a generator expression, denoted -/
def gxL {α : Type} (st : α → Vl → Option (α ⊕ Vl)) (fn : α → Vl) (g : DG) (dt : DT) (de : DE) (env : LEnv) : α → List Vl → Gst → CardH.R Vl
  | a, [], G => .ok (fn a) G
  | a, x :: xs, G => match g env x with
    | none => .bad
    | some e' => (dt e' G).bind fun b G1 => if b = true then (de e' G1).bind fun y G2 => match st a y with
      | none => .bad
      | some (.inl a') => gxL st fn g dt de env a' xs G2
      | some (.inr r) => .ok r G2
    else gxL st fn g dt de env a xs G1
/-- no exception is awaited within -/
def noX {α : Type} (r : CardH.R α) : CardH.R α := (fun _ : Nat => match r with
  | .ok a G => .ok a G
  | _ => .bad) hgt3
def dGx {α : Type} (st : α → Vl → Option (α ⊕ Vl)) (fn : α → Vl) (a0 : α) (vs : List Nat) (di : DI) (g : DG) (dt : DT) (de : DE) : DE := fun env G => (di env G).bind fun xs G1 => noX (gxL st fn g dt de (wipeE env vs) a0 xs G1)
def anyV : Unit → Vl → Option (Unit ⊕ Vl) := fun _ y => match y with
  | .bl true => some (.inr (.bl true))
  | .bl false => some (.inl ())
  | _ => none
def allV : Unit → Vl → Option (Unit ⊕ Vl) := fun _ y => match y with
  | .bl true => some (.inl ())
  | .bl false => some (.inr (.bl false))
  | _ => none
def sumV : Int → Vl → Option (Int ⊕ Vl) := fun a y => match y with
  | .int i => some (.inl (a + i))
  | _ => none
abbrev dAnyG := dGx anyV (fun _ => .bl false) ()
abbrev dAllG := dGx allV (fun _ => .bl true) ()
abbrev dSumG := dGx sumV (fun a => .int a) 0
/-- the deep step, the step -/
structure StepR {α : Type} (st : α → Vl → Option (α ⊕ Vl)) (step : α → V → Option (α ⊕ V)) (fn : α → Vl) (fin : α → V) : Prop where
  go : ∀ (K : PySem.W.Frag) (W : Wd) a y v a', Rep K W y v → st a y = some (.inl a') → step a v = some (.inl a')
  out : ∀ (K : PySem.W.Frag) (W : Wd) a y v r, Rep K W y v → st a y = some (.inr r) → ∃ rv, step a v = some (.inr rv) ∧ ∀ W', Rep K W' r rv
  fin : ∀ (K : PySem.W.Frag) (W : Wd) a, Rep K W (fn a) (fin a)
theorem step_any : StepR anyV anyS (fun _ => .bl false) (fun _ => .bl false) where
  go := fun K W a y v a' r e => by
    cases y with
    | bl b => obtain rfl : v = .bl b := r; cases b <;> cases e; rfl
    | _ => cases e
  out := fun K W a y v r h e => by
    cases y with
    | bl b => obtain rfl : v = .bl b := h; cases b <;> cases e; exact ⟨_, rfl, fun _ => rfl⟩
    | _ => cases e
  fin := fun _ _ _ => rfl
theorem step_all : StepR allV allS (fun _ => .bl true) (fun _ => .bl true) where
  go := fun K W a y v a' r e => by
    cases y with
    | bl b => obtain rfl : v = .bl b := r; cases b <;> cases e; rfl
    | _ => cases e
  out := fun K W a y v r h e => by
    cases y with
    | bl b => obtain rfl : v = .bl b := h; cases b <;> cases e; exact ⟨_, rfl, fun _ => rfl⟩
    | _ => cases e
  fin := fun _ _ _ => rfl
theorem step_sum : StepR sumV sumS (fun a => .int a) (fun a => .int a) where
  go := fun K W a y v a' r e => by
    cases y with
    | int i => obtain rfl : v = .int i := r; cases e; rfl
    | _ => cases e
  out := fun K W a y v r h e => by
    cases y with
    | int i => cases e
    | _ => cases e
  fin := fun _ _ _ => rfl
section
variable {kt : Kt} {B : Bs} {X : Cx} {pi pt pe : Bool} {elt tg iter : Expr} {ifs : List Expr} {scope : Scope} {own : List (Str × Nat)} {pos gpos p : Pos} {sl : List Nat} {di : DI} {g : DG} {dt : DT} {de : DE} {k : Nat} {α : Type} {st : α → Vl → Option (α ⊕ Vl)} {step : α → V → Option (α ⊕ V)} {fn : α → Vl} {fin : α → V} {a0 : α}
theorem gx_imp {Tl : List (Addr × Str)} (hT : kt.T = tabsOf Tl) (S : StepR st step fn fin) (hi : SI kt B X pi tg iter di) (hsl : sl.all (fun i => (own.map (·.2)).contains i) = true) {Wish : WX} (tk : Takes X Wish) :
    ∃ wi, PI X tg iter wi ∧ ∀ σ H Q, rdX kt B (pi && (pt && pe)) Wish (fun W x v => Pk kt.K W .s x v) (dGx st fn a0 (own.map (·.2)) di g dt de) σ H Q →
      tGx Tl step fin a0 wi (rdG kt B sl g) (rdX kt B pt (fun _ _ _ _ => False) ZB dt) (rdX kt B pe (fun _ _ _ _ => False) (fun W x v => Pk kt.K W .s x v) de) (own.map (·.2)) σ H Q := by
  obtain ⟨wi, hwi, him⟩ := hi Wish tk
  have hsl : ∀ i, i ∈ sl → i ∈ own.map (·.2) := fun i h => by simpa using List.all_eq_true.mp hsl i h
  refine ⟨wi, hwi, fun σ H Q ⟨W, env, G, e, A, h⟩ => ?_⟩
  subst e
  refine him _ _ _ ⟨W, env, G, rfl, A, ?_⟩
  unfold dGx at h
  cases q : di env G with
  | bad => rw [q] at h; exact h.elim
  | exn c G' => rw [q] at h; exact fun W' od e A z => h W' od e.andL A z
  | ok xs G1 =>
    rw [q, R.bind_ok] at h
    intro W1 e1 A1 J Gd Y wk yl
    generalize hvs : own.map (·.2) = vs at h hsl ⊢
    refine ⟨tabs_to (by rw [← hT]; exact A1.ok.tabs), fun H3 gr => ?_⟩
    obtain ⟨eg, Ag⟩ := A1.grown hT gr
    cases qc : gxL st fn g dt de (wipeE env vs) a0 xs G1 with
    | bad => rw [qc] at h; exact h.elim
    | exn c G' => rw [qc] at h; exact h.elim
    | ok res Gf =>
      rw [qc] at h
      have h : ∀ W' v, Ext (pi && (pt && pe)) W W' → RAll kt B W' σ env Gf → Pk kt.K W' .s res v → Q v W'.H := h
      have fin' : ∀ {Wi : Wd} {rv : V}, Ext (pt && pe) W1 Wi → RAll kt B Wi (wipe σ vs) (wipeE env vs) Gf → Rep kt.K Wi res rv → Q rv Wi.H := fun {Wi rv} ei Ai r =>
        h Wi rv (e1.trans ei) ⟨Ai.ok, A1.re.ext ei, Ai.si, Ai.nl⟩ (.inl r)
      refine ⟨fun i m acc H => ∃ Wi Gi, Wi.H = H ∧ Ext (pt && pe) W1 Wi ∧ RAll kt B Wi (wipe σ vs) (wipeE env vs) Gi ∧ i ≤ xs.length ∧ m = xs.length - i ∧ gxL st fn g dt de (wipeE env vs) acc (xs.drop i) Gi = .ok res Gf,
        ⟨xs.length, ⟨W1.Γ, W1.ρ, H3⟩, G1, rfl, eg.weak, Ag.wipe vs, Nat.zero_le _, rfl, qc⟩, ?_⟩
      rintro i m acc H ⟨Wi, Gi, rfl, ei, Ai, hil, rfl, ci⟩
      by_cases hi' : i = xs.length
      · subst hi'
        rw [List.drop_length] at ci
        cases ci
        exact .inl ⟨wk.stops _ (yl.gd Wi ei.toS), fin' ei Ai (S.fin _ _ _)⟩
      · have hlt : i < xs.length := by omega
        refine .inr ⟨wk.goes _ _ hlt (yl.gd Wi ei.toS), fun acc' H' => ∃ Wi Gi, Wi.H = H' ∧ Ext (pt && pe) W1 Wi ∧ RAll kt B Wi (wipe σ vs) (wipeE env vs) Gi ∧ gxL st fn g dt de (wipeE env vs) acc' (xs.drop (i + 1)) Gi = .ok res Gf, ?_, ?_⟩
        · rintro acc' H' ⟨Wj, Gj, e, ej, Aj, cj⟩
          exact ⟨xs.length - (i + 1), by omega, Wj, Gj, e, ej, Aj, hlt, rfl, cj⟩
        · intro x H' y
          obtain ⟨y0, hy0, hrep⟩ := yl.yl i Wi.H x H' hlt (wk.yields _ _ _ _ hlt (yl.gd Wi ei.toS) y) Wi ei.toS rfl
          have hW2 : ∃ W2, W2.H = H' ∧ Ext true Wi W2 ∧ RAll kt B W2 (wipe σ vs) (wipeE env vs) Gi ∧ Rep kt.K W2 y0 x := by
            rcases hrep with ⟨e, r⟩ | ⟨T, us, e, hT, e2, r⟩
            · exact ⟨Wi, e.symm, Ext.refl, Ai, r⟩
            · exact ⟨Wi.alloc T (.tup us) .no, by rw [e2]; rfl, Ext.alloc hT, Ai.alloc hT rfl rfl, r⟩
          obtain ⟨W2, rfl, e2, A2, rep⟩ := hW2
          have e02 : Ext (pt && pe) W1 W2 := (ei.trans e2).mono fun z => by rw [z]; rfl
          have hdrop : xs.drop i = y0 :: xs.drop (i + 1) := by
            obtain ⟨h1, h2⟩ := List.getElem?_eq_some_iff.mp hy0
            rw [List.drop_eq_getElem_cons h1, h2]
          rw [hdrop] at ci
          unfold gxL at ci
          cases eg : g (wipeE env vs) y0 with
          | none => rw [eg] at ci; cases ci
          | some e' =>
            rw [eg] at ci
            dsimp only at ci
            refine ⟨W2, wipeE env vs, Gi, y0, e', rfl, A2, rep, eg, fun σ' hset hw => ⟨by rw [hw vs hsl, wipe_wipe], W2, e', Gi, rfl, hset W2 Gi Ext.refl A2, ?_⟩⟩
            cases qt : dt e' Gi with
            | bad => rw [qt] at ci; cases ci
            | exn c G' => rw [qt] at ci; cases ci
            | ok b G3 =>
              rw [qt, R.bind_ok] at ci
              intro W3 b' e3 A3 z3
              obtain rfl : b = b' := z3
              cases b with
              | false =>
                rw [if_neg Bool.false_ne_true] at ci ⊢
                exact ⟨W3, G3, rfl, (e02.trans e3).mono fun z => by rw [z]; exact (Bool.and_eq_true _ _ ▸ z).1, ⟨A3.ok, A2.re.ext e3, A3.si, A3.nl⟩, ci⟩
              | true =>
                rw [if_pos rfl] at ci ⊢
                refine ⟨W3, e', G3, rfl, A3, ?_⟩
                cases qe : de e' G3 with
                | bad => rw [qe] at ci; cases ci
                | exn c G' => rw [qe] at ci; cases ci
                | ok yv G4 =>
                  rw [qe, R.bind_ok] at ci
                  intro W4 v e4 A4 z4
                  have e34 := e3.trans e4
                  have e04 : Ext (pt && pe) W1 W4 := (e02.trans e34).mono fun z => by rw [z]; rfl
                  have A4' : RAll kt B W4 (wipe σ vs) (wipeE env vs) G4 := ⟨A4.ok, A2.re.ext e34, A4.si, A4.nl⟩
                  cases es : st acc yv with
                  | none => rw [es] at ci; cases ci
                  | some o =>
                    rw [es] at ci
                    cases o with
                    | inl a' =>
                      rw [S.go _ _ _ _ _ _ z4.strict es]
                      exact ⟨W4, G4, rfl, e04, A4', ci⟩
                    | inr r =>
                      obtain ⟨rv, er, hr⟩ := S.out _ _ _ _ _ _ z4.strict es
                      rw [er]
                      cases ci
                      exact fin' e04 A4' (hr W4)
theorem sx_gany {Tl : List (Addr × Str)} {c P : Addr} (hT : kt.T = tabsOf Tl) (O : GxOk X Tl scope own k c P) (hi : SI kt B X pi tg iter di)
    (hg : ∀ (A : Around) (s : Shared) (H : Hp) (code : Value) (fp : List Addr) (pn : List (Addr × Obj)), Room k (A.deeper (gEnv X scope s.heap.objs.size code)) → SG kt B (gcx X A s H scope code fp pn) sl tg g)
    (ht : ∀ (A : Around) (s : Shared) (H : Hp) (code : Value) (fp : List Addr) (pn : List (Addr × Obj)), Room k (A.deeper (gEnv X scope s.heap.objs.size code)) → STs kt B (gcx X A s H scope code fp pn) pt ifs dt)
    (he : ∀ (A : Around) (s : Shared) (H : Hp) (code : Value) (fp : List Addr) (pn : List (Addr × Obj)), Room k (A.deeper (gEnv X scope s.heap.objs.size code)) → SX kt B (gcx X A s H scope code fp pn) pe .s elt de)
    (hm : X.mg "any" = none) (hgl : Gl X "any" := by rfl) (hsl : sl.all (fun i => (own.map (·.2)).contains i) = true := by rfl) (hs : ∀ x, genFold iter X.env x = pure x := by intro _; rfl)
    (hst : starEach [.GeneratorExp elt [⟨tg, iter, ifs, 0⟩] scope gpos] X.env = (false, eval (.GeneratorExp elt [⟨tg, iter, ifs, 0⟩] scope gpos) X.env) :: starEach [] X.env := by rfl) :
    SX kt B X (pi && (pt && pe)) .s (.Call (.Name "any" p) [.GeneratorExp elt [⟨tg, iter, ifs, 0⟩] scope gpos] [] pos) (dAnyG (own.map (·.2)) di g dt de) := fun Wish tk => by
  obtain ⟨wi, hwi, him⟩ := gx_imp (a0 := ()) (pt := pt) (pe := pe) (g := g) (dt := dt) (de := de) hT step_any hi hsl tk
  exact (pe_gany O hwi hg (fun A s H code fp pn r => ht A s H code fp pn r _ takes_gx) (fun A s H code fp pn r => he A s H code fp pn r _ takes_gx) hs hst hgl hm).imp him
theorem sx_gall {Tl : List (Addr × Str)} {c P : Addr} (hT : kt.T = tabsOf Tl) (O : GxOk X Tl scope own k c P) (hi : SI kt B X pi tg iter di)
    (hg : ∀ (A : Around) (s : Shared) (H : Hp) (code : Value) (fp : List Addr) (pn : List (Addr × Obj)), Room k (A.deeper (gEnv X scope s.heap.objs.size code)) → SG kt B (gcx X A s H scope code fp pn) sl tg g)
    (ht : ∀ (A : Around) (s : Shared) (H : Hp) (code : Value) (fp : List Addr) (pn : List (Addr × Obj)), Room k (A.deeper (gEnv X scope s.heap.objs.size code)) → STs kt B (gcx X A s H scope code fp pn) pt ifs dt)
    (he : ∀ (A : Around) (s : Shared) (H : Hp) (code : Value) (fp : List Addr) (pn : List (Addr × Obj)), Room k (A.deeper (gEnv X scope s.heap.objs.size code)) → SX kt B (gcx X A s H scope code fp pn) pe .s elt de)
    (hm : X.mg "all" = none) (hgl : Gl X "all" := by rfl) (hbt : bootBuiltins "all" = some (.builtin "all") := by kernel_rfl) (hsl : sl.all (fun i => (own.map (·.2)).contains i) = true := by rfl) (hs : ∀ x, genFold iter X.env x = pure x := by intro _; rfl)
    (hst : starEach [.GeneratorExp elt [⟨tg, iter, ifs, 0⟩] scope gpos] X.env = (false, eval (.GeneratorExp elt [⟨tg, iter, ifs, 0⟩] scope gpos) X.env) :: starEach [] X.env := by rfl) :
    SX kt B X (pi && (pt && pe)) .s (.Call (.Name "all" p) [.GeneratorExp elt [⟨tg, iter, ifs, 0⟩] scope gpos] [] pos) (dAllG (own.map (·.2)) di g dt de) := fun Wish tk => by
  obtain ⟨wi, hwi, him⟩ := gx_imp (a0 := ()) (pt := pt) (pe := pe) (g := g) (dt := dt) (de := de) hT step_all hi hsl tk
  exact (pe_gall O hwi hg (fun A s H code fp pn r => ht A s H code fp pn r _ takes_gx) (fun A s H code fp pn r => he A s H code fp pn r _ takes_gx) hs hst hgl hm hbt).imp him
theorem sx_gsum {Tl : List (Addr × Str)} {c P : Addr} (hT : kt.T = tabsOf Tl) (O : GxOk X Tl scope own k c P) (hi : SI kt B X pi tg iter di)
    (hg : ∀ (A : Around) (s : Shared) (H : Hp) (code : Value) (fp : List Addr) (pn : List (Addr × Obj)), Room k (A.deeper (gEnv X scope s.heap.objs.size code)) → SG kt B (gcx X A s H scope code fp pn) sl tg g)
    (ht : ∀ (A : Around) (s : Shared) (H : Hp) (code : Value) (fp : List Addr) (pn : List (Addr × Obj)), Room k (A.deeper (gEnv X scope s.heap.objs.size code)) → STs kt B (gcx X A s H scope code fp pn) pt ifs dt)
    (he : ∀ (A : Around) (s : Shared) (H : Hp) (code : Value) (fp : List Addr) (pn : List (Addr × Obj)), Room k (A.deeper (gEnv X scope s.heap.objs.size code)) → SX kt B (gcx X A s H scope code fp pn) pe .s elt de)
    (hm : X.mg "sum" = none) (hgl : Gl X "sum" := by rfl) (hbt : bootBuiltins "sum" = some (.builtin "sum") := by kernel_rfl) (hsl : sl.all (fun i => (own.map (·.2)).contains i) = true := by rfl) (hs : ∀ x, genFold iter X.env x = pure x := by intro _; rfl)
    (hst : starEach [.GeneratorExp elt [⟨tg, iter, ifs, 0⟩] scope gpos] X.env = (false, eval (.GeneratorExp elt [⟨tg, iter, ifs, 0⟩] scope gpos) X.env) :: starEach [] X.env := by rfl) :
    SX kt B X (pi && (pt && pe)) .s (.Call (.Name "sum" p) [.GeneratorExp elt [⟨tg, iter, ifs, 0⟩] scope gpos] [] pos) (dSumG (own.map (·.2)) di g dt de) := fun Wish tk => by
  obtain ⟨wi, hwi, him⟩ := gx_imp (a0 := (0 : Int)) (pt := pt) (pe := pe) (g := g) (dt := dt) (de := de) hT step_sum hi hsl tk
  exact (pe_gsum O hwi hg (fun A s H code fp pn r => ht A s H code fp pn r _ takes_gx) (fun A s H code fp pn r => he A s H code fp pn r _ takes_gx) hs hst hgl hm hbt).imp him
/-- what a text tells of a generator expression's place -/
theorem gxOk {Tl : List (Addr × Str)} {c P : Addr} (hN : X.N.Nodup) (tb : LamX.TabB X.base X.mg c P) (cd : X.env.code = .ref c) (mem : (P, X.env.qual ++ "<genexpr>") ∈ Tl) (uniq : ∀ p ∈ Tl, p.1 = P → p.2 = X.env.qual ++ "<genexpr>") (room : Room (k + 3) X.A)
    (h : (blkC X.N X.env.scope scope own && (!scope.isCoroutine && (decide (scope.names.lookup (".0" : Str) = some NameKind.local) && scope.names.all fun y => decide (y.2 ≠ .cell)))) = true) : GxOk X Tl scope own k c P := by
  simp only [Bool.and_eq_true, decide_eq_true_eq, Bool.not_eq_true', List.all_eq_true] at h
  exact ⟨hN, tb, cd, mem, uniq, h.2.1, h.2.2.1, blkOk_by h.1, h.2.2.2, room⟩
end
end CardH
end
section
set_option maxHeartbeats 2000000
namespace CardH
open PySem PySem.Spec PyProof.Rows L2 LamX

/-! ### the law's own def -/
section
variable {P : Program} {w : World} {base : Heap} {kt : Kt}
theorem fnOk_ofD {x qual : Str} {params : Arguments} {body : List Stmt} {scope : Scope} {pp : Str × Option Str} {N ps : List Str} {k : Nat} {fd : FuncData} (F : FunD kt.K x qual params body scope [] [] (He.fAd kt.K pp) fd) (S : FnScope N ps scope) (d : DS)
    (hbody : ∀ (A : Around) (outer : List Env) (s : Shared) (H : Hp) (E : XK) (W0 : Wd), Room k (A.deeper (envOfC qual scope s.heap.objs.size (He.fAd kt.K pp) (.ref (He.codeOf kt.K pp)))) →
      SSs kt ⟨W0, false, false⟩ (cxOf (L2.CX P w) P w kt.K kt.mg base N qual scope (He.fAd kt.K pp) (.ref (He.codeOf kt.K pp)) A outer s H E) body d) : FnOk P w kt.K kt.mg base (L2.CX P w) (k + 1) (He.fAd kt.K pp) fd ps (spD kt ps.length (runF N.length d)) := by
  obtain ⟨⟨oc, od, dV, kV, doc, pm, an, cdv, ct, osl, rfl, lk, hcd, hdv, hkw⟩, kp⟩ := F
  have hdV : dV = .none := by
    rcases hdv with ⟨_, e⟩ | ⟨e, _⟩
    · exact e
    · exact absurd rfl e
  subst hdV
  obtain ⟨c, rfl⟩ := He.codeIn_ref hcd
  have ec : He.codeOf kt.K pp = c := He.codeOf_eq lk rfl
  rw [ec] at hbody
  refine fn_of lk hcd S (fun vs H Q E ⟨W, G, xs, e, ok, nl, r, hl, q⟩ => by rw [← r.length]; exact hl) fun A outer s H vs Q E hr ⟨W, G, xs, e, ok, nl, r, hl, q⟩ => ?_
  subst e
  have tk : Takes (cxOf (L2.CX P w) P w kt.K kt.mg base N qual scope (He.fAd kt.K pp) (.ref c) A outer s W.H E) (fun cls d _ H => E cls d H) := takes_of rfl rfl rfl rfl
  refine ⟨_, hbody A outer s W.H E W hr _ tk, W, startE N.length xs, G, rfl, ⟨ok, start_re r _, Ext.refl, fun _ => nl⟩, ?_⟩
  unfold runF at q
  cases e : d (startE N.length xs) G with
  | bad => rw [e] at q; exact q
  | nx e' G' => rw [e] at q; exact fun W' σ _ A => q W' .non A.si A.ok (A.nl rfl) rfl
  | bk e' G' => rw [e] at q; exact q.elim
  | ct e' G' => rw [e] at q; exact q.elim
  | rt v G' => rw [e] at q; exact fun W' w _ A r => q W' w A.si A.ok (A.nl rfl) r
  | ex c e' G' => rw [e] at q; exact fun W' σ od _ A z => q W' od A.si A.ok (A.nl rfl) z
/-- at the law's call: a script, the tables empty -/
theorem sp_law {H : Hp} {a : Addr} {ns : List Int} {Φ : FT} {Tl : List (Addr × Str)} (hT : kt.T = tabsOf Tl) (h0 : ∀ p ∈ Tl, H p.1 = some (.tbl #[])) (hS : SqL kt.K H a (ns.map V.int)) (h : ∃ G', Φ [.scr ns] [] = .ok (.bl true) G') :
    spD kt 1 Φ [.ref a] H (fun v _ => v = .bl true) fun _ _ _ => False := by
  obtain ⟨G', h⟩ := h
  refine ⟨⟨fun _ => .no, [], H⟩, [], [.scr ns], rfl, ⟨fun a h => absurd rfl h, ⟨rfl, fun i o hi => by simp at hi⟩, ?_, fun _ _ _ => trivial⟩, fun a o u _ => rfl, ⟨.ref a, [], rfl, ⟨a, rfl, ?_⟩, rfl⟩, rfl, ?_⟩
  · rw [hT]
    intro q hq
    obtain ⟨p, hp, rfl⟩ := List.mem_map.mp hq
    exact NdefX.TabN.nil (h0 p hp)
  · rcases hS with z | ⟨o, its, n, h1, h2, h3, h4, h5, h6⟩
    · exact .inl ⟨rfl, z⟩
    · exact .inr ⟨o, its, n, h1, h2, h3, h4, h5, h6⟩
  · rw [h]
    exact fun W' v _ _ _ r => r
end
end CardH
end
section
set_option maxHeartbeats 2000000
namespace CardH
open PySem PySem.Spec PyProof.Rows L2

/-! ### what the operators are on plain values -/
theorem vEq_int (i j : Int) : vEq (.int i) (.int j) = some (.bl (decide (i = j))) := by
  first | rfl | simp [vEq, py, PyData.eqv] | (unfold vEq; rfl)
theorem vNe_int (i j : Int) : vNe (.int i) (.int j) = some (.bl (!decide (i = j))) := by
  first | rfl | simp [vNe, py, PyData.eqv] | (unfold vNe; rfl)
theorem vEq_str (a b : Str) : vEq (.str a) (.str b) = some (.bl (decide (a = b))) := by
  have e : (a == b) = decide (a = b) := by rw [Bool.eq_iff_iff]; simp
  simp [vEq, py, PyData.eqv, e]
theorem vNe_str (a b : Str) : vNe (.str a) (.str b) = some (.bl (!decide (a = b))) := by
  have e : (a == b) = decide (a = b) := by rw [Bool.eq_iff_iff]; simp
  simp [vNe, py, PyData.eqv, e]
theorem vFdiv_int (i j : Int) (h0 : 0 < j) (h1 : j < 4611686018427387904) : vFdiv (.int i) (.int j) = some (.int (i / j)) := by
  have h2 := sm62_of (i := j) (by omega)
  unfold vFdiv vInt
  simp [h0, h2]
theorem vMod_int (i j : Int) (h0 : 0 < j) : vMod (.int i) (.int j) = some (.int (i % j)) := by
  unfold vMod vInt
  simp [h0]
theorem vSub_int (i j : Int) : vSub (.int i) (.int j) = some (.int (i - j)) := rfl
theorem vAdd_int (i j : Int) : vAdd (.int i) (.int j) = some (.int (i + j)) := rfl
mutual
theorem eqv_refl : ∀ (x : Vl) (n : Nat) (d : PyData), py x n = some d → PyData.eqv d d = true
  | .non, _, _, e => by cases e; rfl
  | .bl b, _, _, e => by cases e; simp [PyData.eqv]
  | .int i, _, _, e => by cases e; simp [PyData.eqv]
  | .str x, _, _, e => by cases e; simp [PyData.eqv]
  | .tup xs, n + 1, d, e => by
    obtain ⟨ds, e1, rfl⟩ := Option.map_eq_some_iff.mp e
    simpa [PyData.eqv] using eqv_reflL xs n ds e1
  | .stp xs, n + 1, d, e => by
    obtain ⟨ds, e1, rfl⟩ := Option.map_eq_some_iff.mp e
    simpa [PyData.eqv] using eqv_reflL xs n ds e1
  | .ktp xs, n + 1, d, e => by
    obtain ⟨ds, e1, rfl⟩ := Option.map_eq_some_iff.mp e
    simpa [PyData.eqv] using eqv_reflL xs n ds e1
  | .lst xs, n + 1, d, e => by
    obtain ⟨ds, e1, rfl⟩ := Option.map_eq_some_iff.mp e
    simpa [PyData.eqv] using eqv_reflL xs n ds e1
  | .tup _, 0, _, e => by cases e
  | .ktp _, 0, _, e => by cases e
  | .stp _, 0, _, e => by cases e
  | .lst _, 0, _, e => by cases e
  | .dct _ _, _, _, e => by cases e
  | .ref _, _, _, e => by cases e
  | .scr _, _, _, e => by cases e
theorem eqv_reflL : ∀ (xs : List Vl) (n : Nat) (ds : List PyData), pys xs n = some ds → PyData.eqvAll ds ds = true
  | [], _, _, e => by cases e; rfl
  | x :: xs, n, ds, e => by
    unfold pys at e
    split at e
    · rename_i d ds' e1 e2
      cases e
      simp [PyData.eqvAll, eqv_refl x n d e1, eqv_reflL xs n ds' e2]
    · cases e
end
/-- a value is what it is -/
theorem vNe_self {x : Vl} {d : PyData} (h : py x 60 = some d) : vNe x x = some (.bl false) := by
  unfold vNe
  simp only [h, eqv_refl x 60 d h, Bool.not_true]
theorem vEq_self {x : Vl} {d : PyData} (h : py x 60 = some d) : vEq x x = some (.bl true) := by
  unfold vEq
  simp only [h, eqv_refl x 60 d h]
end CardH
end
section
set_option maxHeartbeats 2000000
namespace CardH
open PySem PySem.Spec PyProof.Rows L2

/-! ### running denotations by rewriting -/
def Wp (r : SR) (P : SR → Prop) : Prop := P r
def sqK (b : DS) (P : SR → Prop) : SR → Prop
  | .nx e G => Wp (b e G) P
  | r => P r
def nxP (I : LEnv → Gst → Prop) : SR → Prop
  | .nx e G => I e G
  | .ct e G => I e G
  | _ => False
def rtP (v : Vl) (Q : Gst → Prop) : SR → Prop
  | .rt w G => w = v ∧ Q G
  | _ => False
theorem wp_seq {a b : DS} {e : LEnv} {G : Gst} {P : SR → Prop} (h : Wp (a e G) (sqK b P)) : Wp (dSeq a b e G) P := by
  unfold dSeq
  cases q : a e G <;> rw [q] at h <;> exact h
theorem wp_seqE {a b : DS} {e : LEnv} {G : Gst} {P : SR → Prop} : Wp (dSeq a b e G) P = Wp (a e G) (sqK b P) := by
  unfold dSeq
  cases a e G <;> rfl
theorem wp_nxK {b : DS} {e : LEnv} {G : Gst} {P : SR → Prop} : Wp (.nx e G) (sqK b P) = Wp (b e G) P := rfl
theorem wp_rtK {b : DS} {v : Vl} {G : Gst} {P : SR → Prop} : Wp (.rt v G) (sqK b P) = Wp (.rt v G) P := rfl
theorem wp_ctK {b : DS} {e : LEnv} {G : Gst} {P : SR → Prop} : Wp (.ct e G) (sqK b P) = Wp (.ct e G) P := rfl
theorem wp_bkK {b : DS} {e : LEnv} {G : Gst} {P : SR → Prop} : Wp (.bk e G) (sqK b P) = Wp (.bk e G) P := rfl
theorem wp_exK {b : DS} {c : Ex} {e : LEnv} {G : Gst} {P : SR → Prop} : Wp (.ex c e G) (sqK b P) = Wp (.ex c e G) P := rfl
theorem wp_nxP {I : LEnv → Gst → Prop} {e : LEnv} {G : Gst} : Wp (.nx e G) (nxP I) = I e G := rfl
theorem wp_rtP {v w : Vl} {G : Gst} {Q : Gst → Prop} : Wp (.rt w G) (rtP v Q) = (w = v ∧ Q G) := rfl
theorem wp_ite {c : Prop} [Decidable c] {a b : SR} {P : SR → Prop} : Wp (if c then a else b) P = ((c → Wp a P) ∧ (¬ c → Wp b P)) := by
  by_cases h : c <;> simp [h]
theorem runF_rt {n : Nat} {D : DS} {xs : List Vl} {G : Gst} {v : Vl} {Q : Gst → Prop} (h : Wp (D (startE n xs) G) (rtP v Q)) : ∃ G', runF n D xs G = .ok v G' ∧ Q G' := by
  unfold runF
  cases q : D (startE n xs) G <;> rw [q] at h
  case rt w G' => obtain ⟨rfl, h⟩ := h; exact ⟨G', rfl, h⟩
  all_goals exact h.elim
theorem wp_forL {g : DG} {db : DS} {P : SR → Prop} (I : LEnv → Gst → Prop) : ∀ {xs : List Vl} {e : LEnv} {G : Gst}, I e G →
    (∀ x ∈ xs, ∀ e G, I e G → ∃ e1, g e x = some e1 ∧ Wp (db e1 G) (nxP I)) → (∀ e G, I e G → Wp (.nx e G) P) → Wp (forL g db xs e G) P
  | [], e, G, h0, _, k => k e G h0
  | x :: xs, e, G, h0, st, k => by
    obtain ⟨e1, h1, h2⟩ := st x (by simp) e G h0
    unfold forL
    rw [h1]
    dsimp only
    cases q : db e1 G <;> rw [q] at h2
    case nx e2 G2 => exact wp_forL I h2 (fun y hy => st y (by simp [hy])) k
    case ct e2 G2 => exact wp_forL I h2 (fun y hy => st y (by simp [hy])) k
    all_goals exact h2.elim
theorem wp_forI {i : Nat} {db : DS} {P : SR → Prop} (I : LEnv → Gst → Prop) {xs : List Vl} {e : LEnv} {G : Gst} (h0 : I e G)
    (st : ∀ x ∈ xs, ∀ e G, I e G → Wp (db (e.set i (some (.val x))) G) (nxP I)) (k : ∀ e G, I e G → Wp (.nx e G) P) : Wp (forL (gSet i) db xs e G) P :=
  wp_forL I h0 (fun x hx e G h => ⟨_, rfl, st x hx e G h⟩) k
/-- a for over one thing -/
theorem wp_for1 {i : Nat} {db : DS} {P : SR → Prop} {x : Vl} {e : LEnv} {G : Gst} (h : Wp (db (e.set i (some (.val x))) G) (nxP fun e G => Wp (.nx e G) P)) : Wp (forL (gSet i) db [x] e G) P :=
  by
    unfold forL gSet
    dsimp only
    cases q : db (e.set i (some (.val x))) G <;> rw [q] at h
    case nx e2 G2 => exact h
    case ct e2 G2 => exact h
    all_goals exact h.elim
def seqR (r : SR) (b : DS) : SR := (fun _ : Nat => match r with
  | .nx e G => b e G
  | r => r) hgt3
theorem dSeq_ev {a b : DS} {e : LEnv} {G : Gst} : dSeq a b e G = seqR (a e G) b := by
  unfold dSeq
  cases a e G <;> rfl
theorem seqR_nx {b : DS} {e : LEnv} {G : Gst} : seqR (.nx e G) b = b e G := rfl
theorem seqR_rt {b : DS} {v : Vl} {G : Gst} : seqR (.rt v G) b = .rt v G := rfl
theorem seqR_ct {b : DS} {e : LEnv} {G : Gst} : seqR (.ct e G) b = .ct e G := rfl
theorem seqR_bk {b : DS} {e : LEnv} {G : Gst} : seqR (.bk e G) b = .bk e G := rfl
theorem seqR_ex {b : DS} {c : Ex} {e : LEnv} {G : Gst} : seqR (.ex c e G) b = .ex c e G := rfl
theorem seqR_ite {c : Prop} [Decidable c] {a b : SR} {d : DS} : seqR (if c then a else b) d = if c then seqR a d else seqR b d := by
  by_cases h : c <;> simp [h]
def resR (r : SR) : R Vl := (fun _ : Nat => match r with
  | .nx _ G => .ok .non G
  | .rt v G => .ok v G
  | .ex c _ G => .exn c G
  | _ => .bad) hgt3
theorem runF_ev {n : Nat} {D : DS} {xs : List Vl} {G : Gst} : runF n D xs G = resR (D (startE n xs) G) := by
  unfold runF
  cases D (startE n xs) G <;> rfl
theorem resR_nx {e : LEnv} {G : Gst} : resR (.nx e G) = .ok .non G := rfl
theorem resR_rt {v : Vl} {G : Gst} : resR (.rt v G) = .ok v G := rfl
theorem resR_ex {c : Ex} {e : LEnv} {G : Gst} : resR (.ex c e G) = .exn c G := rfl
theorem resR_ite {c : Prop} [Decidable c] {a b : SR} : resR (if c then a else b) = if c then resR a else resR b := by
  by_cases h : c <;> simp [h]
section
variable {α β : Type}
theorem bind_ite {c : Prop} [Decidable c] {a b : R α} {f : α → Gst → R β} : R.bind (if c then a else b) f = if c then a.bind f else b.bind f := by
  by_cases h : c <;> simp [h]
theorem sb_ite {c : Prop} [Decidable c] {e : LEnv} {a b : R α} {f : α → Gst → SR} : sb e (if c then a else b) f = if c then sb e a f else sb e b f := by
  by_cases h : c <;> simp [h]
theorem opt_some {x : α} {G : Gst} : opt (some x) G = .ok x G := rfl
theorem opt_ite {c : Prop} [Decidable c] {a b : Option α} {G : Gst} : opt (if c then a else b) G = if c then opt a G else opt b G := by
  by_cases h : c <;> simp [h]
end
def tbK (v : Vl) (G : Gst) : R Bool := (fun _ : Nat => match v with
  | .bl b => .ok b G
  | _ => .bad) hgt3
theorem dTB_ev {d : DE} {e : LEnv} {G : Gst} : dTB d e G = (d e G).bind tbK := rfl
theorem tbK_bl {b : Bool} {G : Gst} : tbK (.bl b) G = .ok b G := rfl
theorem dIfS_ev {t : DT} {a b : DS} {e : LEnv} {G : Gst} : dIfS t a b e G = sb e (t e G) fun c G1 => if c = true then a e G1 else b e G1 := by
  unfold dIfS
  congr
  funext c G1
  cases c <;> rfl
def toldR (tf : Ex → Option Str) (r : R Vl) : R Vl := (fun _ : Nat => match r with
  | .ok v G1 => .ok v G1
  | .exn c G1 => match tf c with
    | some r => .ok (.str r) G1
    | none => .bad
  | .bad => .bad) hgt3
theorem dTold_ev {tf : Ex → Option Str} {d : DE} {e : LEnv} {G : Gst} : dTold tf d e G = toldR tf (d e G) := by
  unfold dTold toldR
  cases d e G <;> rfl
theorem toldR_ok {tf : Ex → Option Str} {v : Vl} {G : Gst} : toldR tf (.ok v G) = .ok v G := rfl
theorem toldR_exn {tf : Ex → Option Str} {c : Ex} {G : Gst} {r : Str} (h : tf c = some r) : toldR tf (.exn c G) = .ok (.str r) G := by
  unfold toldR
  dsimp only
  rw [h]
theorem toldR_ite {tf : Ex → Option Str} {c : Prop} [Decidable c] {a b : R Vl} : toldR tf (if c then a else b) = if c then toldR tf a else toldR tf b := by
  by_cases h : c <;> simp [h]
def chK (o' : Vl → Vl → Option Vl) (y : Vl) (dc : DE) (e : LEnv) : Vl → Gst → R Vl
  | .bl true, G2 => (dc e G2).bind fun z G3 => opt (o' y z) G3
  | .bl false, G2 => .ok (.bl false) G2
  | _, _ => .bad
theorem dChain_ev {o o' : Vl → Vl → Option Vl} {da db dc : DE} {e : LEnv} {G : Gst} : dChain o o' da db dc e G = (da e G).bind fun x G1 => (db e G1).bind fun y G2 => (opt (o x y) G2).bind (chK o' y dc e) := by
  unfold dChain
  congr
  funext x G1
  congr
  funext y G2
  cases o x y with
  | none => rfl
  | some z =>
    cases z with
    | bl b => cases b <;> rfl
    | _ => rfl
theorem chK_bl {o' : Vl → Vl → Option Vl} {y : Vl} {dc : DE} {e : LEnv} {b : Bool} {G : Gst} : chK o' y dc e (.bl b) G = if b = true then (dc e G).bind fun z G3 => opt (o' y z) G3 else .ok (.bl false) G := by
  cases b <;> rfl
/-- objects -/
def Gst.obj (G : Gst) (i : Nat) : Option Ob := G[i]?
def methK (C n : Nat) (Φ : FT) (ds : DA) (e : LEnv) (x : Vl) (G1 : Gst) : Option Ob → R Vl
  | some (.ins C' _) => if C' = C then (ds e G1).bind fun xs G2 => if xs.length + 1 = n then Φ (x :: xs) G2 else .bad else .bad
  | _ => .bad
theorem dMeth_ev {C n i : Nat} {Φ : FT} {d : DE} {ds : DA} {e : LEnv} {G G1 : Gst} {fs : List (Nat × Fv)} (h : d e G = .ok (.ref i) G1) (hG : G1[i]? = some (.ins C fs)) :
    dMeth C n Φ d ds e G = (ds e G1).bind fun xs G2 => if xs.length + 1 = n then Φ (.ref i :: xs) G2 else .bad := by
  unfold dMeth
  simp only [h, R.bind_ok, hG, if_true]
theorem dFld_ev {f i C : Nat} {d : DE} {e : LEnv} {G G1 : Gst} {fs : List (Nat × Fv)} {x : Vl} (h : d e G = .ok (.ref i) G1) (hG : G1[i]? = some (.ins C fs)) (hf : fs.lookup f = some (.val x)) : dFld f d e G = .ok x G1 := by
  unfold dFld
  simp only [h, R.bind_ok, hG, hf]

/-! ### slices, subscripts -/
section
variable {α : Type}
theorem cutL_to (xs : List α) (n : Nat) : cutL xs none (some (n : Int)) = xs.take n := by
  unfold cutL
  rw [HT.sIx_nat, HT.sIx_none]
  simp only [List.drop_zero, Nat.sub_zero]
  rcases Nat.le_total n xs.length with h | h
  · rw [Nat.min_eq_left h]
  · rw [Nat.min_eq_right h, List.take_of_length_le (Nat.le_refl _), List.take_of_length_le h]
theorem cutL_from (xs : List α) (n : Nat) : cutL xs (some (n : Int)) none = xs.drop n := by
  unfold cutL
  rw [HT.sIx_nat, HT.sIx_none]
  rcases Nat.le_total n xs.length with h | h
  · rw [Nat.min_eq_left h, List.take_of_length_le (by simp)]
  · rw [Nat.min_eq_right h, List.drop_of_length_le h]
    simp
theorem cutL_mid (xs : List α) (a b : Nat) : cutL xs (some (a : Int)) (some (b : Int)) = (xs.drop a).take (b - a) := by
  unfold cutL
  rw [HT.sIx_nat, HT.sIx_nat]
  rcases Nat.le_total a xs.length with h | h
  · rw [Nat.min_eq_left h]
    rcases Nat.le_total b xs.length with g | g
    · rw [Nat.min_eq_left g]
    · rw [Nat.min_eq_right g, List.take_of_length_le (by simp), List.take_of_length_le (by simp; omega)]
  · rw [Nat.min_eq_right h, List.drop_of_length_le h, List.drop_of_length_le (Nat.le_refl _)]
    simp
theorem cutL_toI (xs : List α) {i : Int} (h : 0 ≤ i) : cutL xs none (some i) = xs.take i.toNat := by
  obtain ⟨n, rfl⟩ : ∃ n : Nat, i = n := ⟨i.toNat, by omega⟩
  rw [cutL_to]; rfl
theorem cutL_fromI (xs : List α) {i : Int} (h : 0 ≤ i) : cutL xs (some i) none = xs.drop i.toNat := by
  obtain ⟨n, rfl⟩ : ∃ n : Nat, i = n := ⟨i.toNat, by omega⟩
  rw [cutL_from]; rfl
theorem cutL_midI (xs : List α) {i j : Int} (h : 0 ≤ i) (h' : 0 ≤ j) : cutL xs (some i) (some j) = (xs.drop i.toNat).take (j.toNat - i.toNat) := by
  obtain ⟨n, rfl⟩ : ∃ n : Nat, i = n := ⟨i.toNat, by omega⟩
  obtain ⟨m, rfl⟩ : ∃ m : Nat, j = m := ⟨j.toNat, by omega⟩
  rw [cutL_mid]; rfl
theorem cutL_all (xs : List α) : cutL xs none none = xs := by
  unfold cutL
  rw [HT.sIx_none, HT.sIx_none]
  simp
end
theorem isWhole_ite {xs : List Vl} {lo hi : Option Int} : (if isWhole xs.length lo hi = true then Vl.tup xs else Vl.tup (cutL xs lo hi)) = .tup (cutL xs lo hi) := by
  by_cases h : isWhole xs.length lo hi = true
  · rw [if_pos h]
    unfold isWhole at h
    simp only [Bool.and_eq_true, beq_iff_eq] at h
    unfold cutL
    rw [h.1, h.2]
    simp
  · rw [if_neg h]
theorem vSl_tup {G : Gst} {xs : List Vl} {lo hi : Option Int} : vSl G (.tup xs) lo hi = some (.tup (cutL xs lo hi)) := by
  exact congrArg some isWhole_ite
theorem vSl_lst {G : Gst} {xs : List Vl} {lo hi : Option Int} : vSl G (.lst xs) lo hi = some (.lst (cutL xs lo hi)) := rfl
section
variable {α : Type}
theorem atI_nat (xs : List α) (k : Nat) : atI xs (k : Int) = xs[k]? := by
  unfold atI ixN
  rw [if_pos (by omega)]
  by_cases h : k < xs.length
  · rw [if_pos (by omega)]; simp
  · rw [if_neg (by omega)]
    simp only [Option.bind_none]
    rw [List.getElem?_eq_none (by omega)]
theorem atI_neg (xs : List α) (k : Nat) (h : 0 < k) : atI xs (-(k : Int)) = if k ≤ xs.length then xs[xs.length - k]? else none := by
  unfold atI ixN
  rw [if_neg (by omega)]
  by_cases g : k ≤ xs.length
  · rw [if_pos (by omega), if_pos g]
    simp only [Option.bind_some]
    congr 1
    omega
  · rw [if_neg (by omega), if_neg g]; rfl
end
theorem atI_int {α : Type} (xs : List α) {i : Int} (h : 0 ≤ i) : atI xs i = xs[i.toNat]? := by
  obtain ⟨n, rfl⟩ : ∃ n : Nat, i = n := ⟨i.toNat, by omega⟩
  rw [atI_nat]; rfl
theorem vIx_lst {G : Gst} {xs : List Vl} {k : Int} : vIx G (.lst xs) (.int k) = atI xs k := rfl
theorem vIx_tup {G : Gst} {xs : List Vl} {k : Int} : vIx G (.tup xs) (.int k) = atI xs k := rfl

/-! ### equality -/
mutual
/-- plain data, not deep -/
def gd : Nat → Vl → Bool
  | _, .non => true
  | _, .bl _ => true
  | _, .int _ => true
  | _, .str _ => true
  | n + 1, .tup xs => gds n xs
  | n + 1, .ktp xs => gds n xs
  | n + 1, .stp xs => gds n xs
  | n + 1, .lst xs => gds n xs
  | _, _ => false
def gds : Nat → List Vl → Bool
  | _, [] => true
  | n, x :: xs => gd n x && gds n xs
end
mutual
theorem gd_py : ∀ (x : Vl) (n : Nat), gd n x = true → ∃ d, py x n = some d
  | .non, _, _ => ⟨_, rfl⟩
  | .bl _, _, _ => ⟨_, rfl⟩
  | .int _, _, _ => ⟨_, rfl⟩
  | .str _, _, _ => ⟨_, rfl⟩
  | .tup xs, n + 1, h => by obtain ⟨d, e⟩ := gds_pys xs n h; exact ⟨_, congrArg (Option.map _) e⟩
  | .ktp xs, n + 1, h => by obtain ⟨d, e⟩ := gds_pys xs n h; exact ⟨_, congrArg (Option.map _) e⟩
  | .stp xs, n + 1, h => by obtain ⟨d, e⟩ := gds_pys xs n h; exact ⟨_, congrArg (Option.map _) e⟩
  | .lst xs, n + 1, h => by obtain ⟨d, e⟩ := gds_pys xs n h; exact ⟨_, congrArg (Option.map _) e⟩
  | .tup _, 0, h => by cases h
  | .ktp _, 0, h => by cases h
  | .stp _, 0, h => by cases h
  | .lst _, 0, h => by cases h
  | .dct _ _, 0, h => by cases h
  | .dct _ _, _ + 1, h => by cases h
  | .ref _, 0, h => by cases h
  | .ref _, _ + 1, h => by cases h
  | .scr _, 0, h => by cases h
  | .scr _, _ + 1, h => by cases h
theorem gds_pys : ∀ (xs : List Vl) (n : Nat), gds n xs = true → ∃ ds, pys xs n = some ds
  | [], _, _ => ⟨_, rfl⟩
  | x :: xs, n, h => by
    unfold gds at h
    simp only [Bool.and_eq_true] at h
    obtain ⟨d, e⟩ := gd_py x n h.1
    obtain ⟨ds, e'⟩ := gds_pys xs n h.2
    exact ⟨d :: ds, by unfold pys; rw [e, e']⟩
end
theorem gds_append : ∀ (xs ys : List Vl) (n : Nat), gds n (xs ++ ys) = (gds n xs && gds n ys)
  | [], _, _ => rfl
  | x :: xs, ys, n => by
    show (gd n x && gds n (xs ++ ys)) = (gd n x && gds n xs && gds n ys)
    rw [gds_append xs ys n, Bool.and_assoc]
theorem gds_all : ∀ (xs : List Vl) (n : Nat), gds n xs = xs.all (gd n)
  | [], _ => rfl
  | x :: xs, n => by
    unfold gds
    rw [gds_all xs n]; rfl
theorem gds_map {α : Type} (f : α → Vl) (l : List α) (n : Nat) (h : ∀ a, gd n (f a) = true) : gds n (l.map f) = true := by
  rw [gds_all]
  simp [h]
theorem gd_str {n : Nat} {s : Str} : gd n (.str s) = true := by cases n <;> rfl
theorem gd_int {n : Nat} {i : Int} : gd n (.int i) = true := by cases n <;> rfl
theorem gd_bl {n : Nat} {b : Bool} : gd n (.bl b) = true := by cases n <;> rfl
theorem gd_non {n : Nat} : gd n .non = true := by cases n <;> rfl
theorem gd_tup {n : Nat} {xs : List Vl} : gd (n + 1) (.tup xs) = gds n xs := rfl
theorem gd_lst {n : Nat} {xs : List Vl} : gd (n + 1) (.lst xs) = gds n xs := rfl
theorem gds_nil {n : Nat} : gds n [] = true := by unfold gds; rfl
theorem gds_cons {n : Nat} {x : Vl} {xs : List Vl} : gds n (x :: xs) = (gd n x && gds n xs) := by conv => lhs; unfold gds
theorem gds_str {n : Nat} {l : List Str} : gds n (l.map .str) = true := gds_map _ _ _ fun _ => gd_str
theorem gds_int {n : Nat} {l : List Int} : gds n (l.map .int) = true := gds_map _ _ _ fun _ => gd_int
theorem vNe_same {x : Vl} (h : gd 60 x = true) : vNe x x = some (.bl false) := by
  obtain ⟨d, e⟩ := gd_py x 60 h
  exact vNe_self e
theorem vEq_same {x : Vl} (h : gd 60 x = true) : vEq x x = some (.bl true) := by
  obtain ⟨d, e⟩ := gd_py x 60 h
  exact vEq_self e
theorem vNe_of {x y : Vl} (e : x = y) (h : gd 60 x = true) : vNe x y = some (.bl false) := by
  subst e; exact vNe_same h
theorem vEq_of {x y : Vl} (e : x = y) (h : gd 60 x = true) : vEq x y = some (.bl true) := by
  subst e; exact vEq_same h
theorem pys_nil_eqv : ∀ {xs : List Vl} {n : Nat} {ds : List PyData}, pys xs n = some ds → ds.length = xs.length
  | [], _, _, h => by cases h; rfl
  | x :: xs, n, ds, h => by
    unfold pys at h
    split at h
    · cases h
      rename_i e
      simp [pys_nil_eqv e]
    · cases h
theorem eqvAll_nil (ds : List PyData) : PyData.eqvAll ds [] = ds.isEmpty := by
  cases ds <;> rfl
theorem isEmpty_of_len {α β : Type} {a : List α} {b : List β} (h : a.length = b.length) : a.isEmpty = b.isEmpty := by
  cases a <;> cases b <;> simp at h <;> rfl
theorem vEq_lst0 {xs : List Vl} (h : gds 59 xs = true) : vEq (.lst xs) (.lst []) = some (.bl xs.isEmpty) := by
  obtain ⟨ds, e⟩ := gds_pys xs 59 h
  have e1 : py (.lst xs) 60 = some (.list ds) := congrArg (Option.map _) e
  unfold vEq
  rw [e1]
  show some (Vl.bl (PyData.eqvAll ds [])) = _
  rw [eqvAll_nil, isEmpty_of_len (pys_nil_eqv e)]
theorem vNe_lst0 {xs : List Vl} (h : gds 59 xs = true) : vNe (.lst xs) (.lst []) = some (.bl (!xs.isEmpty)) := by
  obtain ⟨ds, e⟩ := gds_pys xs 59 h
  have e1 : py (.lst xs) 60 = some (.list ds) := congrArg (Option.map _) e
  unfold vNe
  rw [e1]
  show some (Vl.bl (!PyData.eqvAll ds [])) = _
  rw [eqvAll_nil, isEmpty_of_len (pys_nil_eqv e)]
theorem vNe_tup0 {xs : List Vl} (h : gds 59 xs = true) : vNe (.tup xs) (.tup []) = some (.bl (!xs.isEmpty)) := by
  obtain ⟨ds, e⟩ := gds_pys xs 59 h
  have e1 : py (.tup xs) 60 = some (.tuple ds) := congrArg (Option.map _) e
  unfold vNe
  rw [e1]
  show some (Vl.bl (!PyData.eqvAll ds [])) = _
  rw [eqvAll_nil, isEmpty_of_len (pys_nil_eqv e)]
theorem vEq_tup0 {xs : List Vl} (h : gds 59 xs = true) : vEq (.tup xs) (.tup []) = some (.bl xs.isEmpty) := by
  obtain ⟨ds, e⟩ := gds_pys xs 59 h
  have e1 : py (.tup xs) 60 = some (.tuple ds) := congrArg (Option.map _) e
  unfold vEq
  rw [e1]
  show some (Vl.bl (PyData.eqvAll ds [])) = _
  rw [eqvAll_nil, isEmpty_of_len (pys_nil_eqv e)]
theorem pys_strs : ∀ (l : List Str) (n : Nat), pys (l.map .str) n = some (l.map PyData.str)
  | [], _ => rfl
  | i :: l, n => by
    rw [List.map_cons]
    unfold pys
    rw [pys_strs l n]
    rfl
theorem pys_ints : ∀ (l : List Int) (n : Nat), pys (l.map .int) n = some (l.map PyData.int)
  | [], _ => rfl
  | i :: l, n => by
    rw [List.map_cons]
    unfold pys
    rw [pys_ints l n]
    rfl
theorem any_strs (l : List Str) (c : Str) : ((l.map PyData.str).any fun z => PyData.eqv z (.str c)) = l.contains c := by
  induction l with
  | nil => rfl
  | cons a l ih =>
    rw [List.map_cons, List.any_cons, List.contains_cons, ih]
    have : PyData.eqv (.str a) (.str c) = (c == a) := by
      show (a == c) = (c == a)
      exact Bool.eq_iff_iff.mpr ⟨fun h => by rw [beq_iff_eq] at h ⊢; exact h.symm, fun h => by rw [beq_iff_eq] at h ⊢; exact h.symm⟩
    rw [this]
theorem vIn_strsL {l : List Str} {c : Str} : vInV (.str c) (.lst (l.map .str)) = some (.bl (l.contains c)) := by
  have h : vIn (.str c) (.lst (l.map .str)) = some ((l.map PyData.str).any fun z => PyData.eqv z (.str c)) := by
    unfold vIn
    dsimp only
    rw [pys_strs]; rfl
  unfold vInV
  rw [h, any_strs]; rfl
theorem vIn_strsT {l : List Str} {c : Str} : vInV (.str c) (.tup (l.map .str)) = some (.bl (l.contains c)) := by
  have h : vIn (.str c) (.tup (l.map .str)) = some ((l.map PyData.str).any fun z => PyData.eqv z (.str c)) := by
    unfold vIn
    dsimp only
    rw [pys_strs]; rfl
  unfold vInV
  rw [h, any_strs]; rfl
theorem vIsN_non : vIsN .non .non = some (.bl true) := rfl
theorem vLt_int {i j : Int} : vLt (.int i) (.int j) = some (.bl (decide (i < j))) := rfl
theorem vGt_int {i j : Int} : vGt (.int i) (.int j) = some (.bl (decide (j < i))) := rfl
theorem vLe_int {i j : Int} : vLe (.int i) (.int j) = some (.bl (decide (i ≤ j))) := rfl
theorem vGe_int {i j : Int} : vGe (.int i) (.int j) = some (.bl (decide (j ≤ i))) := rfl
theorem vAdd_lst {a b : List Vl} (h : a.length + b.length ≤ 16777216) : vAdd (.lst a) (.lst b) = some (.lst (a ++ b)) := if_pos h
theorem vAdd_tup {a b : List Vl} (h : a.length + b.length ≤ 16777216) : vAdd (.tup a) (.tup b) = some (.tup (a ++ b)) := if_pos h
theorem vMul_int {i j : Int} (h : mulOk i j = true) : vMul (.int i) (.int j) = some (.int (i * j)) := if_pos h
theorem mulOk_r {i j : Int} (h : -18446744073709551616 < j ∧ j < 18446744073709551616) : mulOk i j = true := by
  unfold mulOk
  rw [sm64_of h, Bool.or_true]
theorem mulOk_l {i j : Int} (h : -18446744073709551616 < i ∧ i < 18446744073709551616) : mulOk i j = true := by
  unfold mulOk
  rw [sm64_of h, Bool.true_or]
theorem vMul_l {i : Int} (h : -18446744073709551616 < i ∧ i < 18446744073709551616) (j : Int) : vMul (.int i) (.int j) = some (.int (i * j)) := vMul_int (mulOk_l h)
theorem vMul_r {j : Int} (h : -18446744073709551616 < j ∧ j < 18446744073709551616) (i : Int) : vMul (.int i) (.int j) = some (.int (i * j)) := vMul_int (mulOk_r h)
theorem set_get {G : Gst} {i : Nat} {o u : Ob} (h : G[i]? = some o) : (G.set i u)[i]? = some u := by
  simp [(List.getElem?_eq_some_iff.mp h).1]
theorem nodup_mid {α : Type} {a b : List α} {c : α} : (a ++ c :: b).Nodup ↔ c ∉ a ++ b ∧ (a ++ b).Nodup := by
  rw [List.Perm.nodup_iff List.perm_middle, List.nodup_cons]
theorem rng1_nat (n : Nat) (h : n < 4611686018427387904) : rng1 [.int (n : Nat)] = some (rgL 0 n) := if_pos (sm62_of (by omega))
theorem rng2_int (i j : Int) (h : -4611686018427387904 < i ∧ i < 4611686018427387904 ∧ -4611686018427387904 < j ∧ j < 4611686018427387904) : rng2 [.int i, .int j] = some (rgL i (j - i).toNat) := if_pos ⟨sm62_of ⟨h.1, h.2.1⟩, sm62_of h.2.2⟩
theorem rng3_down (i j : Int) (h : -4611686018427387904 < i ∧ i < 4611686018427387904 ∧ -4611686018427387904 < j ∧ j < 4611686018427387904) : rng3 [.int i, .int j, .int (-1)] = some (rgC i (-1) (i - j).toNat) := if_pos ⟨rfl, sm62_of ⟨h.1, h.2.1⟩, sm62_of h.2.2⟩
/-! ### comprehensions -/
section
variable {α : Type} {g : DG} {dt : DT} {de : DE} {e0 env : LEnv} {G G1 : Gst} {vs : List Nat} {di : DI}
theorem compL_tm (c : α → Vl) (p : α → Bool) (f : α → Vl) : ∀ (l : List α), (∀ a ∈ l, ∃ e, g e0 (c a) = some e ∧ dt e G = .ok (p a) G ∧ (p a = true → de e G = .ok (f a) G)) →
    compL g dt de e0 (l.map c) G = .ok ((l.filter p).map f) G
  | [], _ => rfl
  | a :: l, h => by
    obtain ⟨e, h1, h2, h3⟩ := h a (by simp)
    have ih := compL_tm c p f l fun b hb => h b (by simp [hb])
    rw [List.map_cons]
    unfold compL
    rw [h1]
    dsimp only
    rw [h2, R.bind_ok]
    cases hp : p a with
    | true =>
      dsimp only
      rw [h3 hp, R.bind_ok, ih, R.bind_ok, List.filter_cons_of_pos hp]; rfl
    | false =>
      dsimp only
      rw [ih, List.filter_cons_of_neg (by simp [hp])]
theorem dLc_tm (l : List α) (c : α → Vl) (p : α → Bool) (f : α → Vl) (hdi : di env G = .ok (l.map c) G1) (h : ∀ a ∈ l, ∃ e, g (wipeE env vs) (c a) = some e ∧ dt e G1 = .ok (p a) G1 ∧ (p a = true → de e G1 = .ok (f a) G1)) (hl : l.length ≤ 16777216) :
    dLc vs di g dt de env G = .ok (.lst ((l.filter p).map f)) G1 := by
  unfold dLc
  rw [hdi, R.bind_ok, compL_tm c p f l h]
  show (if _ then _ else _) = _
  have : (l.filter p).length ≤ l.length := List.length_filter_le p l
  rw [if_pos (by simp; omega)]
theorem dLc_map (l : List α) (c : α → Vl) (f : α → Vl) (hdi : di env G = .ok (l.map c) G1) (h : ∀ a ∈ l, ∃ e, g (wipeE env vs) (c a) = some e ∧ de e G1 = .ok (f a) G1) (hl : l.length ≤ 16777216) :
    dLc vs di g dYes de env G = .ok (.lst (l.map f)) G1 := by
  rw [dLc_tm l c (fun _ => true) f hdi (fun a ha => by obtain ⟨e, h1, h2⟩ := h a ha; exact ⟨e, h1, rfl, fun _ => h2⟩) hl, List.filter_eq_self.mpr fun _ _ => rfl]
/-- a comprehension that draws: what holds of the store is kept -/
theorem compL_dr (S : Gst → Prop) (m : Nat) (f : Nat → Vl) : ∀ (l : List Vl) (G : Gst), S G → (∀ a ∈ l, ∀ G, S G → ∃ e, g e0 a = some e ∧ ∃ k, k < m ∧ ∃ G', de e G = .ok (f k) G' ∧ S G') →
    ∃ (ks : List Nat) (G' : Gst), ks.length = l.length ∧ (∀ k ∈ ks, k < m) ∧ compL g dYes de e0 l G = .ok (ks.map f) G' ∧ S G'
  | [], G, hS, _ => ⟨[], G, rfl, by simp, rfl, hS⟩
  | a :: l, G, hS, h => by
    obtain ⟨e, h1, k, hk, G1, h2, hS1⟩ := h a (by simp) G hS
    obtain ⟨ks, G2, e1, e2, e3, e4⟩ := compL_dr S m f l G1 hS1 fun b hb => h b (by simp [hb])
    refine ⟨k :: ks, G2, by simp [e1], by simpa [hk] using e2, ?_, e4⟩
    unfold compL
    rw [h1]
    dsimp only
    rw [show dYes e G = .ok true G from rfl, R.bind_ok]
    dsimp only
    rw [h2, R.bind_ok, e3, R.bind_ok]; rfl
theorem dLc_dr (S : Gst → Prop) (m : Nat) (f : Nat → Vl) (l : List Vl) (hdi : di env G = .ok l G1) (hS : S G1) (h : ∀ a ∈ l, ∀ G, S G → ∃ e, g (wipeE env vs) a = some e ∧ ∃ k, k < m ∧ ∃ G', de e G = .ok (f k) G' ∧ S G') (hl : l.length ≤ 16777216) :
    ∃ (ks : List Nat) (G' : Gst), ks.length = l.length ∧ (∀ k ∈ ks, k < m) ∧ dLc vs di g dYes de env G = .ok (.lst (ks.map f)) G' ∧ S G' := by
  obtain ⟨ks, G2, e1, e2, e3, e4⟩ := compL_dr S m f l G1 hS h
  refine ⟨ks, G2, e1, e2, ?_, e4⟩
  unfold dLc
  rw [hdi, R.bind_ok, e3]
  show (if _ then _ else _) = _
  rw [if_pos (by rw [List.length_map]; omega)]
end
/-- a for that may return: what it does at the first that answers -/
theorem forL_first {α : Type} {i : Nat} {db : DS} (c : α → Vl) (p : α → Bool) (w : α → Vl) (S : LEnv → Prop) {G : Gst} (hS : ∀ e v, S e → S (e.set i (some (.val v)))) : ∀ (l : List α) (e : LEnv), S e →
    (∀ a ∈ l, ∀ e, S e → db (e.set i (some (.val (c a)))) G = if p a = true then .rt (w a) G else .nx (e.set i (some (.val (c a)))) G) →
    match l.find? p with
    | some a => forL (gSet i) db (l.map c) e G = .rt (w a) G
    | none => ∃ e', S e' ∧ forL (gSet i) db (l.map c) e G = .nx e' G
  | [], e, h, _ => ⟨e, h, rfl⟩
  | a :: l, e, h, st => by
    have h1 := st a (by simp) e h
    have ih := forL_first c p w S hS l (e.set i (some (.val (c a)))) (hS e _ h) fun b hb => st b (by simp [hb])
    rw [List.find?_cons]
    cases hp : p a with
    | true =>
      dsimp only
      rw [hp, if_pos rfl] at h1
      rw [List.map_cons]
      unfold forL gSet
      dsimp only
      rw [h1]
    | false =>
      dsimp only
      rw [hp, if_neg (by simp)] at h1
      have e2 : forL (gSet i) db ((a :: l).map c) e G = forL (gSet i) db (l.map c) (e.set i (some (.val (c a)))) G := by
        rw [List.map_cons]
        conv => lhs; unfold forL
        dsimp only [gSet]
        rw [h1]
      rw [e2]
      exact ih

/-! ### plain laws -/
theorem find_reverse {α : Type} (p : α → Bool) (l : List α) : l.reverse.find? p = (l.filter p).getLast? := by
  induction l with
  | nil => rfl
  | cons a l ih =>
    rw [List.reverse_cons, List.find?_append, ih]
    cases hp : p a with
    | true =>
      rw [List.filter_cons_of_pos hp]
      cases q : (l.filter p).getLast? with
      | none =>
        rw [List.getLast?_eq_none_iff] at q
        simp [q, hp]
      | some b =>
        simp only [Option.some_or]
        rw [List.getLast?_cons, q]; rfl
    | false =>
      rw [List.filter_cons_of_neg (by simp [hp])]
      simp [hp]
theorem foldl_max_incr : ∀ (l : List Int) (x : Int), (x :: l).Pairwise (· < ·) → l.foldl max x = (x :: l).getLast (by simp)
  | [], x, _ => rfl
  | y :: l, x, h => by
    have h1 : x < y := List.rel_of_pairwise_cons h (by simp)
    rw [List.foldl_cons, show max x y = y by omega, foldl_max_incr l y (List.Pairwise.of_cons h)]
    rfl
theorem maxI_incr {l : List Int} (h : l.Pairwise (· < ·)) : maxI l = l.getLast? := by
  cases l with
  | nil => rfl
  | cons x l =>
    show some (l.foldl max x) = _
    rw [foldl_max_incr l x h]
    rfl
theorem foldl_min_incr : ∀ (l : List Int) (x : Int), (x :: l).Pairwise (· < ·) → l.foldl min x = x
  | [], x, _ => rfl
  | y :: l, x, h => by
    have h1 : x < y := List.rel_of_pairwise_cons h (by simp)
    rw [List.foldl_cons, show min x y = x by omega]
    exact foldl_min_incr l x (by
      rw [List.pairwise_cons] at h ⊢
      exact ⟨fun z hz => h.1 z (by simp [hz]), (List.Pairwise.of_cons h.2)⟩)
theorem minI_incr {l : List Int} (h : l.Pairwise (· < ·)) : minI l = l.head? := by
  cases l with
  | nil => rfl
  | cons x l =>
    show some (l.foldl min x) = _
    rw [foldl_min_incr l x h]
    rfl
theorem filter_range_last {n k : Nat} {p : Nat → Bool} (hk : k < n) (pk : p k = true) (above : ∀ j, k < j → j < n → p j = false) : ∃ l, (List.range n).filter p = l ++ [k] := by
  obtain ⟨m, rfl⟩ : ∃ m, n = (k + 1) + m := ⟨n - (k + 1), by omega⟩
  rw [List.range_add, List.filter_append, List.range_succ, List.filter_append]
  refine ⟨(List.range k).filter p, ?_⟩
  have h1 : List.filter p (List.map (fun x => k + 1 + x) (List.range m)) = [] := by
    rw [List.filter_eq_nil_iff]
    intro a ha
    obtain ⟨b, hb, rfl⟩ := List.mem_map.mp ha
    rw [List.mem_range] at hb
    simp [above (k + 1 + b) (by omega) (by omega)]
  rw [h1]
  simp [pk]
theorem vEq_ints {a b : List Int} : vEq (.lst (a.map .int)) (.lst (b.map .int)) = some (.bl (decide (a = b))) := by
  have h : ∀ a b : List Int, PyData.eqvAll (a.map PyData.int) (b.map PyData.int) = decide (a = b) := by
    intro a
    induction a with
    | nil => intro b; cases b <;> rfl
    | cons x a ih =>
      intro b
      cases b with
      | nil => rfl
      | cons y b =>
        show (PyData.eqv (.int x) (.int y) && PyData.eqvAll (a.map PyData.int) (b.map PyData.int)) = _
        rw [ih]
        have : PyData.eqv (.int x) (.int y) = decide (x = y) := by
          rw [Bool.eq_iff_iff]; simp [PyData.eqv]
        rw [this]
        simp
  have e : ∀ a : List Int, py (.lst (a.map .int)) 60 = some (.list (a.map PyData.int)) := fun a => congrArg (Option.map _) (pys_ints a 59)
  unfold vEq
  rw [e, e]
  show some (Vl.bl (PyData.eqvAll _ _)) = _
  rw [h]
theorem intsOf_map (l : List Int) : intsOf (l.map .int) = some l := by
  induction l with
  | nil => rfl
  | cons a l ih => rw [List.map_cons]; unfold intsOf; rw [ih]; rfl
theorem iList1_lst {G : Gst} {l : List Int} : iList1 G [.lst (l.map .int)] = some l := intsOf_map l
theorem oMaxI_lst {G : Gst} {l : List Int} : oMaxI G [.lst (l.map .int)] = (maxI l).map .int := by
  unfold oMaxI
  rw [iList1_lst]; rfl
theorem oMinI_lst {G : Gst} {l : List Int} : oMinI G [.lst (l.map .int)] = (minI l).map .int := by
  unfold oMinI
  rw [iList1_lst]; rfl
theorem oSumI_lst {G : Gst} {l : List Int} : oSumI G [.lst (l.map .int)] = some (.int l.sum) := by
  unfold oSumI
  rw [iList1_lst]; rfl
theorem oSortI_lst {G : Gst} {l : List Int} : oSortI G [.lst (l.map .int)] = some (.lst ((sortI l).map .int)) := by
  unfold oSortI
  rw [iList1_lst]; rfl
section
variable {α : Type} {g : DG} {de : DE} {e0 env : LEnv} {G G1 : Gst} {vs : List Nat} {di : DI}
theorem gxL_any (c : α → Vl) (p : α → Bool) : ∀ (l : List α), (∀ a ∈ l, ∃ e, g e0 (c a) = some e ∧ de e G = .ok (.bl (p a)) G) →
    gxL anyV (fun _ => .bl false) g dYes de e0 () (l.map c) G = .ok (.bl (l.any p)) G
  | [], _ => rfl
  | a :: l, h => by
    obtain ⟨e, h1, h2⟩ := h a (by simp)
    have ih := gxL_any c p l fun b hb => h b (by simp [hb])
    rw [List.map_cons]
    unfold gxL
    rw [h1]
    dsimp only
    rw [show dYes e G = .ok true G from rfl, R.bind_ok, if_pos rfl, h2, R.bind_ok, List.any_cons]
    cases p a with
    | true => rfl
    | false => simpa [anyV] using ih
theorem dAnyG_tm (l : List α) (c : α → Vl) (p : α → Bool) (hdi : di env G = .ok (l.map c) G1) (h : ∀ a ∈ l, ∃ e, g (wipeE env vs) (c a) = some e ∧ de e G1 = .ok (.bl (p a)) G1) :
    dAnyG vs di g dYes de env G = .ok (.bl (l.any p)) G1 := by
  unfold dAnyG dGx
  rw [hdi, R.bind_ok, gxL_any c p l h]; rfl
theorem gxL_all (c : α → Vl) (p : α → Bool) : ∀ (l : List α), (∀ a ∈ l, ∃ e, g e0 (c a) = some e ∧ de e G = .ok (.bl (p a)) G) →
    gxL allV (fun _ => .bl true) g dYes de e0 () (l.map c) G = .ok (.bl (l.all p)) G
  | [], _ => rfl
  | a :: l, h => by
    obtain ⟨e, h1, h2⟩ := h a (by simp)
    have ih := gxL_all c p l fun b hb => h b (by simp [hb])
    rw [List.map_cons]
    unfold gxL
    rw [h1]
    dsimp only
    rw [show dYes e G = .ok true G from rfl, R.bind_ok, if_pos rfl, h2, R.bind_ok, List.all_cons]
    cases p a with
    | true => simpa [allV] using ih
    | false => rfl
theorem dAllG_tm (l : List α) (c : α → Vl) (p : α → Bool) (hdi : di env G = .ok (l.map c) G1) (h : ∀ a ∈ l, ∃ e, g (wipeE env vs) (c a) = some e ∧ de e G1 = .ok (.bl (p a)) G1) :
    dAllG vs di g dYes de env G = .ok (.bl (l.all p)) G1 := by
  unfold dAllG dGx
  rw [hdi, R.bind_ok, gxL_all c p l h]; rfl
theorem gxL_sum (c : α → Vl) (f : α → Int) : ∀ (l : List α) (s : Int), (∀ a ∈ l, ∃ e, g e0 (c a) = some e ∧ de e G = .ok (.int (f a)) G) →
    gxL sumV (fun a => .int a) g dYes de e0 s (l.map c) G = .ok (.int (s + (l.map f).sum)) G
  | [], s, _ => by simp [gxL]
  | a :: l, s, h => by
    obtain ⟨e, h1, h2⟩ := h a (by simp)
    have ih := gxL_sum c f l (s + f a) fun b hb => h b (by simp [hb])
    rw [List.map_cons]
    unfold gxL
    rw [h1]
    dsimp only
    rw [show dYes e G = .ok true G from rfl, R.bind_ok, if_pos rfl, h2, R.bind_ok]
    simpa [sumV, Int.add_assoc] using ih
theorem dSumG_tm (l : List α) (c : α → Vl) (f : α → Int) (hdi : di env G = .ok (l.map c) G1) (h : ∀ a ∈ l, ∃ e, g (wipeE env vs) (c a) = some e ∧ de e G1 = .ok (.int (f a)) G1) :
    dSumG vs di g dYes de env G = .ok (.int (l.map f).sum) G1 := by
  unfold dSumG dGx
  rw [hdi, R.bind_ok, gxL_sum c f l 0 h, Int.zero_add]; rfl
end
theorem find_down (p : Nat → Bool) (n : Nat) : (List.range n).find? (fun k => p (n - 1 - k)) = ((List.range n).filter p).getLast?.map fun j => n - 1 - j := by
  rw [← find_reverse]
  induction n with
  | zero => rfl
  | succ n ih =>
    rw [List.range_succ, List.reverse_append, List.reverse_cons, List.reverse_nil, List.nil_append, List.singleton_append, List.find?_cons]
    rw [← List.range_succ, List.range_succ_eq_map, List.find?_cons]
    simp only [Nat.add_sub_cancel, Nat.sub_zero]
    cases hp : p n with
    | true => simp
    | false =>
      dsimp only
      rw [List.find?_map]
      have : ((fun k => p (n - k)) ∘ Nat.succ) = fun k => p (n - 1 - k) := by
        funext k
        show p (n - (k + 1)) = _
        congr 1
        omega
      rw [this, ih]
      cases q : (List.range n).reverse.find? p with
      | none => rfl
      | some j =>
        have hj : j < n := by simpa using List.mem_of_find?_eq_some q
        simp
        omega
section
variable {g : DG} {de : DE} {env : LEnv} {G G1 : Gst} {vs : List Nat} {di : DI} {X : R Vl}
theorem dLc_drX (hX : dLc vs di g dYes de env G = X) (S : Gst → Prop) (m : Nat) (f : Nat → Vl) (l : List Vl) (hdi : di env G = .ok l G1) (hS : S G1) (h : ∀ a ∈ l, ∀ G, S G → ∃ e, g (wipeE env vs) a = some e ∧ ∃ k, k < m ∧ ∃ G', de e G = .ok (f k) G' ∧ S G') (hl : l.length ≤ 16777216) :
    ∃ (ks : List Nat) (G' : Gst), ks.length = l.length ∧ (∀ k ∈ ks, k < m) ∧ X = .ok (.lst (ks.map f)) G' ∧ S G' := by
  subst hX
  exact dLc_dr S m f l hdi hS h hl
end
theorem runF_true {n : Nat} {D : DS} {xs : List Vl} {G : Gst} (h : Wp (D (startE n xs) G) (rtP (.bl true) fun _ => True)) : ∃ G', runF n D xs G = .ok (.bl true) G' := by
  obtain ⟨G', h, _⟩ := runF_rt h
  exact ⟨G', h⟩
theorem dTest_bl {d : DE} {e : LEnv} {G G1 : Gst} {b : Bool} (h : d e G = .ok (.bl b) G1) : dTest d e G = .ok b G1 := by
  unfold dTest
  rw [h]; rfl
theorem wp_chk {t : DT} {a b : DS} {e : LEnv} {G G1 : Gst} {P : SR → Prop} (h : t e G = .ok false G1) (k : Wp (b e G1) P) : Wp (dSeq (dIfS t a dNext) b e G) P := by
  refine wp_seq ?_
  rw [dIfS_ev, h]
  exact k
theorem wp_chk1 {t : DT} {a : DS} {e : LEnv} {G G1 : Gst} {P : SR → Prop} (h : t e G = .ok false G1) (k : Wp (.nx e G1) P) : Wp (dIfS t a dNext e G) P := by
  rw [dIfS_ev, h]
  exact k
theorem wp_asg {d : DE} {g : DG} {b : DS} {e e1 : LEnv} {x : Vl} {G G1 : Gst} {P : SR → Prop} (h : d e G = .ok x G1) (hg : g e x = some e1) (k : Wp (b e1 G1) P) : Wp (dSeq (dAsg d g) b e G) P := by
  refine wp_seq ?_
  unfold dAsg
  rw [h, sb_ok, hg]
  exact k
theorem gds_take {n k : Nat} {xs : List Vl} (h : gds n xs = true) : gds n (xs.take k) = true := by
  rw [gds_all] at h ⊢
  rw [List.all_eq_true] at h ⊢
  exact fun x hx => h x (List.mem_of_mem_take hx)
theorem gds_drop {n k : Nat} {xs : List Vl} (h : gds n xs = true) : gds n (xs.drop k) = true := by
  rw [gds_all] at h ⊢
  rw [List.all_eq_true] at h ⊢
  exact fun x hx => h x (List.mem_of_mem_drop hx)
theorem gds_ints {α : Type} {n : Nat} {l : List α} {f : α → Int} : gds n (l.map fun a => .int (f a)) = true := gds_map _ _ _ fun _ => gd_int
theorem vNe_ok {x y : Vl} (h : gd 60 x = true) (e : x = y) : vNe x y = some (.bl false) := vNe_of e h
theorem wp_forN {i : Nat} {db : DS} {P : SR → Prop} (I : Nat → LEnv → Gst → Prop) : ∀ {xs : List Vl} {e : LEnv} {G : Gst}, I 0 e G →
    (∀ k x, xs[k]? = some x → ∀ e G, I k e G → Wp (db (e.set i (some (.val x))) G) (nxP (I (k + 1)))) → (∀ e G, I xs.length e G → Wp (.nx e G) P) → Wp (forL (gSet i) db xs e G) P
  | [], e, G, h0, _, k => k e G h0
  | x :: xs, e, G, h0, st, k => by
    have h2 := st 0 x rfl e G h0
    unfold forL
    dsimp only [gSet]
    cases q : db (e.set i (some (.val x))) G <;> rw [q] at h2
    case nx e2 G2 => exact wp_forN (fun k => I (k + 1)) h2 (fun k y hy => st (k + 1) y hy) k
    case ct e2 G2 => exact wp_forN (fun k => I (k + 1)) h2 (fun k y hy => st (k + 1) y hy) k
    all_goals exact h2.elim
theorem wp_ifT {t : DT} {a b : DS} {e : LEnv} {G G1 : Gst} {P : SR → Prop} (h : t e G = .ok true G1) (k : Wp (a e G1) P) : Wp (dIfS t a b e G) P := by
  rw [dIfS_ev, h]
  exact k
theorem wp_ifF {t : DT} {a b : DS} {e : LEnv} {G G1 : Gst} {P : SR → Prop} (h : t e G = .ok false G1) (k : Wp (b e G1) P) : Wp (dIfS t a b e G) P := by
  rw [dIfS_ev, h]
  exact k
theorem vIsN_str {s : Str} : vIsN (.str s) .non = some (.bl false) := rfl
theorem vIsN_int {s : Int} : vIsN (.int s) .non = some (.bl false) := rfl
theorem vIsN_tup {s : List Vl} : vIsN (.tup s) .non = some (.bl false) := rfl
theorem vIsN_lst {s : List Vl} : vIsN (.lst s) .non = some (.bl false) := rfl
end CardH
end
section
set_option maxHeartbeats 2000000
namespace CardH
open PySem PySem.Spec PyProof.Rows L2

/-! ### methods of values -/
section
variable {X : Cx} {o e : Expr} {es : List Expr} {to : TE} {t : TA} {name : Str} {apos cpos : Pos} {T id : String} {r : V → List V → Hp → VK → Prop}
/-- what a value's type is, told of the store -/
def TyP (X : Cx) (T : String) (tp : V → Hp → Prop) : Prop := ∀ (pins : List (Addr × Obj)) (s : Shared) (σ : L2.St) (H : Hp) (x : V) (v : Value), Inv X pins σ H s → RelV x v → tp x H →
  s.TypeIs v T ∧ ∀ a, v = .ref a → ∃ ob, s.heap.get? a = some ob ∧ ob.dict = none
theorem tyP_V : TyP X T (fun x H => tyV X.K T x H) := fun pins s σ H x v I r h => tyV_is I r h
def tupP (K : PySem.W.Frag) (x : V) (H : Hp) : Prop := ∃ p, x = .ref p ∧ ((∃ o vs, H p = some (.frz o (.tup vs)) ∧ o.dict = none) ∨ ∃ o, K.lookup p = some o ∧ o.cls = .type "tuple" ∧ o.dict = none)
theorem tyP_T : TyP X "tuple" (tupP X.K) := by
  intro pins s σ H x v I r ⟨p, e, h⟩
  subst e
  rcases h with ⟨o, vs, h, hd⟩ | h
  · cases r
    have hq : SqT X.K H p vs := .inl (.inr ⟨o, h⟩)
    obtain ⟨its, _, pl, _⟩ := I.tuple hq
    refine ⟨pl.typeIs, fun a e => ?_⟩
    cases e
    exact ⟨o, (I.hok p _ h).1, hd⟩
  · exact tyV_is (x := .ref p) I r (.inr (.inl ⟨rfl, h⟩))
def tBMG (tp : V → Hp → Prop) (r : V → List V → Hp → VK → Prop) (to : TE) (t : TA) : TE := fun σ H Q => to σ H fun x H1 => tp x H1 ∧ t σ H1 fun xs H2 => r x xs H2 Q
theorem pe_bmG {tp : V → Hp → Prop} (ht : TyP X T tp) (pa : PlainAttrs T) (slot : Slot T name id) (hty : typeOf (.builtin id) = pure (.type "method_descriptor")) (hm : MtR X id r) (ho : PE X o to) (ha : PA X (e :: es) t)
    (hbase : attributeBase o name X.env (eval o X.env) = eval o X.env := by rfl)
    (hfew : ((backTo cpos (starEach (e :: es) X.env)).all (fun x => !x.1) && (backToKw cpos (keywordEach [] X.env)).all (fun x => x.1.isSome)
      && decide ((e :: es).length + ([] : List Keyword).length + (if ([] : List Keyword).isEmpty then 0 else 1) < 30)) = true := by rfl)
    (hline : (apos.endLine == cpos.line) = true := by rfl) (hs : starEach (e :: es) X.env = (false, eval e X.env) :: starEach es X.env := by rfl) (hplain : (backTo cpos (starEach es X.env)).any (·.1) = false := by rfl) :
    PE X (.Call (.Attribute o name apos) (e :: es) [] cpos) (tBMG tp r to t) := by
  refine ⟨fun pins s σ H Q I h => ?_⟩
  refine wpAny_Call_method_late hbase hfew hline rfl (thn (ho.run pins s σ H _ I h) fun v s1 ⟨x, H1, I1, r1, ty, q1⟩ => ?_)
  obtain ⟨h1, h2⟩ := ht pins s1 σ H1 x v I1 r1 ty
  refine ⟨T, id, pa, slot, hty, h1, h2, ?_⟩
  have hA := ha.run cpos pins s1 σ H1 _ I1 q1
  rw [hs] at hA ⊢
  refine Calls.callWith_builtin (by show (false || (backTo cpos (starEach es X.env)).any (·.1)) = false; rw [hplain] <;> rfl) (Calls.evalArgs_plain ?_)
  exact thn hA fun us s2 ⟨vs, H2, I2, r2, q2⟩ => hm pins s2 σ H2 x vs v us Q I2 r1 r2 q2
theorem pe_bmG0 {tp : V → Hp → Prop} (ht : TyP X T tp) (pa : PlainAttrs T) (slot : Slot T name id) (hty : typeOf (.builtin id) = pure (.type "method_descriptor")) (hm : MtR X id r) (ho : PE X o to)
    (hbase : attributeBase o name X.env (eval o X.env) = eval o X.env := by rfl) (hline : (apos.endLine == cpos.line) = true := by rfl) : PE X (.Call (.Attribute o name apos) [] [] cpos) (fun σ H Q => to σ H fun x H1 => tp x H1 ∧ r x [] H1 Q) := by
  refine ⟨fun pins s σ H Q I h => ?_⟩
  refine wpAny_Call_method0_late hbase hline (thn (ho.run pins s σ H _ I h) fun v s1 ⟨x, H1, I1, r1, ty, q1⟩ => ?_)
  obtain ⟨h1, h2⟩ := ht pins s1 σ H1 x v I1 r1 ty
  exact ⟨T, id, pa, slot, hty, h1, h2, Calls.callWith_builtin rfl (PySem.evalArgs_none (hm pins s1 σ H1 x [] v [] Q I1 r1 .nil q1))⟩
end
/-- the receiver, told by its value -/
def RcS (kt : Kt) (X : Cx) (T : String) (t : Gst → Vl → Bool) : Prop := ∃ tp, TyP X T tp ∧ ∀ (B : Bs) (σ : L2.St) (env : LEnv) (G : Gst) (W : Wd) (x : Vl) (v : V), RAll kt B W σ env G → Pk kt.K W .f x v → t G x = true → tp v W.H
/-- a method's answer, nothing that stood is changed -/
def BmS (kt : Kt) (X : Cx) (id : String) (o : Gst → Vl → List Vl → Option Vl) : Prop :=
  ∃ r : V → List V → Hp → VK → Prop, MtR X id r ∧ ∀ (B : Bs) (σ : L2.St) (env : LEnv) (G : Gst) (W : Wd) (x : Vl) (v : V) (xs : List Vl) (vs : List V) (z : Vl) (Q : VK), RAll kt B W σ env G → Pk kt.K W .f x v → PkS kt.K W .f xs vs → o G x xs = some z →
    (∀ W' w, Ext true W W' → RAll kt B W' σ env G → Rep kt.K W' z w → Q w W'.H) → r v vs W.H Q
def dBm (t : Gst → Vl → Bool) (o : Gst → Vl → List Vl → Option Vl) (d : DE) (ds : DA) : DE := fun env G => (d env G).bind fun x G1 => if t G1 x = true then (ds env G1).bind fun xs G2 => opt (o G2 x xs) G2 else .bad
section
variable {kt : Kt} {B : Bs} {X : Cx} {p pa pb pc : Bool} {m ma mb mc : Md} {a b c e : Expr} {es : List Expr} {da db dc d : DE} {ds : DA} {pos np apos cpos : Pos} {i : Nat} {x name : Str} {id T : String} {o : Gst → Vl → List Vl → Option Vl} {t : Gst → Vl → Bool}
theorem sx_bm (hR : RcS kt X T t) (ho : BmS kt X id o) (hpa : PlainAttrs T) (slot : Slot T name id) (hty : typeOf (.builtin id) = pure (.type "method_descriptor")) (ha : SX kt B X pa ma a da) (hs : SAm kt B X pb mb (e :: es) ds) (hm : okM pb ma = true := by rfl)
    (hbase : attributeBase a name X.env (eval a X.env) = eval a X.env := by rfl)
    (hfew : ((backTo cpos (starEach (e :: es) X.env)).all (fun x => !x.1) && (backToKw cpos (keywordEach [] X.env)).all (fun x => x.1.isSome)
      && decide ((e :: es).length + ([] : List Keyword).length + (if ([] : List Keyword).isEmpty then 0 else 1) < 30)) = true := by rfl)
    (hline : (apos.endLine == cpos.line) = true := by rfl) (hst : starEach (e :: es) X.env = (false, eval e X.env) :: starEach es X.env := by rfl) (hplain : (backTo cpos (starEach es X.env)).any (·.1) = false := by rfl) :
    SX kt B X (pa && pb) .s (.Call (.Attribute a name apos) (e :: es) [] cpos) (dBm t o da ds) := fun Wish tk => by
  obtain ⟨tp, ht, hR⟩ := hR
  obtain ⟨r, hr, ho⟩ := ho
  refine (pe_bmG ht hpa slot hty hr (ha Wish tk) (hs Wish tk) hbase hfew hline hst hplain).imp fun σ H Q ⟨W, env, G, e, A, h⟩ => ?_
  subst e
  refine ⟨W, env, G, rfl, A, h.bindE.mono ?_⟩
  rintro v H1 ⟨W1, x, G1, rfl, e1, A1, z1, h1⟩
  split at h1
  case isFalse => exact h1.elim
  rename_i htx
  refine ⟨hR B σ env G1 W1 x v A1 z1.any htx, W1, env, G1, rfl, A1, h1.bindL.mono ?_⟩
  rintro us H2 ⟨W2, ys, G2, rfl, e2, A2, z2, h2⟩
  obtain ⟨z, ez, q⟩ := opsPo h2
  exact ho B σ env G2 W2 x v ys us z Q A2 (z1.ext e2 (okM_or hm)).any z2.any ez q
/-- either way -/
def dAlt (d1 d2 : DE) : DE := fun env G => (fun _ : Nat => match d1 env G with
  | .bad => d2 env G
  | r => r) hgt3
theorem sx_alt (h1 : SX kt B X p m e da) (h2 : SX kt B X p m e db) : SX kt B X p m e (dAlt da db) := fun Wish tk => by
  refine ⟨fun pins s σ H Q I ⟨W, env, G, e, A, h⟩ => ?_⟩
  unfold dAlt at h
  dsimp only at h
  cases q : da env G with
  | bad => rw [q] at h; exact (h2 Wish tk).run pins s σ H Q I ⟨W, env, G, e, A, h⟩
  | ok v G' => rw [q] at h; exact (h1 Wish tk).run pins s σ H Q I ⟨W, env, G, e, A, by rw [q]; exact h⟩
  | exn c G' => rw [q] at h; exact (h1 Wish tk).run pins s σ H Q I ⟨W, env, G, e, A, by rw [q]; exact h⟩
end
def tStr (_ : Gst) : Vl → Bool
  | .str _ => true
  | _ => false
def tTup (_ : Gst) : Vl → Bool
  | .tup _ => true
  | _ => false
def tLst (G : Gst) (x : Vl) : Bool := match seqOf G x with
  | some (false, _) => true
  | _ => false
def strsOf : List Vl → Option (List Str)
  | [] => some []
  | .str s :: xs => (strsOf xs).map (s :: ·)
  | _ => none
theorem strsOf_eq : ∀ {xs : List Vl} {l : List Str}, strsOf xs = some l → xs = l.map .str
  | [], l, h => by cases h; rfl
  | x :: xs, l, h => by
    cases x with
    | str s =>
      obtain ⟨r, e, rfl⟩ := Option.map_eq_some_iff.mp h
      rw [strsOf_eq e]; rfl
    | _ => cases h
theorem strsOf_map (l : List Str) : strsOf (l.map .str) = some l := by
  induction l with
  | nil => rfl
  | cons a l ih =>
    rw [List.map_cons]
    unfold strsOf
    rw [ih]; rfl
theorem reps_strs {K : PySem.W.Frag} {W : Wd} : ∀ {l : List Str} {vs : List V}, Reps K W (l.map .str) vs → vs = l.map V.str
  | [], _, h => by cases h; rfl
  | s :: l, _, h => by
    obtain ⟨v, r, rfl, ⟨rfl, _⟩, h2⟩ := h
    rw [reps_strs h2]; rfl
/-- the first place -/
def ixOf (s : Str) : List Str → Option Nat
  | [] => none
  | a :: l => if a = s then some 0 else (ixOf s l).map (· + 1)
theorem ixOf_some {s : Str} : ∀ {l : List Str} {j : Nat}, ixOf s l = some j → l[j]? = some s ∧ ∀ m, m < j → l[m]? ≠ some s
  | [], _, h => by cases h
  | a :: l, j, h => by
    unfold ixOf at h
    split at h
    · cases h
      subst_vars
      exact ⟨rfl, fun m hm => absurd hm (Nat.not_lt_zero m)⟩
    · rename_i hne
      obtain ⟨k, e, rfl⟩ := Option.map_eq_some_iff.mp h
      obtain ⟨h1, h2⟩ := ixOf_some e
      refine ⟨h1, fun m hm => ?_⟩
      cases m with
      | zero => intro z; cases z; exact hne rfl
      | succ m => exact h2 m (by omega)
/-- text.index(sign) -/
def oSIx (_ : Gst) : Vl → List Vl → Option Vl
  | .str a, [.str b] => match Builtin.Str.occurrences a b 0 a.length 1 with
    | i :: _ => some (.int (i : Nat))
    | [] => none
  | _, _ => none
/-- t.index(text), xs.index(text) -/
def oTIx (_ : Gst) : Vl → List Vl → Option Vl
  | .tup xs, [.str b] => ((strsOf xs).bind (ixOf b)).map fun j => .int (j : Nat)
  | _, _ => none
def oLIx (_ : Gst) : Vl → List Vl → Option Vl
  | .lst xs, [.str b] => ((strsOf xs).bind (ixOf b)).map fun j => .int (j : Nat)
  | _, _ => none
section
variable {kt : Kt} {X : Cx}
theorem rc_str : RcS kt X "str" tStr := by
  refine ⟨_, tyP_V, fun B σ env G W x v A hx h => ?_⟩
  unfold tStr at h
  split at h
  · obtain ⟨rfl, _⟩ := hx.str
    rfl
  · cases h
theorem rc_lst (hK : X.K = kt.K := by rfl) : RcS kt X "list" tLst := by
  refine ⟨_, tyP_V, fun B σ env G W x v A hx h => ?_⟩
  unfold tLst at h
  split at h
  · rename_i ys e
    obtain ⟨a, vs, rfl, _, hq⟩ := seqOf_r A hx e
    rw [hK]
    exact .inl ⟨rfl, vs, hq⟩
  · cases h
theorem rc_tup (hK : X.K = kt.K := by rfl) : RcS kt X "tuple" tTup := by
  refine ⟨_, tyP_T, fun B σ env G W x v A hx h => ?_⟩
  unfold tTup at h
  rw [hK]
  split at h
  · obtain ⟨a, vs, o, rfl, _, h1, hd, _⟩ := hx.tup'
    exact ⟨a, rfl, .inl ⟨o, vs, h1, hd⟩⟩
  · cases h
theorem bm_sidx : BmS kt X "str.index" oSIx := by
  refine ⟨_, mt_sindex, fun B σ env G W x v xs vs z Q A hx hxs e q => ?_⟩
  unfold oSIx at e
  split at e
  · rename_i a b
    split at e
    · rename_i i rest ho
      cases e
      obtain ⟨rfl, _⟩ := hx.str
      obtain ⟨w, rfl, h2⟩ := hxs.one
      obtain ⟨rfl, _⟩ := h2.str
      exact ⟨a, b, i, rest, rfl, rfl, ho, q W _ Ext.refl A rfl⟩
    · cases e
  · cases e
theorem bm_tidx (hK : X.K = kt.K := by rfl) : BmS kt X "tuple.index" oTIx := by
  refine ⟨_, mt_tup_index, fun B σ env G W x v xs vs z Q A hx hxs e q => ?_⟩
  unfold oTIx at e
  split at e
  · obtain ⟨j, ej, rfl⟩ := Option.map_eq_some_iff.mp e
    obtain ⟨l, e1, e2⟩ := Option.bind_eq_some_iff.mp ej
    obtain rfl := strsOf_eq e1
    obtain ⟨a, us, rfl, h1, r⟩ := hx.tup
    obtain ⟨w, rfl, h2⟩ := hxs.one
    obtain ⟨rfl, _⟩ := h2.str
    obtain rfl := reps_strs r
    obtain ⟨h3, h4⟩ := ixOf_some e2
    rw [hK]
    exact ⟨a, l, _, j, rfl, rfl, h1, h3, h4, q W _ Ext.refl A rfl⟩
  · cases e
theorem bm_lidx (hK : X.K = kt.K := by rfl) : BmS kt X "list.index" oLIx := by
  refine ⟨_, mt_index, fun B σ env G W x v xs vs z Q A hx hxs e q => ?_⟩
  unfold oLIx at e
  split at e
  · rename_i b
    obtain ⟨j, ej, rfl⟩ := Option.map_eq_some_iff.mp e
    obtain ⟨l, e1, e2⟩ := Option.bind_eq_some_iff.mp ej
    obtain rfl := strsOf_eq e1
    obtain ⟨a, us, rfl, h1, r⟩ := hx.lst
    obtain ⟨w, rfl, h2⟩ := hxs.one
    obtain ⟨rfl, _⟩ := h2.str
    obtain rfl := reps_strs r
    obtain ⟨h3, h4⟩ := ixOf_some e2
    rw [hK]
    refine ⟨a, l.map V.str, .str b, j, .str b, rfl, rfl, SqL.of h1, rfl, flat_strs l, by rw [List.getElem?_map, h3]; rfl, beq_self_eq_true b, fun m z' hm hz => ?_, q W _ Ext.refl A rfl⟩
    rw [List.getElem?_map] at hz
    obtain ⟨y, hy, rfl⟩ := Option.map_eq_some_iff.mp hz
    show (y == b) = false
    exact beq_eq_false_iff_ne.mpr fun e => h4 m hm (e ▸ hy)
  · cases e
end
end CardH
end
section
set_option maxHeartbeats 2000000
namespace CardH
open PySem PySem.Spec PyProof.Rows L2 RT
/-! ### tuple(reversed(a tuple)) -/
section
variable {prog : Program} {w : World} {A : Around} {E : Value → Shared → Prop} {s : Shared}
theorem walksRt (hh : A.handled = none) (I l : Addr) (hne : l ≠ I) (items : Array Value) (hz : items.size ≤ sizeLine) :
    Walks prog w A I [I, l] [I] items.size (fun i v => items[items.size - 1 - i]? = some v) (fun i h => i ≤ items.size ∧ IsRt h I l ((items.size : Int) - 1 - (i : Int)) ∧ IsTup h l items) where
  sub := fun b hb => by simp at hb; simp [hb]
  frame := fun _ _ _ x hk => ⟨x.1, IsRt.at x.2.1 fun o e => hk I (by simp) o e, by
    obtain ⟨o, ho, r⟩ := x.2.2
    exact ⟨o, hk l (by simp) o ho, r⟩⟩
  item := fun i s Q E hi x hQ => by
    have e : (items.size : Int) - 1 - (i : Int) = ((items.size - 1 - i : Nat) : Int) := by omega
    have hit := x.2.1; rw [e] at hit
    have hx : items[items.size - 1 - i]? = some (items[items.size - 1 - i]'(by omega)) := Array.getElem?_eq_getElem (by omega)
    refine next_rt_item hit x.2.2 hx hz fun h' hit' hs' => ?_
    have e2 : ((items.size - 1 - i : Nat) : Int) - 1 = (items.size : Int) - 1 - ((i + 1 : Nat) : Int) := by omega
    rw [e2] at hit'
    obtain ⟨o, ho, r⟩ := x.2.2
    exact hQ _ h' _ hx ⟨hi, hit', o, (hs'.2 l hne).trans ho, r⟩ fun b o hb eo => hs'.extBut b o (fun h => hb (by simp [h])) eo
  done := fun s Q E x hQ => by
    have e : (items.size : Int) - 1 - (items.size : Int) = -1 := by omega
    have hit := x.2.1; rw [e] at hit
    exact next_rt_end hh hit fun h' he' => hQ h' s.toks fun b o hb eo => he' b o (fun h => hb (by simp [h])) eo
  self := fun _ _ _ _ x hQ => iter_rt x.2.1 hQ
theorem nolen_rt : typeLookup (.type "reversed") "__len__" = pure none := by rw [typeLookup_type, builtinLookup_eq_fast] <;> kernel_rfl
theorem hint_rt : typeLookup (.type "reversed") "__length_hint__" = pure (some (.builtin "reversed.__length_hint__")) := by rw [typeLookup_type, builtinLookup_eq_fast] <;> kernel_rfl
theorem slot_rt_hint : Slot "reversed" "__length_hint__" "reversed.__length_hint__" := .of (owner := "reversed") (n := "__length_hint__") (by rw [typeLookup_type, builtinLookup_eq_fast] <;> kernel_rfl) (by decide +kernel) (by decide +kernel) (by decide +kernel)
    (by first | exact .inl (by decide +kernel) | exact .inr (by decide +kernel)) (by rw [isSubtype_type] <;> kernel_rfl)
theorem entry_rt_hint : entryFor table "reversed.__length_hint__" = some Builtin.«reversed.__length_hint__» := entryFor_of_tree (by kernel_rfl)
theorem args_rt_hint (a : Value) : argsOk "reversed.__length_hint__" ⟨[a], []⟩ := by
  unfold argsOk; rw [signature?_of (id := "reversed.__length_hint__") (n := ['_', '_', 't', 'n', 'i', 'h', '_', 'h', 't', 'g', 'n', 'e', 'l', '_', '_']) (o := ['d', 'e', 's', 'r', 'e', 'v', 'e', 'r']) (by kernel_rfl) owner_rt] <;> kernel_rfl
theorem bind_rt_hint (self : Value) : bindSpecial (.builtin "reversed.__length_hint__") self = pure (.builtin "reversed.__length_hint__", [self]) := by
  have hop : withoutEnding? "reversed.__length_hint__" "#opaque" = none := by decide +kernel
  have hdat : withoutEnding? "reversed.__length_hint__" "#data" = none := by decide +kernel
  have hk : builtinKind "reversed.__length_hint__" = some .method := by decide +kernel
  simp only [bindSpecial, typeOf, builtinType, hop, hdat, hk] <;> rfl
theorem call_hint {it l : Addr} {items : Array Value} {Q : Value → Shared → Prop} (hit : IsRt s.heap it l ((items.size : Int) - 1)) (hl : IsTup s.heap l items) (hz : items.size ≤ sizeLine)
    (h : ∀ tok tk, Q (.int items.size tok) { s with toks := tk }) : wpAny (model prog w) A (call (.builtin "reversed.__length_hint__") [.ref it]) Q E s := by
  obtain ⟨o, ho, hc, hd⟩ := id hit
  have hn := line63
  refine wpAny_call_entry slot_rt_hint hit.typeIs entry_rt_hint ?_ (args_rt_hint _)
  unfold Builtin.«reversed.__length_hint__»
  refine wpAny_bind (wpAny_of_eq (a := Value.ref it) rfl ?_)
  refine wpAny_bind (wpAny_field ho hd (x := .ref l) rfl ?_); show wpAny _ _ (if false = true then _ else _) _ _ s
  rw [if_neg Bool.false_ne_true]
  refine wpAny_bind (len_tuple hl (by omega) ?_)
  refine wpAny_bind (wpAny_of_eq (a := some ((items.size : Nat) : Int)) rfl ?_); dsimp only
  refine wpAny_bind (wpAny_field (s := { s with toks := s.toks + 1 + 1 }) ho hd (x := rawInt ((items.size : Int) - 1)) rfl ?_)
  show wpAny _ _ (if ((items.size : Nat) : Int) < ((items.size : Int) - 1) + 1 then _ else _) _ _ _
  rw [if_neg (by omega)]
  have e : ((items.size : Int) - 1) + 1 = items.size := by omega
  rw [e]
  exact wpAny_bind (wpAny_mkInt (wpAny_pure ⟨_, rfl, h _ _⟩))
theorem collect_rt {it l : Addr} {items : Array Value} {Q : List Value → Shared → Prop} (hh : A.handled = none) (hit : IsRt s.heap it l ((items.size : Int) - 1)) (hl : IsTup s.heap l items) (hne : l ≠ it) (hn : items.size ≤ sizeLine)
    (hQ : ∀ (h' : Heap) (tk : Nat) (acc : Array Value), (∀ b o, b ≠ it → s.heap.get? b = some o → h'.get? b = some o) → ItemsOf (fun i v => items[items.size - 1 - i]? = some v) acc items.size → Q acc.toList { s with heap := h', toks := tk }) :
    wpAny (model prog w) A (collect (.ref it)) Q E s := by
  have W := (walksRt (prog := prog) (w := w) (A := A.in1) hh it l hne items hn).toS
  obtain ⟨oi, hoi, hc0, hd0⟩ := id hit
  obtain ⟨ol, hol, hcl⟩ := id hl
  have hSi : s.heap.objs.size ≠ it := Nat.ne_of_gt (Heap.lt_size hoi)
  have hSl : s.heap.objs.size ≠ l := Nat.ne_of_gt (Heap.lt_size hol)
  have hSf : s.heap.objs.size ∉ [it, l] := by simp only [List.mem_cons, List.not_mem_nil, or_false, not_or] <;> exact ⟨hSi, hSl⟩
  unfold collect
  refine wpAny_bind (wpAny_runValue (codeAny_builtin F.entry_proto_collect ?_)); rw [Around.under_plainId F.plain_proto_collect _]
  show wpAny _ A.in1 (newList [] >>= fun l2 => again (.builtin "list.__iadd__" ⟨[l2, .ref it], []⟩)) _ _ s
  refine wpAny_bind (wpAny_newObj_type ?_); refine wpAny_pure ⟨plainId_quiet F.plain_list_iadd _, codeAny_builtin F.entry_list_iadd ?_⟩
  rw [Around.under_plainId F.plain_list_iadd _]
  have hS₁ : (s.heap.push { cls := .type "list", data := .seq ([] : List Value).toArray }).get? s.heap.objs.size = some { cls := .type "list", data := .seq ([] : List Value).toArray } := (Heap.get?_push_size _ rfl)
  have hit1 : IsRt (s.heap.push { cls := .type "list", data := .seq ([] : List Value).toArray }) it l ((items.size : Int) - 1) := IsRt.at hit fun o e => Heap.get?_push_of_some _ e
  have hl1 : IsTup (s.heap.push { cls := .type "list", data := .seq ([] : List Value).toArray }) l items := ⟨ol, Heap.get?_push_of_some _ hol, hcl⟩
  have hT : ({ s with heap := s.heap.push { cls := .type "list", data := .seq ([] : List Value).toArray } } : Shared).TypeIs (.ref it) "reversed" := IsRt.typeIs (s := { s with heap := s.heap.push { cls := .type "list", data := .seq ([] : List Value).toArray } }) hit1
  have h1 : Builtin.List.listSameRef (.ref s.heap.objs.size) (.ref it) = false := by (simp [Builtin.List.listSameRef, hSi])
  show wpAny _ A.in1 (Builtin.List.listExtendWith (.ref s.heap.objs.size) (.ref it) (.ref s.heap.objs.size)) _ _ _; unfold Builtin.List.listExtendWith
  refine wpAny_bind (wpAny_typeOf hT ?_); rw [if_neg (by rw [h1]; decide)]
  refine wpAny_bind (iter_rt (s := { s with heap := s.heap.push { cls := .type "list", data := .seq ([] : List Value).toArray } }) hit1 ?_)
  refine wpAny_bind (wpAny_holding ?_); unfold Builtin.List.listLengthHint
  refine wpAny_bind (wpAny_specialOf hT nolen_rt ?_)
  show wpAny _ A.in1 (specialOf (Value.ref it) (Str.ofString "__length_hint__") >>= _) _ _ _; refine wpAny_bind (wpAny_specialOf hT hint_rt ?_)
  generalize hid : ("reversed.__length_hint__" : String) = id0
  wp_delta
  rw [show splitId id0 = some ("reversed", "__length_hint__") from by subst hid; decide +kernel]; subst hid
  refine wpAny_bind (wpAny_isInstance (b := true) hT (by rw [isSubtype_type] <;> kernel_rfl) ?_)
  rw [if_neg (by decide)]
  dsimp only
  rw [if_neg (by decide +kernel)]
  refine wpAny_bind (wpAny_rule ?_); refine wpAny_bind (wpAny_of_eq (bind_rt_hint _) ?_)
  dsimp only
  refine wpAny_bind (wpAny_attempt (call_hint (s := { s with heap := s.heap.push { cls := .type "list", data := .seq ([] : List Value).toArray } }) hit1 hl1 hn fun tok tk => ?_))
  dsimp only
  have hn2 : items.size ≤ 16777216 := by rw [← sizeLine_eq] <;> exact hn
  have ea : asInt? (Value.int ((items.size : Nat) : Int) tok) = pure (some ((items.size : Nat) : Int)) := rfl
  refine wpAny_bind ?_
  rw [ea]
  refine wpAny_pure ?_
  dsimp only
  have hf : Builtin.List.listFitsIndex ((items.size : Nat) : Int) = true := by
    unfold Builtin.List.listFitsIndex
    have z1 : -(2 ^ 63 : Int) ≤ ((items.size : Nat) : Int) := by omega
    have z2 : ((items.size : Nat) : Int) < (2 ^ 63 : Int) := by omega
    rw [decide_eq_true z1, decide_eq_true z2]; rfl
  have hl2 : Builtin.List.listTooLong (((items.size : Nat) : Int).toNat) = false := by
    unfold Builtin.List.listTooLong
    rw [decide_eq_false_iff_not]
    omega
  rw [hf, hl2]
  rw [if_neg (by decide), if_neg (by omega), if_neg (by decide)]
  refine wpAny_pure ?_
  have e0 : ((items.size : Nat) : Int) - 1 - ((0 : Nat) : Int) = (items.size : Int) - 1 := by omega
  have oth0 : ∀ b o, s.heap.get? b = some o → (s.heap.push { cls := .type "list", data := .seq ([] : List Value).toArray }).get? b = some o := fun b o e => Heap.get?_push_of_some _ e
  by_cases h0 : items.size = 0
  · have hb : (((items.size : Nat) : Int) != 0) = false := by rw [h0] <;> rfl
    rw [hb]
    rw [if_neg (by decide +kernel)]
    refine wpAny_pure ⟨plainId_quiet F.plain_extend_loop _, codeAny_extend_loopS W hn _ hSf _ items.size 0 _ _ _ rfl (Nat.zero_le _) ⟨Nat.zero_le _, by rw [e0] <;> exact hit1, hl1⟩ hS₁ (ItemsOf.nil _) fun s' acc' c' hm hS' hacc => ?_⟩
    show wpAny _ A (load s.heap.objs.size >>= _) _ _ s'; refine wpAny_bind (wpAny_load hS' ?_); refine wpAny_pure ?_
    rw [Moved.eq_with hm]
    refine hQ s'.heap s'.toks acc' (fun b o hb e => hm.heap b o (fun hmem => ?_) (oth0 b o e)) hacc
    rcases List.mem_cons.mp hmem with e' | hmem
    · exact absurd (Heap.lt_size e) (by rw [e'] <;> exact Nat.lt_irrefl _)
    · exact hb (List.mem_singleton.mp hmem)
  · have hb : (((items.size : Nat) : Int) != 0) = true := by rw [bne_iff_ne] <;> omega
    rw [hb]
    rw [if_pos (by rfl)]
    clear hf hl2 ea hn2 hb
    refine wpAny_bind (wpAny_rule ?_)
    refine wpAny_bind ?_
    show wpAny _ A.in1 (updateSeq s.heap.objs.size (·.push .none) >>= fun _ => updateSeq s.heap.objs.size (·.pop)) _ _ _
    refine wpAny_bind (wpAny_updateSeq hS₁ rfl ?_)
    have hS₂ := Heap.get?_update_self (Obj.mapSeq (·.push Value.none)) hS₁ rfl
    refine wpAny_updateSeq hS₂ rfl ?_
    have hS₃ := Heap.get?_update_self (Obj.mapSeq (·.pop)) hS₂ rfl
    have oth : ∀ b o, b ≠ s.heap.objs.size → (s.heap.push { cls := .type "list", data := .seq ([] : List Value).toArray }).get? b = some o → (((s.heap.push { cls := .type "list", data := .seq ([] : List Value).toArray }).update s.heap.objs.size (Obj.mapSeq (·.push Value.none))).update s.heap.objs.size (Obj.mapSeq (·.pop))).get? b = some o :=
      fun b o hb e => (Heap.get?_update_other _ _ (Ne.symm hb)).trans ((Heap.get?_update_other _ _ (Ne.symm hb)).trans e)
    have hit3 := IsRt.at hit1 fun o e => oth it o (Ne.symm hSi) e
    have hl3 : IsTup (((s.heap.push { cls := .type "list", data := .seq ([] : List Value).toArray }).update s.heap.objs.size (Obj.mapSeq (·.push Value.none))).update s.heap.objs.size (Obj.mapSeq (·.pop))) l items := by
      obtain ⟨o, ho, r⟩ := hl1
      exact ⟨o, oth l o (Ne.symm hSl) ho, r⟩
    have oth3 : ∀ b o, s.heap.get? b = some o → (((s.heap.push { cls := .type "list", data := .seq ([] : List Value).toArray }).update s.heap.objs.size (Obj.mapSeq (·.push Value.none))).update s.heap.objs.size (Obj.mapSeq (·.pop))).get? b = some o := fun b o e => oth b o (Nat.ne_of_lt (Heap.lt_size e)) (oth0 b o e)
    refine wpAny_pure ⟨plainId_quiet F.plain_extend_loop _, codeAny_extend_loopS W hn _ hSf _ items.size 0 _ _ _ rfl (Nat.zero_le _) ⟨Nat.zero_le _, by rw [e0] <;> exact hit3, hl3⟩ hS₃ (ItemsOf.nil _) fun s' acc' c' hm hS' hacc => ?_⟩
    show wpAny _ A (load s.heap.objs.size >>= _) _ _ s'; refine wpAny_bind (wpAny_load hS' ?_); refine wpAny_pure ?_
    rw [Moved.eq_with hm]
    refine hQ s'.heap s'.toks acc' (fun b o hb e => hm.heap b o (fun hmem => ?_) (oth3 b o e)) hacc
    rcases List.mem_cons.mp hmem with e' | hmem
    · exact absurd (Heap.lt_size e) (by rw [e'] <;> exact Nat.lt_irrefl _)
    · exact hb (List.mem_singleton.mp hmem)
theorem code_tuple_new_rt {it l : Addr} {items : Array Value} {Q₁ : Value → Shared → Prop} (hh : A.handled = none) (hit : IsRt s.heap it l ((items.size : Int) - 1)) (hl : IsTup s.heap l items) (hne : l ≠ it) (hn : items.size ≤ sizeLine)
    (h : ∀ (h' : Heap) (tk : Nat) (acc : Array Value), (∀ b o, b ≠ it → s.heap.get? b = some o → h'.get? b = some o) → ItemsOf (fun i v => items[items.size - 1 - i]? = some v) acc items.size → Q₁ (.ref h'.objs.size) { s with heap := h'.push { cls := .type "tuple", data := .seq acc }, toks := tk }) :
    codeAny (model prog w) A (.call (.builtin "tuple.__new__") ⟨[.type "tuple", .ref it], []⟩) (wants Q₁ E) s := by
  refine codeAny_of_tree ?_; show wpAny _ A.in1 (do checkBuiltinCall "tuple.__new__" ⟨[.type "tuple", .ref it], []⟩; again (.builtin "tuple.__new__" ⟨[.type "tuple", .ref it], []⟩)) _ _ s
  refine wpAny_bind (wpAny_of_eq (F.newCall_tuple_1 _) (wpAny_pure ⟨plainId_quiet F.plain_tuple_new _, codeAny_builtin F.entry_tuple_new ?_⟩)); rw [Around.under_plainId F.plain_tuple_new _]
  have hsub := sub_tuple_self
  have hinit := init_tuple_lookup
  have hmh := madeHere_tuple
  have hTI : s.TypeIs (.ref it) "reversed" := hit.typeIs
  have hh1 : A.in1.handled = none := hh
  wp_walk using wpAny_typeOf hTI, collect_rt (A := A.in1) hh1 hit hl hne hn
  intro h' tk acc hk hacc
  show wpAny _ _ (Builtin.Tuple.tupleExact acc.toList.toArray >>= fun v => ret v) _ _ _; unfold Builtin.Tuple.tupleExact
  refine wpAny_bind (wpAny_newObj_type ?_ (by show acc.toList.toArray.size ≤ sizeLine; simp only [Array.toArray_toList]; rw [hacc.1] <;> exact hn)); refine wpAny_pure ?_
  have e : acc.toList.toArray = acc := by simp
  rw [e] <;> exact h h' tk acc hk hacc
theorem call_tuple_rt {it l : Addr} {items : Array Value} {Q : Value → Shared → Prop} (hh : A.handled = none) (hit : IsRt s.heap it l ((items.size : Int) - 1)) (hl : IsTup s.heap l items) (hne : l ≠ it) (hn : items.size ≤ sizeLine)
    (hQ : ∀ (h' : Heap) (tk : Nat) (acc : Array Value), (∀ b o, b ≠ it → s.heap.get? b = some o → h'.get? b = some o) → ItemsOf (fun i v => items[items.size - 1 - i]? = some v) acc items.size → Q (.ref h'.objs.size) { s with heap := h'.push { cls := .type "tuple", data := .seq acc }, toks := tk }) :
    wpAny (model prog w) A (call (.type "tuple") [.ref it]) Q E s := by
  refine callType_codes (Q₁ := fun obj s₁ => s₁.TypeIs obj "tuple" ∧ Q obj s₁) F.called_tuple (F.typeCall_tuple_1 _) F.entry_object_init (code_tuple_new_rt (A := A.in1) hh hit hl hne hn fun h' tk acc hk hacc => ⟨⟨_, Heap.get?_push_size _ rfl, rfl⟩, hQ h' tk acc hk hacc⟩) fun obj s₁ h₁ => ?_
  exact ⟨h₁.1, F.args_object_init_2 obj _, object_init_meets F.called_tuple.init.lookup F.called_tuple.made (by decide) prog w A.in1 _ s₁ ⟨h₁.1, rfl, h₁.2⟩⟩
end
end CardH
end
section
set_option maxHeartbeats 2000000
namespace CardH
open PySem PySem.Spec PyProof.Rows L2
/-! ### tuple(reversed(x)), x a list or a tuple -/
section
variable {X : Cx}
def tTupRevP (K : PySem.W.Frag) (te : TE) : TE := fun σ H Q => te σ H fun v H1 => ∃ (a : Addr) (xs : List V), v = .ref a ∧ (SqL K H1 a xs ∨ SqT K H1 a xs) ∧ ∀ q o, H1 q = none → o.dict = none → Q (.ref q) (upd H1 q (.frz o (.tup xs.reverse)))
theorem pe_tupRevP {e : Expr} {te : TE} {p p2 pos pos2 : Pos} (hc : X.calm = true) (hg : Gl X "tuple") (hm : X.mg "tuple" = none) (hg2 : Gl X "reversed") (hm2 : X.mg "reversed" = none) (he : PE X e te)
    (hs : starEach [e] X.env = (false, eval e X.env) :: starEach [] X.env) (hs2 : starEach [.Call (.Name "reversed" p2) [e] [] pos2] X.env = (false, eval (.Call (.Name "reversed" p2) [e] [] pos2) X.env) :: starEach [] X.env) :
    PE X (.Call (.Name "tuple" p) [.Call (.Name "reversed" p2) [e] [] pos2] [] pos) (tTupRevP X.K te) := by
  refine ⟨fun pins s σ H Q I h => ?_⟩
  refine Call_ (ld_blt I hg hm boot_tuple (PyProof.Rows.callWith_type1 (args_cons (Call_ (ld_blt I hg2 hm2 PyProof.Rows.boot_reversed (PyProof.Rows.callWith_type1 (args_cons (thn (he.run pins s σ H _ I h) fun u s1 ⟨v, H1, I1, r1, q1⟩ => args_nil ?_) hs) hs rfl))) hs2) hs2 rfl))
  obtain ⟨a, xs, ev, hq, q⟩ := q1; subst ev
  obtain rfl : u = Value.ref a := r1
  obtain ⟨f0, f1, f2, f3, f4, f5⟩ := I1.fpOk (H' := H1) (b := s1.heap.objs.size) (Nat.le_refl _) (I1.hok.fresh (Nat.le_refl _))
  have fin : ∀ (its : List Value) (s2 s3 : Shared) (acc : Array Value), Vals xs its → xs.length ≤ sizeLine → Inv X pins σ H1 s3 → ItemsOf (fun i v => its.toArray[its.toArray.size - 1 - i]? = some v) acc its.toArray.size → ∀ tk,
      EP X pins σ Q (.ref s3.heap.objs.size) { s3 with heap := s3.heap.push { cls := .type "tuple", data := .seq acc }, toks := tk } := fun its s2 s3 acc rv hz I3 hi tk => by
    refine ⟨.ref s3.heap.objs.size, upd H1 s3.heap.objs.size (.frz { cls := .type "tuple", data := .seq acc } (.tup xs.reverse)), I3.laid (t' := tk) (fun c o e => Heap.get?_push_of_some _ e) (Nat.le_refl _) (show ObjOk X.prog X.w _ _ _ (.frz _ (.tup xs.reverse)) from ⟨Heap.get?_push_size _ rfl, by rw [List.length_reverse] <;> exact hz, acc.toList, RT.vals_rev rv hi, ?_⟩), rfl, q _ _ (I3.hok.fresh (Nat.le_refl _)) rfl⟩
    rw [Array.toArray_toList] <;> exact IsTup.new _ _
  rcases hq with hq | hq
  · obtain ⟨its, rv, p', hz⟩ := I1.list hq
    refine call_reversed_list p'.isList (args_nil ?_)
    have I2 : Inv X pins σ H1 { s1 with heap := s1.heap.push (revObj a ((its.toArray.size : Int) - 1)) } := I1.kept (t' := s1.toks) fun b o e => Heap.get?_push_of_some _ e
    have hl := p'.isList
    obtain ⟨ol, hol, _⟩ := id hl
    have hne : a ≠ s1.heap.objs.size := Nat.ne_of_lt (Heap.lt_size hol)
    refine RT.call_tuple_rev (s := { s1 with heap := s1.heap.push (revObj a ((its.toArray.size : Int) - 1)) }) (I1.ok.hd hc) ⟨_, Heap.get?_push_size _ rfl, rfl, rfl⟩ (hl.push _) hne (by rw [List.size_toArray, ← rv.length] <;> exact hz) fun h' tk acc hk hi => ?_
    exact fin its s1 { s1 with heap := h', toks := tk } acc rv hz (I2.turned (t' := tk) (fun b o hb e => hk b o hb e) f0 f1 f3 f4 f5) hi tk
  · obtain ⟨its, rv, p', hz⟩ := I1.tuple hq
    have hn := line63
    have hsz : its.toArray.size ≤ sizeLine := by rw [List.size_toArray, ← rv.length] <;> exact hz
    refine RT.call_reversed_tup p' (fun A E Q k => len_tuple p' (by omega) k) (args_nil ?_)
    have I2 : Inv X pins σ H1 { s1 with heap := s1.heap.push (RT.rtObj a ((its.toArray.size : Int) - 1)), toks := s1.toks + 1 + 1 } := I1.kept (t' := s1.toks + 1 + 1) fun b o e => Heap.get?_push_of_some _ e
    obtain ⟨ol, hol, hcl⟩ := id p'
    have hne : a ≠ s1.heap.objs.size := Nat.ne_of_lt (Heap.lt_size hol)
    refine call_tuple_rt (s := { s1 with heap := s1.heap.push (RT.rtObj a ((its.toArray.size : Int) - 1)), toks := s1.toks + 1 + 1 }) (I1.ok.hd hc) ⟨_, Heap.get?_push_size _ rfl, rfl, rfl⟩ ⟨ol, Heap.get?_push_of_some _ hol, hcl⟩ hne hsz fun h' tk acc hk hi => ?_
    exact fin its s1 { s1 with heap := h', toks := tk } acc rv hz (I2.turned (t' := tk) (fun b o hb e => hk b o hb e) f0 f1 f3 f4 f5) hi tk
end
def dTupRev (d : DE) : DE := fun env G => (d env G).bind fun x G1 => opt ((seqOf G1 x).map fun k => .tup k.2.reverse) G1
/-- list(x), a new list of the store -/
def dListO (d : DE) : DE := fun env G => (d env G).bind fun x G1 => match seqOf G1 x with
  | some k => .ok (.ref G1.length) (G1 ++ [.lst k.2])
  | none => .bad
/-- a method that changes a list of the store -/
def dBmW (o : List Vl → List Vl → Option (Vl × List Vl)) (d : DE) (ds : DA) : DE := fun env G => (d env G).bind fun x G1 => if tLst G1 x = true then (ds env G1).bind fun ys G2 => match x with
  | .ref j => match G2[j]? with
    | some (.lst xs) => match o xs ys with
      | some r => .ok r.1 (G2.set j (.lst r.2))
      | none => .bad
    | _ => .bad
  | _ => .bad
  else .bad
def BmWS (kt : Kt) (X : Cx) (id : String) (o : List Vl → List Vl → Option (Vl × List Vl)) : Prop :=
  ∃ r : V → List V → Hp → VK → Prop, MtR X id r ∧ ∀ (W : Wd) (l : Addr) (xs ys : List Vl) (us vs : List V) (z : Vl) (xs' : List Vl) (Q : VK), W.H l = some (.lst us) → Reps kt.K W xs us → PkS kt.K W .s ys vs → o xs ys = some (z, xs') →
    (∀ w us', Rep kt.K W z w → Reps kt.K W xs' us' → Q w (upd W.H l (.lst us'))) → r (.ref l) vs W.H Q
section
variable {kt : Kt} {B : Bs} {X : Cx} {p pa pb pc : Bool} {m ma mb mc : Md} {a b c e : Expr} {es : List Expr} {da db dc d : DE} {ds : DA} {pos np np2 apos cpos pos2 : Pos} {i : Nat} {x name : Str} {id T : String}
theorem sx_tupRev (hc : X.calm = true) (ha : SX kt B X p m a da) (hg : Gl X "tuple" := by rfl) (hm : X.mg "tuple" = none := by rfl) (hg2 : Gl X "reversed" := by rfl) (hm2 : X.mg "reversed" = none := by rfl) (hs : starEach [a] X.env = (false, eval a X.env) :: starEach [] X.env := by rfl)
    (hs2 : starEach [.Call (.Name "reversed" np2) [a] [] pos2] X.env = (false, eval (.Call (.Name "reversed" np2) [a] [] pos2) X.env) :: starEach [] X.env := by rfl) (hK : X.K = kt.K := by rfl) :
    SX kt B X p .s (.Call (.Name "tuple" np) [.Call (.Name "reversed" np2) [a] [] pos2] [] pos) (dTupRev da) := fun Wish tk => (pe_tupRevP hc hg hm hg2 hm2 (ha Wish tk) hs hs2).imp fun σ H Q ⟨W, env, G, e, A, h⟩ => by
  subst e
  refine ⟨W, env, G, rfl, A, h.bindL.mono ?_⟩
  rintro v H1 ⟨W1, x, G1, rfl, e1, A1, z1, h1⟩
  obtain ⟨z, ez, q⟩ := opsPo h1
  obtain ⟨⟨k, ys⟩, e2, rfl⟩ := Option.map_eq_some_iff.mp ez
  obtain ⟨a, vs, rfl, r, g⟩ := seqOf_LT A1 z1.any e2
  rw [hK]
  refine ⟨a, vs, rfl, g, fun l o hl hd => ?_⟩
  obtain ⟨e3, A3, r3⟩ := new_tup A1 hl hd r.reverse
  exact q _ _ e3 A3 r3
theorem sx_listO (ha : SX kt B X p m a da) (hg : Gl X "list" := by rfl) (hm : X.mg "list" = none := by rfl) (he : starEach [a] X.env = (false, eval a X.env) :: starEach [] X.env := by rfl) (hK : X.K = kt.K := by rfl) :
    SX kt B X p .s (.Call (.Name "list" np) [a] [] pos) (dListO da) := fun Wish tk => by
  refine (pe_callTy call_list_of hg hm boot_list (pa_cons (ha Wish tk) pa_nil he) (by decide) (by decide) he rfl).imp fun σ H Q ⟨W, env, G, e, A, h⟩ => ?_
  subst e
  refine ⟨W, env, G, rfl, A, h.bindL.mono ?_⟩
  rintro v H1 ⟨W1, x, G1, rfl, e1, A1, z1, h1⟩
  split at h1
  case h_2 => exact h1.elim
  rename_i k ek
  obtain ⟨a', vs, rfl, r, g⟩ := seqOf_LT (k := k.1) (ys := k.2) A1 z1.any ek
  rw [hK]
  refine ⟨a', vs, rfl, g, fun l hl => ?_⟩
  obtain ⟨e2, A2⟩ := A1.mkL hl r
  refine h1 (W1.mkL l G1.length vs) (.ref l) e2 A2 (.inl ⟨l, rfl, ?_⟩)
  show (W1.ρ ++ [l])[G1.length]? = some l
  rw [← A1.ok.rg.len, List.getElem?_append_right (Nat.le_refl _)] <;> simp
theorem sx_bmW {o : List Vl → List Vl → Option (Vl × List Vl)} (ho : BmWS kt X id o) (slot : Slot "list" name id) (hty : typeOf (.builtin id) = pure (.type "method_descriptor")) (ha : SX kt B X pa .s a da) (hs : SAm kt B X pb .s (e :: es) ds) (hp : B.p = false)
    (hbase : attributeBase a name X.env (eval a X.env) = eval a X.env := by rfl)
    (hfew : ((backTo cpos (starEach (e :: es) X.env)).all (fun x => !x.1) && (backToKw cpos (keywordEach [] X.env)).all (fun x => x.1.isSome) && decide ((e :: es).length + ([] : List Keyword).length + (if ([] : List Keyword).isEmpty then 0 else 1) < 30)) = true := by rfl)
    (hline : (apos.endLine == cpos.line) = true := by rfl) (hst : starEach (e :: es) X.env = (false, eval e X.env) :: starEach es X.env := by rfl) (hplain : (backTo cpos (starEach es X.env)).any (·.1) = false := by rfl) (hK : X.K = kt.K := by rfl) :
    SX kt B X false .s (.Call (.Attribute a name apos) (e :: es) [] cpos) (dBmW o da ds) := fun Wish tk => by
  obtain ⟨r, hr, ho⟩ := ho
  obtain ⟨tp, ht, hR⟩ := rc_lst (kt := kt) (X := X) hK
  refine (pe_bmG ht PySem.F.plainAttrs_list slot hty hr (ha Wish tk) (hs Wish tk) hbase hfew hline hst hplain).imp fun σ H Q ⟨W, env, G, e, A, h⟩ => ?_
  subst e
  refine ⟨W, env, G, rfl, A, (PoX.bindE (q := false) h.fls).mono ?_⟩
  rintro v H1 ⟨W1, x, G1, rfl, e1, A1, z1, h1⟩
  split at h1
  case isFalse => exact h1.elim
  rename_i htx
  refine ⟨hR B σ env G1 W1 x v A1 z1.any htx, W1, env, G1, rfl, A1, (PoX.bindE (q := false) h1.fls).mono ?_⟩
  rintro vs H2 ⟨W2, ys, G2, rfl, e2, A2, z2, h2⟩
  split at h2
  case h_2 => exact h2.elim
  rename_i j
  split at h2
  case h_2 => exact h2.elim
  rename_i xs eg
  split at h2
  case h_2 => exact h2.elim
  rename_i rr er
  obtain ⟨a', rfl, ha'⟩ := (z1.ext (m := .s) e2 (.inr (fun z => by cases z))).ref
  obtain ⟨a2, q1, q2, us, q3, rp⟩ := A2.ok.rg.ob _ _ eg
  rw [ha'] at q1; cases q1
  refine ho W2 a' xs ys us vs rr.1 rr.2 Q q3 rp z2 (by rw [er]) fun w us' hw hus => ?_
  have e4 : Ext false W2 (W2.wr a' (.lst us')) := Ext.wr (by rw [q2]; rfl) q3 rfl
  refine h2 (W2.wr a' (.lst us')) w e4 (A2.wr hp q3 rfl rfl (.inl q2) fun b hb => ?_) (.inl (Rep.ext e4 _ _ hw))
  rw [ha'] at hb; cases hb
  exact ⟨_, upd_same, Reps.ext e4 _ _ hus⟩
end
/-- xs.pop(i) -/
def oPopAt (xs : List Vl) : List Vl → Option (Vl × List Vl)
  | [.int i] => if xs.length ≤ 16777216 then (ixN xs.length i).bind fun k => (xs[k]?).map fun y => (y, xs.eraseIdx k) else none
  | _ => none
def oInsert (xs : List Vl) : List Vl → Option (Vl × List Vl)
  | [.int i, y] => if xs.length < 16777216 ∧ 0 ≤ i ∧ sm62 i = true then some (.non, xs.take i.toNat ++ [y] ++ xs.drop i.toNat) else none
  | _ => none
section
variable {kt : Kt} {X : Cx}
theorem bmw_popAt : BmWS kt X "list.pop" oPopAt := by
  refine ⟨_, mt_popAt, fun W l xs ys us vs z xs' Q hl r hy e q => ?_⟩
  unfold oPopAt at e
  split at e
  · split at e
    · rename_i i hz
      obtain ⟨k, e1, e2⟩ := Option.bind_eq_some_iff.mp e
      obtain ⟨y, e3, e4⟩ := Option.map_eq_some_iff.mp e2
      cases e4
      obtain ⟨v, rfl, h2⟩ := hy.one
      cases h2.int
      obtain ⟨w, hw1, hw2⟩ := r.get e3
      obtain ⟨s1, s2, s3, s4⟩ := ixN_seq e1
      refine ⟨l, us, i, k, w, rfl, rfl, hl, by omega, by omega, by rw [← r.length] <;> exact s1, hw1, q w _ hw2 (r.eraseIdx k)⟩
    · cases e
  · cases e
theorem bmw_insert : BmWS kt X "list.insert" oInsert := by
  refine ⟨_, mt_insert, fun W l xs ys us vs z xs' Q hl r hy e q => ?_⟩
  unfold oInsert at e
  split at e
  · split at e
    · rename_i i y hz
      cases e
      obtain ⟨v, u, rfl, h2, h3⟩ := hy.two
      cases h2.int
      have hb := sm62_ok hz.2.2
      exact ⟨l, us, i, u, rfl, rfl, hl, by rw [← r.length, sizeLine_eq] <;> exact hz.1, hz.2.1, by omega, q .non _ rfl (((r.take _).append (Reps.one h3.strict)).append (r.drop _))⟩
    · cases e
  · cases e
end
end CardH
end
section
set_option maxHeartbeats 2000000
namespace CardH
open PySem PySem.Spec PyProof.Rows L2
/-! ### lists of the store: displays, +=, + -/
def dLstO (ds : DA) : DE := fun env G => (ds env G).bind fun xs G1 => if xs.length ≤ 16777216 then .ok (.ref G1.length) (G1 ++ [.lst xs]) else .bad
def dAugO (i : Nat) (dv : DE) : DS := fun e G => match e[i]? with
  | some (some (.val (.ref j))) => sb e (dv e G) fun v G1 => match G1[j]?, v with
    | some (.lst xs), .lst ys => if xs.length + ys.length ≤ 16777216 then .nx e (G1.set j (.lst (xs ++ ys))) else .bad
    | _, _ => .bad
  | _ => .bad
def lstOf (G : Gst) : Vl → Option (List Vl)
  | .lst xs => some xs
  | .ref j => match G[j]? with
    | some (.lst xs) => some xs
    | _ => none
  | _ => none
def dCat (da db : DE) : DE := fun env G => (da env G).bind fun x G1 => (db env G1).bind fun y G2 => match lstOf G2 x, lstOf G2 y with
  | some xs, some ys => if xs.length + ys.length ≤ 16777216 then .ok (.lst (xs ++ ys)) G2 else .bad
  | _, _ => .bad
section
variable {kt : Kt} {B : Bs} {X : Cx} {p pa pb pc : Bool} {m ma mb mc : Md} {a b c e : Expr} {es : List Expr} {da db dc d dv : DE} {ds : DA} {pos pos' np apos cpos pos2 : Pos} {x name : Str}
theorem lstOf_r {W : Wd} {G : Gst} {σ : L2.St} {env : LEnv} {x : Vl} {v : V} {ys : List Vl} (A : RAll kt B W σ env G) (hx : Pk kt.K W .f x v) (e : lstOf G x = some ys) : ∃ a vs, v = .ref a ∧ Reps kt.K W ys vs ∧ W.H a = some (.lst vs) := by
  unfold lstOf at e
  split at e
  · cases e
    obtain ⟨a, vs, h1, h2, h3⟩ := hx.lst
    exact ⟨a, vs, h1, h3, h2⟩
  · split at e
    · rename_i j zs eg
      cases e
      obtain ⟨a, rfl, ha⟩ := hx.ref
      obtain ⟨a2, q1, q2, us, q3, rp⟩ := A.ok.rg.ob _ _ eg
      rw [ha] at q1; cases q1
      exact ⟨a, us, rfl, rp, q3⟩
    · cases e
  · cases e
theorem sx_lstO {p2 : Pos} (h : SAm kt B X p .s es ds) : SX kt B X p .s (.List es p2) (dLstO ds) := fun Wish tk => (pe_lst (h Wish tk)).imp fun σ H Q ⟨W, env, G, e, A, h⟩ => by
  subst e
  refine ⟨W, env, G, rfl, A, h.bindL.mono ?_⟩
  rintro vs H1 ⟨W1, xs, G1, rfl, e1, A1, z1, h1⟩
  split at h1
  · refine ⟨by rw [← z1.strict.length, sizeLine_eq]; assumption, fun l hl => ?_⟩
    obtain ⟨e2, A2⟩ := A1.mkL hl z1.strict
    refine h1 (W1.mkL l G1.length vs) (.ref l) e2 A2 (.inl ⟨l, rfl, ?_⟩)
    show (W1.ρ ++ [l])[G1.length]? = some l
    rw [← A1.ok.rg.len, List.getElem?_append_right (Nat.le_refl _)] <;> simp
  · exact h1.elim
theorem sx_cat (ha : SX kt B X pa ma a da) (hb : SX kt B X pb mb b db) (hm : okM pb ma = true := by rfl) : SX kt B X (pa && pb) .s (.BinOp a .Add b pos) (dCat da db) := fun Wish tk => by
  refine (pe_op op_cat (ha Wish tk) (hb Wish tk)).imp fun σ H Q ⟨W, env, G, e, A, h⟩ => ?_
  subst e
  refine ⟨W, env, G, rfl, A, h.bindE.mono ?_⟩
  rintro v H1 ⟨W1, x, G1, rfl, e1, A1, z1, h1⟩
  refine ⟨W1, env, G1, rfl, A1, h1.bindL.mono ?_⟩
  rintro u H2 ⟨W2, y, G2, rfl, e2, A2, z2, h2⟩
  split at h2
  case h_2 => exact h2.elim
  rename_i xs ys ex ey
  split at h2
  case isFalse => exact h2.elim
  rename_i hz
  obtain ⟨a1, vs, rfl, r1, g1⟩ := lstOf_r A2 (z1.ext e2 (okM_or hm)).any ex
  obtain ⟨b1, us, rfl, r2, g2⟩ := lstOf_r A2 z2.any ey
  refine ⟨a1, b1, vs, us, rfl, rfl, g1, g2, by rw [← r1.length, ← r2.length, sizeLine_eq]; exact hz, fun l hl => ?_⟩
  obtain ⟨e3, A3, r3⟩ := new_lst A2 hl (r1.append r2)
  exact h2 _ _ e3 A3 (.inl r3)
theorem ss_augO (i : Nat) (hN : X.N.Nodup) (hp : B.p = false) (hv : SX kt B X p .s e dv) (hi : X.N[i]? = some x := by rfl) (hx : Loc X.env.scope x := by first | exact Or.inl rfl | exact Or.inr rfl)
    (hf : X.fn x = true ∨ X.env.scope.names.lookup x = some .local := by first | exact .inl rfl | exact .inr rfl) : SS kt B X (.AugAssign (.Name x pos') .Add e pos) (dAugO i dv) := fun Wish tk => by
  refine (ps_aug (ti := rExt2) hN hi hx (hv Wish tk) (fun pins s σ H x y v u Q I rx ry q => iop_ext pins s σ H x y v u Q I rx ry q) hf).imp fun D σ H ⟨W, env, G, e, A, h⟩ => ?_
  subst e
  unfold dAugO at h
  split at h
  case h_2 => exact h.elim
  rename_i j ei
  obtain ⟨w, hσ, hfv, hown⟩ := A.re.sl i _ ei
  refine ⟨w, hσ, W, env, G, rfl, A, h.bindS.mono ?_⟩
  rintro v H1 ⟨W1, y1, G1, rfl, e1, A1, z1, h1⟩
  split at h1
  case h_2 => exact h1.elim
  rename_i xs ys eg
  split at h1
  case isFalse => exact h1.elim
  rename_i hz
  obtain ⟨a', rfl, ha'⟩ := hfv
  have ha1 : W1.ρ[j]? = some a' := e1.toR.ref ha'
  obtain ⟨a2, q1, q2, us, q3, rp⟩ := A1.ok.rg.ob _ _ eg
  rw [ha1] at q1; cases q1
  obtain ⟨b1, zs, rfl, h2, r2⟩ := z1.lst
  refine ⟨a', b1, us, zs, rfl, rfl, q3, h2, by rw [← rp.length, ← r2.length, sizeLine_eq]; exact hz, ?_⟩
  have e4 : Ext false W1 (W1.wr a' (.lst (us ++ zs))) := Ext.wr (by rw [q2]; rfl) q3 rfl
  have A4 : RAll kt B (W1.wr a' (.lst (us ++ zs))) σ env (G1.set j (.lst (xs ++ ys))) := A1.wr hp q3 rfl rfl (.inl q2) fun b hb => by
    rw [ha1] at hb; cases hb
    exact ⟨_, upd_same, (Reps.ext e4 _ _ rp).append (Reps.ext e4 _ _ r2)⟩
  have hi' : i < env.length := (List.getElem?_eq_some_iff.mp ei).1
  have A5 : RAll kt B (W1.wr a' (.lst (us ++ zs))) (σ.set i (some (.ref a'))) (env.set i (some (.val (.ref j)))) (G1.set j (.lst (xs ++ ys))) := A4.set (i := i) (x := .ref j) (v := .ref a') ⟨a', rfl, by show W1.ρ[j]? = some a'; exact ha1⟩
  have hse : env.set i (some (.val (.ref j))) = env := by
    refine List.ext_getElem? fun k => ?_
    by_cases hk : i = k
    · subst hk
      rw [List.getElem?_set_self hi', ei]
    · rw [List.getElem?_set_ne hk]
  rw [hse] at A5
  exact h1 _ _ e4.toS A5
end
section
variable {α : Type} {g : DG} {dt : DT} {de : DE} {e0 env : LEnv} {G G1 : Gst} {vs : List Nat} {di : DI}
theorem gxL_sumF (c : α → Vl) (p : α → Bool) (f : α → Int) : ∀ (l : List α) (s : Int), (∀ a ∈ l, ∃ e, g e0 (c a) = some e ∧ dt e G = .ok (p a) G ∧ (p a = true → de e G = .ok (.int (f a)) G)) →
    gxL sumV (fun a => .int a) g dt de e0 s (l.map c) G = .ok (.int (s + ((l.filter p).map f).sum)) G
  | [], s, _ => by simp [gxL]
  | a :: l, s, h => by
    obtain ⟨e, h1, h2, h3⟩ := h a (by simp)
    rw [List.map_cons]
    unfold gxL
    rw [h1]
    dsimp only
    rw [h2, R.bind_ok]
    cases hp : p a with
    | true =>
      have ih := gxL_sumF c p f l (s + f a) fun b hb => h b (by simp [hb])
      rw [if_pos rfl, h3 hp, R.bind_ok, List.filter_cons_of_pos hp]
      simpa [sumV, Int.add_assoc] using ih
    | false =>
      have ih := gxL_sumF c p f l s fun b hb => h b (by simp [hb])
      rw [if_neg (by simp), List.filter_cons_of_neg (by simp [hp])]
      exact ih
theorem dSumG_tmF (l : List α) (c : α → Vl) (p : α → Bool) (f : α → Int) (hdi : di env G = .ok (l.map c) G1) (h : ∀ a ∈ l, ∃ e, g (wipeE env vs) (c a) = some e ∧ dt e G1 = .ok (p a) G1 ∧ (p a = true → de e G1 = .ok (.int (f a)) G1)) :
    dSumG vs di g dt de env G = .ok (.int ((l.filter p).map f).sum) G1 := by
  unfold dSumG dGx
  rw [hdi, R.bind_ok, gxL_sumF c p f l 0 h, Int.zero_add]; rfl
end
theorem sum_ones {α : Type} (l : List α) : (l.map fun _ => (1 : Int)).sum = l.length := by
  induction l with
  | nil => rfl
  | cons a l ih => simp [ih]; omega
theorem ixN_nat {n k : Nat} (h : k < n) : ixN n (k : Int) = some k := by
  unfold ixN
  rw [if_pos (by omega), if_pos (by omega)]; rfl
theorem oPopAt_eq {xs : List Vl} {k : Nat} {y : Vl} (hl : xs.length ≤ 16777216) (h : xs[k]? = some y) : oPopAt xs [.int (k : Nat)] = some (y, xs.eraseIdx k) := by
  have hk := (List.getElem?_eq_some_iff.mp h).1
  show (if xs.length ≤ 16777216 then (ixN xs.length (k : Nat)).bind fun k => (xs[k]?).map fun y => (y, xs.eraseIdx k) else none) = _
  rw [if_pos hl, ixN_nat hk]
  show Option.map _ _ = _
  rw [h]; rfl
theorem oInsert_eq {xs : List Vl} {k : Nat} {y : Vl} (hl : xs.length < 16777216) (hk : k < 4611686018427387904) : oInsert xs [.int (k : Nat), y] = some (.non, xs.take k ++ [y] ++ xs.drop k) := if_pos ⟨hl, by omega, sm62_of (by omega)⟩
theorem isEmpty_map {α β : Type} (f : α → β) (l : List α) : (l.map f).isEmpty = l.isEmpty := by cases l <;> rfl
end CardH
end
section
set_option maxHeartbeats 2000000
namespace CardH
open PySem PySem.Spec PyProof.Rows L2
/-! ### a + b, a new list of the store; o[i], o[j] = a, b; [.. for x in a list of the store] -/
def dCatO (da db : DE) : DE := fun env G => (da env G).bind fun x G1 => (db env G1).bind fun y G2 => match lstOf G2 x, lstOf G2 y with
  | some xs, some ys => if xs.length + ys.length ≤ 16777216 then .ok (.ref G2.length) (G2 ++ [.lst (xs ++ ys)]) else .bad
  | _, _ => .bad
def setO1 (e : LEnv) (v : Vl) (do_ di : DE) (G : Gst) (k : Gst → SR) : SR := sb e (do_ e G) fun x G2 => sb e (di e G2) fun y G3 => match x, y with
  | .ref j, .int i => match G3[j]? with
    | some (.lst xs) => match ixN xs.length i with
      | some n => k (G3.set j (.lst (xs.set n v)))
      | none => .bad
    | _ => .bad
  | _, _ => .bad
def dSetO2 (dv d1 d2 d3 d4 : DE) : DS := fun e G => sb e (dv e G) fun v G1 => match v with
  | .tup [x, y] => setO1 e x d1 d2 G1 fun G2 => setO1 e y d3 d4 G2 fun G3 => .nx e G3
  | _ => .bad
section
variable {kt : Kt} {B : Bs} {X : Cx} {p pa pb pc pd pe : Bool} {m ma mb mc : Md} {a b c d' e : Expr} {es : List Expr} {da db dc dd d dv : DE} {ds : DA} {pos pos' pos1 pos3 np apos cpos pos2 : Pos} {x name : Str}
theorem sx_catO (ha : SX kt B X pa ma a da) (hb : SX kt B X pb mb b db) (hm : okM pb ma = true := by rfl) : SX kt B X (pa && pb) .s (.BinOp a .Add b pos) (dCatO da db) := fun Wish tk => by
  refine (pe_op op_cat (ha Wish tk) (hb Wish tk)).imp fun σ H Q ⟨W, env, G, e, A, h⟩ => ?_
  subst e
  refine ⟨W, env, G, rfl, A, h.bindE.mono ?_⟩
  rintro v H1 ⟨W1, x, G1, rfl, e1, A1, z1, h1⟩
  refine ⟨W1, env, G1, rfl, A1, h1.bindL.mono ?_⟩
  rintro u H2 ⟨W2, y, G2, rfl, e2, A2, z2, h2⟩
  split at h2
  case h_2 => exact h2.elim
  rename_i xs ys ex ey
  split at h2
  case isFalse => exact h2.elim
  rename_i hz
  obtain ⟨a1, vs, rfl, r1, g1⟩ := lstOf_r A2 (z1.ext e2 (okM_or hm)).any ex
  obtain ⟨b1, us, rfl, r2, g2⟩ := lstOf_r A2 z2.any ey
  refine ⟨a1, b1, vs, us, rfl, rfl, g1, g2, by rw [← r1.length, ← r2.length, sizeLine_eq]; exact hz, fun l hl => ?_⟩
  obtain ⟨e3, A3⟩ := A2.mkL hl (r1.append r2)
  refine h2 (W2.mkL l G2.length (vs ++ us)) (.ref l) e3 A3 (.inl ⟨l, rfl, ?_⟩)
  show (W2.ρ ++ [l])[G2.length]? = some l
  rw [← A2.ok.rg.len, List.getElem?_append_right (Nat.le_refl _)] <;> simp
theorem setO1_ok {W : Wd} {env : LEnv} {G : Gst} {σ : L2.St} {Wish : WX} {v : V} {z : Vl} {k : Gst → SR} {D : Ends} {Q : L2.St → Hp → Prop} (hp : B.p = false)
    (A : RAll kt B W σ env G) (r : Rep kt.K W z v) (h : PoS kt B W Wish (setO1 env z da db G k) D)
    (q : ∀ W' G', ExtS W W' → RAll kt B W' σ env G' → PoS kt B W' Wish (k G') D → Q σ W'.H) :
    gSub (rdX kt B pb Wish (fun W x v => Pk kt.K W .s x v) da) (rdX kt B pc Wish (fun W x v => Pk kt.K W .s x v) db) rSetL v σ W.H Q := by
  refine ⟨W, env, G, rfl, A, h.bindS.mono ?_⟩
  rintro u H2 ⟨W2, y, G2, rfl, e2, A2, z2, h2⟩
  refine ⟨W2, env, G2, rfl, A2, h2.bindS.mono ?_⟩
  rintro w H3 ⟨W3, z', G3, rfl, e3, A3, z3, h3⟩
  split at h3
  · rename_i j i
    split at h3
    · rename_i xs eg
      split at h3
      · rename_i n en
        obtain ⟨a', rfl, ha'⟩ := (z2.ext (m := .s) e3 (.inr (fun z => by cases z))).ref
        obtain rfl := z3.int
        obtain ⟨a2, q1, q2, vs, q3, rr⟩ := A3.ok.rg.ob _ _ eg
        rw [ha'] at q1; cases q1
        have rv : Rep kt.K W3 z v := (r.ext e2).ext e3
        refine ⟨a', vs, i, n, rfl, rfl, q3, by rw [← rr.length]; exact en, ?_⟩
        have e4 : Ext false W3 (W3.wr a' (.lst (vs.set n v))) := Ext.wr (by rw [q2]; rfl) q3 rfl
        have eA : ExtS W (W3.wr a' (.lst (vs.set n v))) := ((e2.trans e3).trans e4).toS
        exact q (W3.wr a' (.lst (vs.set n v))) _ eA (A3.wr hp q3 rfl rfl (.inl q2) fun b hb => by
          rw [ha'] at hb; cases hb
          exact ⟨_, upd_same, (Reps.ext e4 _ _ rr).set n (rv.ext e4)⟩) (h3.shift e4)
      · exact h3.elim
    · exact h3.elim
  · exact h3.elim
theorem ss_setO2 {a1 b1 a2 b2 : Expr} {d1 d2 d3 d4 : DE} {k1 : Nat} {pt ps1 ps2 : Pos} {p1 p2 p3 p4 : Bool} (hc : X.calm = true) (hp : B.p = false) (hv : SX kt B X p .s e dv) (h1 : SX kt B X p1 .s a1 d1) (h2 : SX kt B X p2 .s b1 d2) (h3 : SX kt B X p3 .s a2 d3) (h4 : SX kt B X p4 .s b2 d4)
    (hs : swapsWithSole [.Tuple [.Subscript a1 b1 ps1, .Subscript a2 b2 ps2] k1 pt] e pos.line X.env = pure false := by rfl) (hw : swappedStores [.Tuple [.Subscript a1 b1 ps1, .Subscript a2 b2 ps2] k1 pt] e X.env = pure none := by rfl)
    (ha1 : (assignEach [.Tuple [.Subscript a1 b1 ps1, .Subscript a2 b2 ps2] k1 pt] X.env).map (·.2) = [assign (.Tuple [.Subscript a1 b1 ps1, .Subscript a2 b2 ps2] k1 pt) X.env] := by rfl)
    (hn : (assignEach [.Subscript a1 b1 ps1, .Subscript a2 b2 ps2] X.env).length = 2 := by rfl) (hst : (assignEach [.Subscript a1 b1 ps1, .Subscript a2 b2 ps2] X.env).findIdx? (·.1) = none := by rfl)
    (hs1 : (assignEach [.Subscript a1 b1 ps1, .Subscript a2 b2 ps2] X.env).map (·.2) = assign (.Subscript a1 b1 ps1) X.env :: (assignEach [.Subscript a2 b2 ps2] X.env).map (·.2) := by rfl)
    (hs2 : (assignEach [.Subscript a2 b2 ps2] X.env).map (·.2) = assign (.Subscript a2 b2 ps2) X.env :: (assignEach [] X.env).map (·.2) := by rfl)
    (hq1 : ∀ v, assign (.Subscript a1 b1 ps1) X.env v = (do
      let ov ← holding [v] (eval a1 X.env)
      let iv ← holding [v, ov] (eval b1 X.env)
      standAt ps1
      holding [v, ov, iv] (setItem ov iv v)
      release [v, ov, iv] []) := by intro _; rfl)
    (hq2 : ∀ v, assign (.Subscript a2 b2 ps2) X.env v = (do
      let ov ← holding [v] (eval a2 X.env)
      let iv ← holding [v, ov] (eval b2 X.env)
      standAt ps2
      holding [v, ov, iv] (setItem ov iv v)
      release [v, ov, iv] []) := by intro _; rfl) (hK : X.K = kt.K := by rfl) :
    SS kt B X (.Assign [.Tuple [.Subscript a1 b1 ps1, .Subscript a2 b2 ps2] k1 pt] e pos) (dSetO2 dv d1 d2 d3 d4) := fun Wish tk => by
  refine (ps_asg (hv Wish tk) (pg_tup hc (pgs_cons (pg_sub (h1 Wish tk) (h2 Wish tk) set_list hq1) (pgs_cons (pg_sub (h3 Wish tk) (h4 Wish tk) set_list hq2) pgs_nil hs2) hs1) hn hst) hs hw ha1).imp fun D σ H ⟨W, env, G, e, A, h⟩ => ?_
  subst e
  refine ⟨W, env, G, rfl, A, h.bindS.mono ?_⟩
  rintro v H1 ⟨W1, x, G1, rfl, e1, A1, z1, h1⟩
  split at h1
  case h_2 => exact h1.elim
  rename_i x y
  have z1 := z1.strict
  obtain ⟨a, vs, rfl, r, hq⟩ := rep_sqT z1 rfl
  obtain ⟨v1, v2, rfl, r1, r2⟩ : ∃ v1 v2, vs = [v1, v2] ∧ Rep kt.K W1 x v1 ∧ Rep kt.K W1 y v2 := by
    obtain ⟨v1, r', rfl, r1, v2, r'', rfl, r2, rfl⟩ := r
    exact ⟨v1, v2, rfl, r1, r2⟩
  rw [hK]
  refine ⟨a, _, rfl, hq W1 ExtR.refl, rfl, v1, [v2], rfl, ?_⟩
  refine setO1_ok hp A1 r1 h1 fun W2 G2 e2 A2 h2 => ?_
  refine ⟨v2, [], rfl, ?_⟩
  refine setO1_ok hp A2 (Rep.extR e2 rfl rfl _ _ r2) h2 fun W3 G3 e3 A3 h3 => ?_
  exact ⟨rfl, h3 W3 σ ExtR.refl A3⟩
end
/-! what is walked: a list of the store, as long as nothing that stood is changed -/
structure Ylp (kt : Kt) (W' : Wd) (xs : List Vl) (Gd : Hp → Prop) (Y : Nat → Hp → V → Hp → Prop) : Prop where
  gd : ∀ W'', Ext true W' W'' → Gd W''.H
  yl : ∀ i H x H', i < xs.length → Y i H x H' → ∀ W'', Ext true W' W'' → W''.H = H → ∃ y, xs[i]? = some y ∧ ((H' = H ∧ Rep kt.K W'' y x) ∨ (∃ T vs, x = .ref T ∧ H T = none ∧ H' = upd H T (.tup vs) ∧ Rep kt.K (W''.alloc T (.tup vs) .no) y x))
def SIp (kt : Kt) (B : Bs) (X : Cx) (p : Bool) (tg iter : Expr) (d : DI) : Prop := ∀ Wish, Takes X Wish → ∃ wi : TI, PI X tg iter wi ∧ ∀ σ H R, (∃ W env G, W.H = H ∧ RAll kt B W σ env G ∧
  (match d env G with
    | .bad => False
    | .exn c G' => ∀ W' od, Ext p W W' → RAll kt B W' σ env G' → ExOk c od W'.H → Wish (kt.exc c.cls) od σ W'.H
    | .ok xs G' => ∀ W', Ext p W W' → RAll kt B W' σ env G' → ∀ J Gd Y, Walk J xs.length Gd Y → Ylp kt W' xs Gd Y → R J W'.H)) → wi σ H R
def diSto (d : DE) : DI := fun env G => (d env G).bind fun x G1 => opt (lstOf G1 x) G1
section
variable {kt : Kt} {B : Bs} {X : Cx} {p pi pt pe : Bool} {a elt tg iter : Expr} {ifs : List Expr} {scope : Scope} {own : List (Str × Nat)} {pos : Pos} {sl : List Nat} {di : DI} {g : DG} {dt : DT} {da de : DE}
theorem si_sto (ha : SX kt B X p .s a da) (hK : X.K = kt.K := by rfl) : SIp kt B X p tg a (diSto da) := fun Wish tk => by
  refine ⟨_, pi_any (ha Wish tk), fun σ H RR ⟨W, env, G, e, A, h⟩ => ?_⟩
  subst e
  refine ⟨W, env, G, rfl, A, ?_⟩
  unfold diSto at h
  cases q : da env G with
  | bad => rw [q] at h; exact h.elim
  | exn c G' => rw [q] at h; exact h
  | ok x G1 =>
    rw [q, R.bind_ok] at h
    intro W' v e1 A' z
    cases ew : lstOf G1 x with
    | none => rw [ew] at h; exact h.elim
    | some xs =>
      rw [ew] at h
      obtain ⟨b, vs, rfl, r, hb⟩ := lstOf_r A' z.any ew
      rw [hK]
      refine .inl ⟨b, rfl, .inl ⟨⟨vs, SqL.of hb⟩, h W' e1 A' _ _ _ (by rw [r.length]; exact walk_list) ⟨fun W'' e2 => SqL.of (e2.keep b _ hb (fun _ z => nomatch z) (.inl rfl)), fun i H y H' hi y1 W'' e2 eh => ?_⟩⟩⟩
      obtain ⟨y', h1, h2⟩ := (Reps.ext e2 _ _ r).get' y1.2
      exact ⟨y', h1, .inl ⟨y1.1, h2⟩⟩
theorem lc_impP (hi : SIp kt B X pi tg iter di)
    (hsl : sl.all (fun i => (own.map (·.2)).contains i) = true) {Wish : WX} (tk : Takes X Wish) :
    ∃ wi, PI X tg iter wi ∧ ∀ σ H Q, rdX kt B pi Wish (fun W x v => Pk kt.K W .s x v) (dLc (own.map (·.2)) di g dt de) σ H Q →
      tLc wi (rdG kt B sl g) (rdX kt B true (fun _ _ _ _ => False) ZB dt) (rdX kt B true (fun _ _ _ _ => False) (fun W x v => Pk kt.K W .s x v) de) (own.map (·.2)) σ H Q := by
  obtain ⟨wi, hwi, him⟩ := hi Wish tk
  have hsl : ∀ i, i ∈ sl → i ∈ own.map (·.2) := fun i h => by simpa using List.all_eq_true.mp hsl i h
  refine ⟨wi, hwi, fun σ H Q ⟨W, env, G, e, A, h⟩ => ?_⟩
  subst e
  refine him _ _ _ ⟨W, env, G, rfl, A, ?_⟩
  unfold dLc at h
  cases q : di env G with
  | bad => rw [q] at h; exact h.elim
  | exn c G' => rw [q] at h; exact fun W' od e A z => h W' od e A z
  | ok xs G1 =>
    rw [q, R.bind_ok] at h
    intro W1 e1 A1 J Gd Y wk yl D hD
    generalize hvs : own.map (·.2) = vs at h hsl ⊢
    cases qc : compL g dt de (wipeE env vs) xs G1 with
    | bad => rw [qc] at h; exact h.elim
    | exn c G' => rw [qc] at h; exact h.elim
    | ok ys Gf =>
      rw [qc] at h
      have h : PoX kt B pi σ env W Wish (fun W x v => Pk kt.K W .s x v) (if ys.length ≤ 16777216 then .ok (.lst ys) Gf else .bad) Q := h
      split at h
      case isFalse => exact h.elim
      rename_i hlen
      refine lc_it wk (fun i H => ∃ Wi Gi acc accV rest, Wi.H = H ∧ Ext true W1 Wi ∧ RAll kt B Wi (wipe σ vs) (wipeE env vs) Gi ∧ Wi.Γ D = .tmp ∧ Wi.H D = some (.lst accV) ∧ Reps kt.K Wi acc accV ∧
        compL g dt de (wipeE env vs) (xs.drop i) Gi = .ok rest Gf ∧ acc ++ rest = ys) ?_ ?_ ?_ ?_
      · exact ⟨W1.alloc D (.lst []) .tmp, G1, [], [], ys, rfl, (Ext.alloc hD).weak, (A1.wipe vs).alloc hD rfl rfl, if_pos rfl, upd_same, rfl, qc, rfl⟩
      · rintro i H hi ⟨Wi, Gi, acc, accV, rest, rfl, ei, _⟩
        exact yl.gd Wi ei
      · rintro i x H H' hi ⟨Wi, Gi, acc, accV, rest, eH, ei, Ai, gi, di', ri, ci, ai⟩ y
        obtain ⟨y0, hy0, hrep⟩ := yl.yl i H x H' hi y Wi ei eH
        have hW2 : ∃ W2, W2.H = H' ∧ Ext true Wi W2 ∧ RAll kt B W2 (wipe σ vs) (wipeE env vs) Gi ∧ Rep kt.K W2 y0 x := by
          rcases hrep with ⟨e, r⟩ | ⟨T, us, e, hT, e2, r⟩
          · exact ⟨Wi, by rw [e]; exact eH, Ext.refl, Ai, r⟩
          · have hT' : Wi.H T = none := by rw [eH]; exact hT
            exact ⟨Wi.alloc T (.tup us) .no, by rw [e2, ← eH]; rfl, Ext.alloc hT', Ai.alloc hT' rfl rfl, r⟩
        obtain ⟨W2, rfl, e2, A2, rep⟩ := hW2
        have d2 : W2.H D = some (.lst accV) := e2.keep D _ di' (fun _ z => nomatch z) (.inl rfl)
        have g2 : W2.Γ D = .tmp := (e2.role D (by rw [di']; simp)).trans gi
        have r2 := ri.ext e2
        have e02 : Ext true W1 W2 := (ei.trans e2).mono fun z => by rw [z]; rfl
        have hdrop : xs.drop i = y0 :: xs.drop (i + 1) := by
          obtain ⟨h1, h2⟩ := List.getElem?_eq_some_iff.mp hy0
          rw [List.drop_eq_getElem_cons h1, h2]
        rw [hdrop] at ci
        unfold compL at ci
        cases eg : g (wipeE env vs) y0 with
        | none => rw [eg] at ci; cases ci
        | some e' =>
          rw [eg] at ci
          dsimp only at ci
          refine ⟨W2, wipeE env vs, Gi, y0, e', rfl, A2, rep, eg, fun σ' hset hw => ⟨by rw [hw vs hsl, wipe_wipe], W2, e', Gi, rfl, hset W2 Gi Ext.refl A2, ?_⟩⟩
          cases qt : dt e' Gi with
          | bad => rw [qt] at ci; cases ci
          | exn c G' => rw [qt] at ci; cases ci
          | ok b G3 =>
            rw [qt, R.bind_ok] at ci
            intro W3 b' e3 A3 z3
            obtain rfl : b = b' := z3
            cases b with
            | false =>
              rw [if_neg Bool.false_ne_true]
              dsimp only at ci
              exact ⟨W3, G3, acc, accV, rest, rfl, (e02.trans e3).mono fun z => rfl,
                ⟨A3.ok, A2.re.ext e3, A3.si, A3.nl⟩, (e3.role D (by rw [d2]; simp)).trans g2, e3.keep D _ d2 (fun _ z => nomatch z) (.inr (by rw [g2]; rfl)), r2.ext e3, ci, ai⟩
            | true =>
              rw [if_pos rfl]
              dsimp only at ci
              refine ⟨W3, e', G3, rfl, A3, ?_⟩
              cases qe : de e' G3 with
              | bad => rw [qe] at ci; cases ci
              | exn c G' => rw [qe] at ci; cases ci
              | ok yv G4 =>
                rw [qe, R.bind_ok] at ci
                intro W4 v e4 A4 z4
                have e34 := e3.trans e4
                have d4 : W4.H D = some (.lst accV) := e34.keep D _ d2 (fun _ z => nomatch z) (.inr (by rw [g2]; rfl))
                have g4 : W4.Γ D = .tmp := (e34.role D (by rw [d2]; simp)).trans g2
                have r4 := r2.ext e34
                cases qr : compL g dt de (wipeE env vs) (xs.drop (i + 1)) G4 with
                | bad => rw [qr] at ci; cases ci
                | exn c G' => rw [qr] at ci; cases ci
                | ok zs G5 =>
                  rw [qr, R.bind_ok] at ci
                  cases ci
                  have hl : acc.length + 1 ≤ ys.length := by rw [← ai]; simp
                  have A4' : RAll kt B W4 (wipe σ vs) (wipeE env vs) G4 := ⟨A4.ok, A2.re.ext e34, A4.si, A4.nl⟩
                  refine ⟨accV, d4, by rw [← r4.length, sizeLine_eq]; omega, W4.put D (.lst (accV ++ [v])) .tmp, G4, acc ++ [yv], accV ++ [v], zs, rfl, ?_, A4'.put g4 d4 (A1.fresh hD), if_pos rfl, upd_same, ?_, qr, by rw [← ai]; simp⟩
                  · exact Ext.put ((e02.trans e34).mono fun z => by rw [z]; rfl) hD d4
                  · exact (Reps.extR (ExtR.put g4 d4 : ExtR true isTmp W4 _) rfl rfl _ _ r4).append (Reps.one (Rep.extR (ExtR.put g4 d4 : ExtR true isTmp W4 _) rfl rfl _ _ z4.strict))
      · rintro H ⟨Wi, Gi, acc, accV, rest, rfl, ei, Ai, gi, di', ri, ci, ai⟩
        rw [List.drop_length] at ci
        cases ci
        rw [List.append_nil] at ai
        subst ai
        have e5 : Ext true W1 (Wi.put D (.lst accV) .froz) := Ext.put ei hD di'
        have A5 := Ai.put (ys := accV) (r := .froz) gi di' (A1.fresh hD)
        have h5 := h (Wi.put D (.lst accV) .froz) (.ref D) ((e1.trans e5).mono fun z => by rw [z]; rfl) ⟨A5.ok, A1.re.ext e5, A5.si, A5.nl⟩ (.inl ⟨D, accV, rfl, if_pos rfl, upd_same, Reps.extR (ExtR.put gi di' : ExtR true isTmp Wi _) rfl rfl _ _ ri⟩)
        have eH : (Wi.put D (.lst accV) .froz).H = Wi.H := upd_self di'
        rw [eH] at h5
        exact h5
theorem sx_lcP (hc : X.calm = true) (hN : X.N.Nodup) (hi : SIp kt B X pi tg iter di) (ok : blkC X.N X.env.scope scope own = true)
    (hg : ∀ (s : Shared) (H : Hp) (C : Addr) (cl : List (Str × Addr)) (fp : List Addr), SG kt B (X.blk s H scope (compEnvC scope cl C X.env) fp) sl tg g)
    (ht : ∀ (s : Shared) (H : Hp) (C : Addr) (cl : List (Str × Addr)) (fp : List Addr), STs kt B (X.blk s H scope (compEnvC scope cl C X.env) fp) true ifs dt)
    (he : ∀ (s : Shared) (H : Hp) (C : Addr) (cl : List (Str × Addr)) (fp : List Addr), SX kt B (X.blk s H scope (compEnvC scope cl C X.env) fp) true .s elt de)
    (hsl : sl.all (fun i => (own.map (·.2)).contains i) = true := by rfl) (hs : ∀ x, foldedSetIterable iter X.env x = pure x := by intro _; rfl) :
    SX kt B X pi .s (.ListComp elt [⟨tg, iter, ifs, 0⟩] scope pos) (dLc (own.map (·.2)) di g dt de) := fun Wish tk => by
  obtain ⟨wi, hwi, him⟩ := lc_impP (g := g) (dt := dt) (de := de) hi hsl tk
  exact (pe_lc hc hN hwi (blkOk_by ok) hg (fun s H C cl fp => ht s H C cl fp _ takes_blk) (fun s H C cl fp => he s H C cl fp _ takes_blk) hs).imp him
end
end CardH
end
section
set_option maxHeartbeats 2000000
namespace CardH
open PySem PySem.Spec PyProof.Rows L2 LamX
/-! ### a tuple of the module: (x, y, ..) of texts, of numbers -/
def keyV : Value → Option Key
  | .int i _ => some (.inl i)
  | .str x _ => some (.inr x)
  | _ => none
def keyW : Key → V
  | .inl i => .int i
  | .inr x => .str x
def keyVl : Key → Vl
  | .inl i => .int i
  | .inr x => .str x
def keyOk : Key → Bool
  | .inl _ => true
  | .inr x => okStr x
def ktpB (K : PySem.W.Frag) (x : PySem.Str) (zs : List Key) : Bool := match K.lookup (He.ga K x) with
  | some o => decide (o.cls = .type "tuple") && (match o.data with
    | .seq its _ => decide (its.toList.map keyV = zs.map some) && Nat.ble its.size 16777216
    | _ => false)
  | none => false
theorem vals_keys : ∀ {its : List Value} {zs : List Key}, its.map keyV = zs.map some → Vals (zs.map keyW) its
  | [], [], _ => .nil
  | [], _ :: _, h => by cases h
  | _ :: _, [], h => by cases h
  | v :: its, z :: zs, h => by
    rw [List.map_cons, List.map_cons] at h
    injection h with h1 h2
    refine .cons ?_ (vals_keys h2)
    cases v with
    | int i t => cases h1; exact ⟨t, rfl⟩
    | str x t => cases h1; exact ⟨t, rfl⟩
    | _ => cases h1
theorem reps_keys {K : PySem.W.Frag} {W : Wd} : ∀ {zs : List Key}, zs.all keyOk = true → Reps K W (zs.map keyVl) (zs.map keyW)
  | [], _ => rfl
  | z :: zs, h => by
    rw [List.all_cons, Bool.and_eq_true] at h
    refine ⟨keyW z, zs.map keyW, rfl, ?_, reps_keys h.2⟩
    cases z with
    | inl i => rfl
    | inr x => exact ⟨rfl, h.1⟩
theorem ktp_ok {K : PySem.W.Frag} {mg : PySem.Str → Option Value} {x : PySem.Str} {zs : List Key} (h : ktpB K x zs = true) (hz : zs.all keyOk = true) (g : mg x = some (.ref (He.ga K x))) (kt : Kt) (hK : kt.K = K) (hm : kt.mg = mg) : GlobIs kt x (.ktp (zs.map keyVl)) := by
  unfold ktpB at h
  split at h
  · rename_i o e
    obtain ⟨h1, h2⟩ := Bool.and_eq_true_iff.mp h
    split at h2
    · rename_i its n ed
      obtain ⟨h3, h4⟩ := Bool.and_eq_true_iff.mp h2
      refine ⟨.ref (He.ga K x), .ref (He.ga K x), by rw [hm]; exact g, rfl, fun W => ⟨He.ga K x, zs.map keyW, rfl, ?_, reps_keys hz⟩⟩
      rw [hK]
      exact ⟨o, its, n, e, of_decide_eq_true h1, ed, by rw [sizeLine_eq]; exact Nat.le_of_ble_eq_true h4, vals_keys (of_decide_eq_true h3)⟩
    · cases h2
  · cases h
section
variable {kt : Kt} {B : Bs} {X : Cx} {p pi : Bool} {elt tg iter : Expr} {di : DI} {g : DG} {dt : DT} {de : DE} {ifs : List Expr} {scope : Scope} {own : List (Str × Nat)} {sl : List Nat} {pos spos py : Pos}
/-- x = [..], on one line, a list of the store walked -/
theorem ss_setLcP (i : Nat) {y : Str} (hc : X.calm = true) (hN : X.N.Nodup) (hi : SIp kt B X pi tg iter di) (ok : blkC X.N X.env.scope scope own = true)
    (hg : ∀ (s : Shared) (H : Hp) (C : Addr) (cl : List (Str × Addr)) (fp : List Addr), SG kt B (X.blk s H scope (compEnvC scope cl C X.env) fp) sl tg g)
    (ht : ∀ (s : Shared) (H : Hp) (C : Addr) (cl : List (Str × Addr)) (fp : List Addr), STs kt B (X.blk s H scope (compEnvC scope cl C X.env) fp) true ifs dt)
    (he : ∀ (s : Shared) (H : Hp) (C : Addr) (cl : List (Str × Addr)) (fp : List Addr), SX kt B (X.blk s H scope (compEnvC scope cl C X.env) fp) true .s elt de)
    (hy : X.N[i]? = some y := by rfl) (hyl : X.env.scope.names.lookup y = some .local := by rfl) (hk : X.env.scope.kind = .function := by rfl) (hl : (py.line == pos.line) = true := by rfl)
    (ha : (scope.names.any fun (n, k) => n == y && (k == .local || k == .cell)) = false := by rfl)
    (hsl : sl.all (fun i => (own.map (·.2)).contains i) = true := by rfl) (hs : ∀ x, foldedSetIterable iter X.env x = pure x := by intro _; rfl) :
    SS kt B X (.Assign [.Name y py] (.ListComp elt [⟨tg, iter, ifs, 0⟩] scope pos) spos) (dAsg (dLc (own.map (·.2)) di g dt de) (gSet i)) := fun Wish tk => by
  obtain ⟨wi, hwi, him⟩ := lc_impP (g := g) (dt := dt) (de := de) hi hsl tk
  refine (ps_setLc hc hN hy hyl (sw_true hk hyl hl ha) hwi (blkOk_by ok) hg (fun s H C cl fp => ht s H C cl fp _ takes_blk) (fun s H C cl fp => he s H C cl fp _ takes_blk) hs).imp fun D σ H ⟨W, env, G, e, A, h⟩ => ?_
  subst e
  refine him _ _ _ ⟨W, env, G, rfl, A, h.bindS.mono ?_⟩
  rintro v H1 ⟨W1, x, G1, rfl, e1, A1, z1, h1⟩
  exact h1 W1 _ ExtR.refl (A1.set z1.strict)
end
/-! ### xs.append(x), xs a list of the store -/
def oAppend (xs : List Vl) : List Vl → Option (Vl × List Vl)
  | [y] => if xs.length < 16777216 then some (.non, xs ++ [y]) else none
  | _ => none
theorem bmw_append {kt : Kt} {X : Cx} : BmWS kt X "list.append" oAppend := by
  refine ⟨_, mt_append, fun W l xs ys us vs z xs' Q hl r hy e q => ?_⟩
  unfold oAppend at e
  split at e
  · split at e
    · rename_i y hz
      cases e
      obtain ⟨v, rfl, h2⟩ := hy.one
      exact ⟨l, us, v, rfl, rfl, hl, by rw [← r.length, sizeLine_eq]; exact hz, q .non _ rfl (r.append (Reps.one h2.strict))⟩
    · cases e
  · cases e
end CardH
end
section
set_option maxHeartbeats 2000000
namespace CardH
open PySem PySem.Spec PyProof.Rows L2

/-! ### dicts of the store: locked while they are walked -/
def isOb (i : Nat) : Role → Bool
  | .obj j => j == i
  | _ => false
theorem DRep.mut {K : PySem.W.Frag} {W : Wd} {t : Bool} {kvs : List (Vl × Vl)} {u : HO} (h : DRep K W t kvs u) : Mut (some u) := by
  cases t <;> obtain ⟨ks, e, _⟩ := h <;> subst e <;> trivial
theorem DRep.nofrz {K : PySem.W.Frag} {W : Wd} {t : Bool} {kvs : List (Vl × Vl)} {u : HO} (h : DRep K W t kvs u) : ∀ o x, u ≠ .frz o x := fun o x z => by
  cases t <;> obtain ⟨ks, e, _⟩ := h <;> rw [e] at z <;> cases z
section
variable {kt : Kt} {B : Bs} {X : Cx} {W W' W2 : Wd} {σ : L2.St} {env : LEnv} {G : Gst} {a : Addr} {o : HO} {i : Nat} {t : Bool} {kvs : List (Vl × Vl)} {u : HO} {p : Bool}
/-- the i-th object's address gets o -/
theorem ExtR.ob (ha : W.Γ a = .obj i) (hn : W.H a ≠ none) (ht : ∀ xs, W.H a ≠ some (.tup xs)) : ExtR p (isOb i) W (W.wr a o) where
  role := fun _ _ _ => rfl
  keep := fun b u hb _ hs _ => (upd_ne (fun e => by rw [e, ha] at hs; simp [isOb] at hs)).trans hb
  tups := fun b xs hb => (upd_ne (fun e => by rw [e] at hb; exact ht xs hb)).trans hb
  frz := fun b o u hb hs => (upd_ne (fun e => by rw [e, ha] at hs; simp [isOb] at hs)).trans hb
  there := fun b hb => by
    show upd W.H a o b ≠ none
    by_cases e : b = a
    · rw [e, upd_same]; simp
    · rw [upd_ne e]; exact hb
  pre := ⟨[], by simp [Wd.wr]⟩
theorem obn {t : Bool} {kvs : List (Vl × Vl)} {lk : Bool} (h : DAt W a lk u) (hr : DRep kt.K W t kvs u) : W.H a ≠ none ∧ (∀ xs, W.H a ≠ some (.tup xs)) ∧ (∀ ps, W.H a ≠ some (.tbl ps)) ∧ (∀ f, W.H a ≠ some (.ext f)) := by
  cases lk with
  | false =>
    have h : W.H a = some u := h
    rw [h]
    cases t <;> obtain ⟨ks, e, _⟩ := hr <;> subst e <;> simp
  | true =>
    obtain ⟨o, h⟩ := h
    rw [h]
    simp
/-- the i-th object, a dict, gets another state of its lock, other pairs -/
theorem RAll.dctWr {lk lk' t' : Bool} {kvs' : List (Vl × Vl)} {u' : HO} (A : RAll kt B W σ env G) (ha : W.ρ[i]? = some a) (hr : DRep kt.K W t kvs u) (hd : DAt W a lk u) (hg : G[i]? = some (.dct lk t kvs))
    (hr' : DRep kt.K (W.wr a o) t' kvs' u') (hd' : DAt (W.wr a o) a lk' u') (hno : (∀ ps, o ≠ .tbl ps)) (hnl : ∀ x z, o = .frz x z → lk' = true) (hsi : Ext B.p B.W0 (W.wr a o)) : RAll kt B (W.wr a o) σ env (G.set i (.dct lk' t' kvs')) := by
  obtain ⟨n1, n2, n3, n4⟩ := obn hd hr
  obtain ⟨a2, q1, hΓ, _⟩ := A.ok.rg.ob i _ hg
  rw [ha] at q1; cases q1
  have e1 : ExtR true (isOb i) W (W.wr a o) := ExtR.ob hΓ n1 n2
  refine ⟨⟨fun b hb => e1.there b (A.ok.tr b hb), ⟨by rw [List.length_set]; exact A.ok.rg.len, fun j ob hj => ?_⟩, ?_, fun b ps q => A.ok.tb b ps ?_⟩, A.re.extR e1 rfl rfl (fun _ => rfl), hsi, fun z b x y q => ?_⟩
  · by_cases eij : i = j
    · subst eij
      have hl : i < G.length := (List.getElem?_eq_some_iff.mp hg).1
      rw [List.getElem?_set_self hl] at hj
      cases hj
      exact ⟨a, ha, hΓ, u', hr', hd'⟩
    · rw [List.getElem?_set_ne eij] at hj
      obtain ⟨b, h1, h2, h3⟩ := A.ok.rg.ob j ob hj
      have hba : b ≠ a := fun z => by rw [z, hΓ] at h2; exact eij (Role.obj.inj h2)
      refine ⟨b, h1, h2, ?_⟩
      cases ob with
      | lst xs =>
        obtain ⟨vs, q, z⟩ := h3
        exact ⟨vs, (upd_ne hba).trans q, Reps.extR e1 rfl rfl _ _ z⟩
      | ins C fs =>
        obtain ⟨dx, fv, q, z, k⟩ := h3
        exact ⟨dx, fv, (upd_ne hba).trans q, FldsRep.extR e1 rfl rfl (fun _ => rfl) _ _ z, k⟩
      | dct lk2 t2 kvs2 =>
        obtain ⟨u2, q, z⟩ := h3
        exact ⟨u2, q.extR e1 rfl rfl, z.same (upd_ne hba)⟩
  · refine tabs_but A.ok.tabs fun b u q k => (upd_ne (fun z => ?_)).trans q
    rw [z] at q
    rcases k with ⟨ps, k⟩ | ⟨f, k⟩
    · rw [k] at q; exact n3 ps q
    · rw [k] at q; exact n4 f q
  · have q : upd W.H a o b = some (.tbl ps) := q
    by_cases z : b = a
    · rw [z, upd_same] at q; cases q; exact absurd rfl (hno ps)
    · rw [upd_ne z] at q; exact q
  · have q : upd W.H a o b = some (.frz x y) := q
    by_cases k : b = a
    · show (W.Γ b).lockable = true
      rw [k, hΓ]; rfl
    · rw [upd_ne k] at q
      exact A.nl z b x y q
theorem DRep.wr {t : Bool} {kvs : List (Vl × Vl)} {u : HO} (h : DRep kt.K W t kvs u) (hΓ : W.Γ a = .obj i) (hn : W.H a ≠ none) (ht : ∀ xs, W.H a ≠ some (.tup xs)) : DRep kt.K (W.wr a o) t kvs u :=
  h.extR (ExtR.ob (p := true) hΓ hn ht) rfl rfl
theorem Ext.lk (hΓ : W.Γ a = .obj i) (h : W.H a = some u) (mu : Mut (some u)) (od : Obj) : Ext false W (W.wr a (.frz od u)) where
  role := fun _ _ => rfl
  keep := fun b x hb nt hp => (upd_ne (fun e => by
    rcases hp with hp | hp
    · cases hp
    · rw [e, hΓ] at hp; cases hp)).trans hb
  tups := fun b xs hb => (upd_ne (fun e => by rw [e, h] at hb; cases hb; exact mu)).trans hb
  frz := fun b x y hb => (upd_ne (fun e => by rw [e, h] at hb; cases hb; exact mu)).trans hb
  there := fun b hb => by
    show upd W.H a _ b ≠ none
    by_cases e : b = a
    · rw [e, upd_same]; simp
    · rw [upd_ne e]; exact hb
  pre := ⟨[], by simp [Wd.wr]⟩
theorem RAll.lk (A : RAll kt B W σ env G) (hp : B.p = false) (ha : W.ρ[i]? = some a) (hg : G[i]? = some (.dct false t kvs)) (hr : DRep kt.K W t kvs u) (h : W.H a = some u) (od : Obj) :
    RAll kt B (W.wr a (.frz od u)) σ env (G.set i (.dct true t kvs)) := by
  obtain ⟨a2, q1, hΓ, _⟩ := A.ok.rg.ob i _ hg
  rw [ha] at q1; cases q1
  obtain ⟨n1, n2, n3, n4⟩ := obn (lk := false) h hr
  exact A.dctWr (lk := false) (lk' := true) ha hr h hg (hr.wr hΓ n1 n2) ⟨od, upd_same⟩ (fun _ z => nomatch z) (fun _ _ _ => rfl) ((A.si.trans (Ext.lk hΓ h hr.mut od)).mono fun z => by rw [hp] at z; cases z)
/-- behind the lock -/
theorem RAll.unlk {od : Obj} (A : RAll kt B W2 σ env G) (hp : B.p = false) (ha : W2.ρ[i]? = some a) (h : W2.H a = some (.frz od u)) (mu : Mut (some u)) (h0 : ∀ o x, B.W0.H a ≠ some (.frz o x)) :
    ∃ t kvs, G[i]? = some (.dct true t kvs) ∧ W2.Γ a = .obj i ∧ RAll kt B (W2.wr a u) σ env (G.set i (.dct false t kvs)) := by
  have hi : i < G.length := by rw [← A.ok.rg.len]; exact (List.getElem?_eq_some_iff.mp ha).1
  obtain ⟨b, h1, hΓ, h3⟩ := A.ok.rg.ob i _ (List.getElem?_eq_getElem hi)
  rw [ha] at h1; cases h1
  have hg := List.getElem?_eq_getElem hi
  generalize hq : G[i] = ob at h3 hg
  cases ob with
  | lst xs => obtain ⟨vs, q, _⟩ := h3; rw [h] at q; cases q
  | ins C fs => obtain ⟨dx, fv, q, _⟩ := h3; rw [h] at q; cases q
  | dct lk t kvs =>
    obtain ⟨u', hr, hd⟩ := h3
    cases lk with
    | false =>
      have hd : W2.H a = some u' := hd
      rw [h] at hd; cases hd
      exact absurd rfl (hr.nofrz _ _)
    | true =>
      obtain ⟨o', hd'⟩ := hd
      rw [h] at hd'; cases hd'
      refine ⟨t, kvs, hg, hΓ, ?_⟩
      obtain ⟨n1, n2, n3, n4⟩ := obn (lk := true) ⟨od, h⟩ hr
      have e1 : ExtR true (isOb i) W2 (W2.wr a u) := ExtR.ob hΓ n1 n2
      refine A.dctWr (lk := true) (lk' := false) ha hr ⟨od, h⟩ hg (hr.wr hΓ n1 n2) upd_same (fun ps z => hr.plain ps z) (fun x z e => absurd e (hr.nofrz x z)) ?_
      have s := A.si
      rw [hp] at s ⊢
      refine ⟨s.role, fun b x hb nt hk => (upd_ne (fun z => ?_)).trans (s.keep b x hb nt hk), fun b xs hb => (upd_ne (fun z => ?_)).trans (s.tups b xs hb), fun b x y hb => (upd_ne (fun z => ?_)).trans (s.frz b x y hb), fun b hb => e1.there b (s.there b hb), s.pre⟩
      · rcases hk with hk | hk
        · cases hk
        · have := s.role b (by rw [hb]; simp)
          rw [z, hΓ] at this
          rw [z, ← this] at hk; cases hk
      · rw [z] at hb; exact n2 xs (s.tups a xs hb)
      · rw [z] at hb; exact h0 x y hb
end
def lkG (G : Gst) (i : Nat) (b : Bool) : Gst := match G[i]? with
  | some (.dct _ t kvs) => G.set i (.dct b t kvs)
  | _ => G
def unlS (i : Nat) (r : SR) : SR := (fun _ : Nat => match r with
  | .nx e G => .nx e (lkG G i false)
  | .bk e G => .bk e (lkG G i false)
  | .ct e G => .ct e (lkG G i false)
  | .rt v G => .rt v (lkG G i false)
  | r => r) hgt3
def unlE {α : Type} (i : Nat) (r : CardH.R α) : CardH.R α := (fun _ : Nat => match r with
  | .ok v G => .ok v (lkG G i false)
  | _ => .bad) hgt3
/-- the dict that d tells of is locked meanwhile -/
def lkI (d : DE) (e : LEnv) (G : Gst) : Option Nat := match d e G with
  | .ok (.ref i) _ => match G[i]? with
    | some (.dct false _ _) => some i
    | _ => none
  | _ => none
def dLockS (d : DE) (s : DS) : DS := fun e G => match lkI d e G with
  | some i => unlS i (s e (lkG G i true))
  | none => s e G
def dLockE (d : DE) (s : DE) : DE := fun e G => match lkI d e G with
  | some i => unlE i (s e (lkG G i true))
  | none => s e G
theorem lkI_some {d : DE} {e : LEnv} {G : Gst} {i : Nat} (h : lkI d e G = some i) : ∃ t kvs, G[i]? = some (.dct false t kvs) := by
  unfold lkI at h
  split at h
  · split at h
    · cases h; rename_i q; exact ⟨_, _, q⟩
    · cases h
  · cases h
theorem lkG_eq {G : Gst} {i : Nat} {b b' t : Bool} {kvs : List (Vl × Vl)} (h : G[i]? = some (.dct b t kvs)) : lkG G i b' = G.set i (.dct b' t kvs) := by
  unfold lkG
  rw [h]
theorem _root_.L2.PS.or {X : Cx} {e : Stmt} {t t' : TS} (h : PS X e t) (h' : PS X e t') : PS X e (fun D σ H => t D σ H ∨ t' D σ H) := ⟨fun pins s σ H D I q => q.elim (h.run pins s σ H D I) (h'.run pins s σ H D I)⟩
theorem _root_.L2.PE.or' {X : Cx} {e : Expr} {t t' : TE} (h : PE X e t) (h' : PE X e t') : PE X e (fun σ H Q => t σ H Q ∨ t' σ H Q) := ⟨fun pins s σ H Q I q => q.elim (h.run pins s σ H Q I) (h'.run pins s σ H Q I)⟩
section
variable {kt : Kt} {B : Bs} {X : Cx} {W W' W2 : Wd} {σ : L2.St} {env : LEnv} {G : Gst} {a : Addr} {o : HO} {i : Nat} {t : Bool} {kvs : List (Vl × Vl)} {u : HO} {p : Bool}
theorem ext_lk {od : Obj} (hΓ : W.Γ a = .obj i) (h : W.H a = some u) (mu : Mut (some u)) (e : Ext p (W.wr a (.frz od u)) W2) : Ext p W (W2.wr a u) where
  role := fun b hb => e.role b ((Ext.lk hΓ h mu od).there b hb)
  keep := fun b x hb nt hp => by
    show upd W2.H a u b = some x
    by_cases z : b = a
    · subst z; rw [h] at hb; cases hb; exact upd_same
    · rw [upd_ne z]; exact e.keep b x ((upd_ne z).trans hb) nt hp
  tups := fun b xs hb => by
    show upd W2.H a u b = _
    by_cases z : b = a
    · subst z; rw [h] at hb; cases hb; exact mu.elim
    · rw [upd_ne z]; exact e.tups b xs ((upd_ne z).trans hb)
  frz := fun b x y hb => by
    show upd W2.H a u b = _
    by_cases z : b = a
    · subst z; rw [h] at hb; cases hb; exact mu.elim
    · rw [upd_ne z]; exact e.frz b x y ((upd_ne z).trans hb)
  there := fun b hb => by
    show upd W2.H a u b ≠ none
    by_cases z : b = a
    · rw [z, upd_same]; simp
    · rw [upd_ne z]; exact e.there b ((Ext.lk hΓ h mu od).there b hb)
  pre := e.pre
theorem extS_lk {od : Obj} (hΓ : W.Γ a = .obj i) (h : W.H a = some u) (mu : Mut (some u)) (e : ExtS (W.wr a (.frz od u)) W2) : ExtS W (W2.wr a u) where
  role := fun b hb hs => e.role b ((Ext.lk hΓ h mu od).there b hb) hs
  keep := fun b x hb nt hs hp => by
    show upd W2.H a u b = some x
    by_cases z : b = a
    · subst z; rw [h] at hb; cases hb; exact upd_same
    · rw [upd_ne z]; exact e.keep b x ((upd_ne z).trans hb) nt hs hp
  tups := fun b xs hb => by
    show upd W2.H a u b = _
    by_cases z : b = a
    · subst z; rw [h] at hb; cases hb; exact mu.elim
    · rw [upd_ne z]; exact e.tups b xs ((upd_ne z).trans hb)
  frz := fun b x y hb hs => by
    show upd W2.H a u b = _
    by_cases z : b = a
    · subst z; rw [h] at hb; cases hb; exact mu.elim
    · rw [upd_ne z]; exact e.frz b x y ((upd_ne z).trans hb) hs
  there := fun b hb => by
    show upd W2.H a u b ≠ none
    by_cases z : b = a
    · rw [z, upd_same]; simp
    · rw [upd_ne z]; exact e.there b ((Ext.lk hΓ h mu od).there b hb)
  pre := e.pre
/-- what lies at the i-th dict -/
theorem dct_at (A : RAll kt B W σ env G) (hg : G[i]? = some (.dct false t kvs)) : ∃ a u, W.ρ[i]? = some a ∧ W.Γ a = .obj i ∧ DRep kt.K W t kvs u ∧ W.H a = some u := by
  obtain ⟨a, h1, h2, u, h3, h4⟩ := A.ok.rg.ob i _ hg
  exact ⟨a, u, h1, h2, h3, h4⟩
theorem ss_lock {st : Stmt} {ds : DS} (d : DE) (hp : B.p = false) (h : SS kt B X st ds) : SS kt B X st (dLockS d ds) := fun Wish tk => by
  refine ((ps_lock (h Wish tk)).or (h Wish tk)).imp fun D σ H ⟨W, env, G, e, A, h⟩ => ?_
  subst e
  unfold dLockS at h
  cases hl : lkI d env G with
  | none => rw [hl] at h; exact .inr ⟨W, env, G, rfl, A, h⟩
  | some i =>
    rw [hl] at h
    dsimp only at h
    obtain ⟨t, kvs, hg⟩ := lkI_some hl
    rw [lkG_eq hg] at h
    obtain ⟨a, u, ha, hΓ, hr, hu⟩ := dct_at A hg
    refine .inl ⟨a, u, hu, hr.mut, fun od => ⟨W.wr a (.frz od u), env, _, rfl, A.lk hp ha hg hr hu od, ?_⟩⟩
    have h0 : ∀ o x, B.W0.H a ≠ some (.frz o x) := fun o x z => by
      have := A.si.frz a o x z
      rw [hu] at this; cases this; exact hr.mut
    have fin : ∀ {W2 : Wd} {σ2 : L2.St} {e2 : LEnv} {G2 : Gst}, ExtS (W.wr a (.frz od u)) W2 → RAll kt B W2 σ2 e2 G2 → W2.H a = some (.frz od u) ∧ RAll kt B (W2.wr a u) σ2 e2 (lkG G2 i false) := by
      intro W2 σ2 e2 G2 eX A2
      have hf : W2.H a = some (.frz od u) := eX.frz a od u upd_same (by show isSl (W.Γ a) = false; rw [hΓ]; rfl)
      have ha2 : W2.ρ[i]? = some a := eX.ref ha
      obtain ⟨t2, kvs2, hg2, _, A3⟩ := A2.unlk hp ha2 hf hr.mut h0
      exact ⟨hf, by rw [lkG_eq hg2]; exact A3⟩
    generalize ds env (G.set i (.dct true t kvs)) = r at h
    cases r with
    | bad => exact h
    | nx e2 G2 => exact fun W2 σ2 eX A2 => ⟨(fin eX A2).1, h _ _ (extS_lk hΓ hu hr.mut eX) (fin eX A2).2⟩
    | bk e2 G2 => exact fun W2 σ2 eX A2 => ⟨(fin eX A2).1, h _ _ (extS_lk hΓ hu hr.mut eX) (fin eX A2).2⟩
    | ct e2 G2 => exact fun W2 σ2 eX A2 => ⟨(fin eX A2).1, h _ _ (extS_lk hΓ hu hr.mut eX) (fin eX A2).2⟩
    | ex c e2 G2 => exact fun W2 σ2 oD eX A2 z => h W2 σ2 oD ((Ext.lk hΓ hu hr.mut od).toS.trans eX) A2 z
    | rt v G2 =>
      intro W2 w eX O2 rv
      -- the frame is gone: an environment without slots will do
      have A2 : RAll kt B W2 [] [] G2 := ⟨O2.ok, ⟨rfl, fun i fv hi => by simp at hi⟩, O2.si, O2.nl⟩
      obtain ⟨hf, A3⟩ := fin eX A2
      have hΓ2 : W2.Γ a = .obj i := (eX.role a (by show upd W.H a _ a ≠ none; rw [upd_same]; simp) (by show isSl (W.Γ a) = false; rw [hΓ]; rfl)).trans hΓ
      exact ⟨hf, h _ w (extS_lk hΓ hu hr.mut eX) A3.out (Rep.extR (ExtR.ob (p := true) (i := i) hΓ2 (by rw [hf]; simp) (by rw [hf]; exact fun _ z => nomatch z)) rfl rfl _ _ rv)⟩
theorem sx_lock {e : Expr} {de : DE} (d : DE) (hp : B.p = false) (h : SX kt B X p .s e de) : SX kt B X p .s e (dLockE d de) := fun Wish tk => by
  refine ((pe_lock (h Wish tk)).or' (h Wish tk)).imp fun σ H Q ⟨W, env, G, e, A, h⟩ => ?_
  subst e
  unfold dLockE at h
  cases hl : lkI d env G with
  | none => rw [hl] at h; exact .inr ⟨W, env, G, rfl, A, h⟩
  | some i =>
    rw [hl] at h
    dsimp only at h
    obtain ⟨t, kvs, hg⟩ := lkI_some hl
    rw [lkG_eq hg] at h
    obtain ⟨a, u, ha, hΓ, hr, hu⟩ := dct_at A hg
    refine .inl ⟨a, u, hu, hr.mut, fun od => ⟨W.wr a (.frz od u), env, _, rfl, A.lk hp ha hg hr hu od, ?_⟩⟩
    have h0 : ∀ o x, B.W0.H a ≠ some (.frz o x) := fun o x z => by
      have := A.si.frz a o x z
      rw [hu] at this; cases this; exact hr.mut
    generalize de env (G.set i (.dct true t kvs)) = r at h
    cases r with
    | bad => exact h
    | exn c G2 => exact h.elim
    | ok v G2 =>
      intro W2 w eX A2 z
      have hf : W2.H a = some (.frz od u) := eX.frz a od u upd_same
      have ha2 : W2.ρ[i]? = some a := eX.toR.ref ha
      obtain ⟨t2, kvs2, hg2, hΓ2, A3⟩ := A2.unlk hp ha2 hf hr.mut h0
      have h : PoX kt B p σ env W Wish (fun W x v => Pk kt.K W .s x v) (.ok v (lkG G2 i false)) Q := h
      rw [lkG_eq hg2] at h
      exact ⟨hf, h _ w (ext_lk hΓ hu hr.mut eX) A3 (.inl (Rep.extR (ExtR.ob (p := true) (i := i) hΓ2 (by rw [hf]; simp) (by rw [hf]; exact fun _ z => nomatch z)) rfl rfl _ _ z.strict))⟩
end
end CardH
end
section
set_option maxHeartbeats 2000000
namespace CardH
open PySem PySem.Spec PyProof.Rows L2

/-! ### dicts read: values, or of the store -/
def dctOf (G : Gst) : Vl → Option (Bool × List (Vl × Vl))
  | .dct t kvs => some (t, kvs)
  | .ref j => match G[j]? with
    | some (.dct _ t kvs) => some (t, kvs)
    | _ => none
  | _ => none
/-- operators that look into the store -/
def OpSG (kt : Kt) (X : Cx) (f : Value → Value → Sem Value) (o : Gst → Vl → Vl → Option Vl) : Prop :=
  ∃ r : R2, OpR X f r ∧ ∀ (B : Bs) (σ : L2.St) (env : LEnv) (G : Gst) (W : Wd) (x y : Vl) (v u : V) (z : Vl) (Q : VK), RAll kt B W σ env G → Pk kt.K W .f x v → Pk kt.K W .f y u → o G x y = some z →
    (∀ W' w, Ext true W W' → RAll kt B W' σ env G → Rep kt.K W' z w → Q w W'.H) → r v u W.H Q
def dBinG (o : Gst → Vl → Vl → Option Vl) (da db : DE) : DE := fun env G => (da env G).bind fun x G1 => (db env G1).bind fun y G2 => opt (o G2 x y) G2
section
variable {kt : Kt} {B : Bs} {X : Cx} {p pa pb pc : Bool} {m ma mb mc : Md} {a b c e : Expr} {da db dc d : DE} {pos : Pos}
theorem sx_cmpG {op : CmpOp} {o : Gst → Vl → Vl → Option Vl} (ho : OpSG kt X (compareOp op) o) (ha : SX kt B X pa ma a da) (hb : SX kt B X pb mb b db) (hm : okM pb ma = true := by rfl) (hk : behindInMarks op b = false := by first | exact nomark _ | rfl) :
    SX kt B X (pa && pb) .s (.Compare a [op] [b] pos) (dBinG o da db) := fun Wish tk => by
  obtain ⟨r, hr, hs⟩ := ho
  refine (pe_cmpR hr (ha Wish tk) (hb Wish tk) hk).imp fun σ H Q ⟨W, env, G, e, A, h⟩ => ?_
  subst e
  refine ⟨W, env, G, rfl, A, h.bindE.mono ?_⟩
  rintro v H1 ⟨W1, x, G1, rfl, e1, A1, z1, h1⟩
  refine ⟨W1, env, G1, rfl, A1, h1.bindL.mono ?_⟩
  rintro u H2 ⟨W2, y, G2, rfl, e2, A2, z2, h2⟩
  obtain ⟨z, ez, q⟩ := opsPo h2
  exact hs B σ env G2 W2 x y v u z Q A2 (z1.ext e2 (okM_or hm)).any z2.any ez q
theorem st_cmpG {op : CmpOp} {o : Gst → Vl → Vl → Option Vl} (ho : OpSG kt X (compareOp op) o) (ha : SX kt B X pa ma a da) (hb : SX kt B X pb mb b db) (hm : okM pb ma = true := by rfl) (hk : behindInMarks op b = false := by first | exact nomark _ | rfl) :
    ST kt B X (pa && pb) (.Compare a [op] [b] pos) (dTB (dBinG o da db)) := fun Wish tk => by
  obtain ⟨r, hr, hs⟩ := ho
  refine (pt_cmpR hr (ha Wish tk) (hb Wish tk) hk).imp fun σ H Q ⟨W, env, G, e, A, h⟩ => ?_
  subst e
  unfold dTB dBinG at h
  have h : PoX kt B (pa && pb) σ env W Wish ZB ((da env G).bind fun x G1 => (db env G1).bind fun y G2 => (opt (o G2 x y) G2).bind fun x G1 => match x with | .bl b => .ok b G1 | _ => .bad) Q := by
    cases q : da env G with
    | bad => rw [q] at h; exact h
    | exn c G' => rw [q] at h; exact h
    | ok x G' =>
      rw [q] at h
      show PoX kt B (pa && pb) σ env W Wish ZB ((db env G').bind _) Q
      cases q' : db env G' with
      | bad => simp only [q', R.bind_ok] at h; exact h
      | exn c G' => simp only [q', R.bind_ok] at h; exact h
      | ok y G' => simp only [q', R.bind_ok] at h; exact h
  refine ⟨W, env, G, rfl, A, h.bindE.mono ?_⟩
  rintro v H1 ⟨W1, x, G1, rfl, e1, A1, z1, h1⟩
  refine ⟨W1, env, G1, rfl, A1, h1.bindL.mono ?_⟩
  rintro u H2 ⟨W2, y, G2, rfl, e2, A2, z2, h2⟩
  cases ez : o G2 x y with
  | none => rw [ez] at h2; exact h2.elim
  | some z =>
    rw [ez] at h2
    refine hs B σ env G2 W2 x y v u z (fun x H' => ∃ k, x = .bl k ∧ Q k H') A2 (z1.ext e2 (okM_or hm)).any z2.any ez fun W' w e' A' r' => ?_
    cases z with
    | bl k => exact ⟨k, r', h2 W' k e' A' rfl⟩
    | _ => exact h2.elim
end
section
variable {K : PySem.W.Frag} {W : Wd} {kt : Kt} {B : Bs} {X : Cx} {σ : L2.St} {env : LEnv} {G : Gst}
/-- how a dict that is read lies -/
theorem dctOf_r {x : Vl} {v : V} {t : Bool} {kvs : List (Vl × Vl)} (A : RAll kt B W σ env G) (hx : Pk kt.K W .f x v) (e : dctOf G x = some (t, kvs)) : ∃ a u, v = .ref a ∧ Rd W.H a u ∧ DRep kt.K W t kvs u := by
  cases x with
  | dct t' kvs' =>
    cases e
    cases t with
    | false => obtain ⟨a, ks, rfl, h1, h2⟩ := hx.dK; exact ⟨a, _, rfl, h1, ks, rfl, h2⟩
    | true => obtain ⟨a, ks, rfl, h1, h2⟩ := hx.dT; exact ⟨a, _, rfl, h1, ks, rfl, h2⟩
  | ref j =>
    have e : (match G[j]? with | some (.dct _ t kvs) => some (t, kvs) | _ => none) = some (t, kvs) := e
    split at e
    · rename_i lk t' kvs' eg
      cases e
      obtain ⟨a, rfl, ha⟩ := hx.ref
      obtain ⟨a', h1, h2, u, h3, h4⟩ := A.ok.rg.ob j _ eg
      rw [ha] at h1; cases h1
      exact ⟨a, u, rfl, h4.rd, h3⟩
    · cases e
  | _ => cases e
theorem drep_get {a : Addr} {t : Bool} {kvs : List (Vl × Vl)} {k : Vl} {u : V} {ho : HO} {o : Option Vl} (hd : Rd W.H a ho) (hr : DRep K W t kvs ho) (hk : Rep K W k u) (e : dAt t kvs k = some o) :
    ∃ o', DGet W.H a u o' ∧ GetR K W o o' := by
  cases t with
  | false =>
    obtain ⟨q, eq, rfl⟩ := Option.map_eq_some_iff.mp e
    obtain ⟨ks, rfl, h2⟩ := hr
    exact ⟨_, .inl ⟨ks, q, hd, keyOf_rep hk eq, rfl⟩, h2.to.get q⟩
  | true =>
    obtain ⟨q, eq, rfl⟩ := Option.map_eq_some_iff.mp e
    obtain ⟨ks, rfl, h2⟩ := hr
    obtain ⟨b, eb, hb⟩ := keyTOf_rep hk eq
    exact ⟨_, .inr ⟨ks, q, b, hd, eb, hb, rfl⟩, h2.to.get q⟩
theorem dAt_key {t : Bool} {kvs : List (Vl × Vl)} {k : Vl} {o : Option Vl} (e : dAt t kvs k = some o) {m : Md} {u : V} (h : Pk K W m k u) : Rep K W k u :=
  h.val (fun xs z => by subst z; cases t <;> cases e) fun t' kvs' z => by subst z; cases t <;> cases e
end
/-- x[k] -/
def vIxD (G : Gst) (x k : Vl) : Option Vl := (dctOf G x).bind fun d => (dAt d.1 d.2 k).join
/-- k in x -/
def vInD (G : Gst) (k x : Vl) : Option Vl := (dctOf G x).bind fun d => (dAt d.1 d.2 k).map fun o => .bl o.isSome
def vNotInD (G : Gst) (k x : Vl) : Option Vl := (dctOf G x).bind fun d => (dAt d.1 d.2 k).map fun o => .bl (!o.isSome)
def dIxD (da db : DE) : DE := fun env G => (da env G).bind fun x G1 => (db env G1).bind fun y G2 => opt (vIxD G2 x y) G2
/-- x.get(k, y) -/
def vGet (G : Gst) (x k y : Vl) : Option Vl := (dctOf G x).bind fun d => (dAt d.1 d.2 k).map fun o => o.getD y
def dGet2 (dd dk dy : DE) : DE := fun env G => (dd env G).bind fun x G1 => if (dctOf G1 x).isSome = true then (dk env G1).bind fun k G2 => (dy env G2).bind fun y G3 => opt (vGet G3 x k y) G3 else .bad
def oLenD (G : Gst) : List Vl → Option Vl
  | [x] => (dctOf G x).bind fun d => if d.1 = false then some (.int d.2.length) else none
  | _ => none
theorem join_some {α : Type} {o : Option (Option α)} {z : α} (h : o.join = some z) : o = some (some z) := by
  cases o with
  | none => cases h
  | some o => cases o <;> simpa using h
section
variable {kt : Kt} {B : Bs} {X : Cx} {p pa pb pc : Bool} {m ma mb mc : Md} {a b c e f : Expr} {da db dc d : DE} {pos apos cpos : Pos}
theorem sx_ixD (hu : X.A.units + 1 < cLine) (ha : SX kt B X pa ma a da) (hb : SX kt B X pb mb b db) (hs : PlainIx b := by intro _ _; rfl) (hm : okM pb ma = true := by rfl) :
    SX kt B X (pa && pb) .s (.Subscript a b pos) (dIxD da db) := fun Wish tk => by
  refine (pe_ix (ix_dict hu) (ha Wish tk) (hb Wish tk) hs).imp fun σ H Q ⟨W, env, G, e, A, h⟩ => ?_
  subst e
  refine ⟨W, env, G, rfl, A, h.bindE.mono ?_⟩
  rintro v H1 ⟨W1, x, G1, rfl, e1, A1, z1, h1⟩
  refine ⟨W1, env, G1, rfl, A1, h1.bindL.mono ?_⟩
  rintro u H2 ⟨W2, y, G2, rfl, e2, A2, z2, h2⟩
  obtain ⟨z, ez, q⟩ := opsPo h2
  obtain ⟨⟨t, kvs⟩, ed, ez⟩ := Option.bind_eq_some_iff.mp ez
  have ez := join_some ez
  obtain ⟨a', uo, rfl, hd, hr⟩ := dctOf_r A2 (z1.ext e2 (okM_or hm)).any ed
  obtain ⟨o', g, r⟩ := drep_get hd hr (dAt_key ez z2) ez
  obtain ⟨w, rfl, rw'⟩ := r
  exact ⟨a', w, rfl, g, q W2 w Ext.refl A2 rw'⟩
theorem ops_inD (hu : X.A.units + 65 < cLine) : OpSG kt X (compareOp .In) vInD := by
  refine ⟨_, op_inDc hu, fun B σ env G W x y v u z Q A hx hy e q => ?_⟩
  obtain ⟨⟨t, kvs⟩, ed, ez⟩ := Option.bind_eq_some_iff.mp e
  obtain ⟨o, eo, rfl⟩ := Option.map_eq_some_iff.mp ez
  obtain ⟨a', uo, rfl, hd, hr⟩ := dctOf_r A hy ed
  obtain ⟨o', g, r⟩ := drep_get hd hr (dAt_key eo hx) eo
  refine ⟨a', o', rfl, g, q W _ Ext.refl A ?_⟩
  cases o with
  | some x => obtain ⟨w, rfl, _⟩ := r; rfl
  | none => subst r; rfl
theorem ops_notInD (hu : X.A.units + 65 < cLine) : OpSG kt X (compareOp .NotIn) vNotInD := by
  refine ⟨_, op_notInDc hu, fun B σ env G W x y v u z Q A hx hy e q => ?_⟩
  obtain ⟨⟨t, kvs⟩, ed, ez⟩ := Option.bind_eq_some_iff.mp e
  obtain ⟨o, eo, rfl⟩ := Option.map_eq_some_iff.mp ez
  obtain ⟨a', uo, rfl, hd, hr⟩ := dctOf_r A hy ed
  obtain ⟨o', g, r⟩ := drep_get hd hr (dAt_key eo hx) eo
  refine ⟨a', o', rfl, g, q W _ Ext.refl A ?_⟩
  cases o with
  | some x => obtain ⟨w, rfl, _⟩ := r; rfl
  | none => subst r; rfl
theorem DRep.isD {K : PySem.W.Frag} {W : Wd} {t : Bool} {kvs : List (Vl × Vl)} {u : HO} {a : Addr} (h : DRep K W t kvs u) (r : Rd W.H a u) : IsD W.H a := by
  cases t with
  | false => obtain ⟨ks, rfl, _⟩ := h; exact .inl ⟨ks, r⟩
  | true => obtain ⟨ks, rfl, _⟩ := h; exact .inr ⟨ks, r⟩
theorem sx_get2 (hu : X.A.units + 1 < cLine) (hd : SX kt B X pa ma a da) (hk : SX kt B X pb .s e db) (hy : SX kt B X pc .s f dc) (hm : okM (pb && pc) ma = true := by rfl)
    (hM : M2 X a "get" apos e f cpos := by exact ⟨rfl, rfl, rfl, rfl⟩) : SX kt B X (pa && (pb && pc)) .s (.Call (.Attribute a "get" apos) [e, f] [] cpos) (dGet2 da db dc) := fun Wish tk => by
  refine (pe_dget2 hu (hd Wish tk) (hk Wish tk) (hy Wish tk) hM).imp fun σ H Q ⟨W, env, G, e, A, h⟩ => ?_
  subst e
  refine ⟨W, env, G, rfl, A, h.bindE.mono ?_⟩
  rintro v H1 ⟨W1, x, G1, rfl, e1, A1, z1, h1⟩
  split at h1
  case isFalse => exact h1.elim
  rename_i hs
  obtain ⟨⟨t0, kvs0⟩, ed0⟩ := Option.isSome_iff_exists.mp hs
  obtain ⟨a0, u0, rfl, hd0, hr0⟩ := dctOf_r A1 z1.any ed0
  refine ⟨a0, rfl, hr0.isD hd0, W1, env, G1, rfl, A1, h1.bindE.mono ?_⟩
  rintro k H2 ⟨W2, kx, G2, rfl, e2, A2, z2, h2⟩
  refine ⟨W2, env, G2, rfl, A2, h2.bindL.mono ?_⟩
  rintro y H3 ⟨W3, yx, G3, rfl, e3, A3, z3, h3⟩
  obtain ⟨z, ez, q⟩ := opsPo h3
  obtain ⟨⟨t, kvs⟩, ed, ez⟩ := Option.bind_eq_some_iff.mp ez
  obtain ⟨o, eo, rfl⟩ := Option.map_eq_some_iff.mp ez
  obtain ⟨a', uo, ea, hd, hr⟩ := dctOf_r A3 (z1.ext (e2.trans e3) (okM_or hm)).any ed
  cases ea
  obtain ⟨o', g, r⟩ := drep_get hd hr (dAt_key eo (z2.ext (m := .s) e3 (.inr (fun z => by cases z)))) eo
  refine ⟨o', g, q W3 _ Ext.refl A3 ?_⟩
  cases o with
  | some x => obtain ⟨w, rfl, rr⟩ := r; exact rr
  | none => subst r; exact z3.strict
theorem fn_lenD : FnS kt X (.builtin "len") oLenD := by
  refine ⟨_, call_lenDR, fun B σ env G W xs vs z Q A hx e q => ?_⟩
  unfold oLenD at e
  split at e
  · obtain ⟨v, rfl, h⟩ := hx.one
    obtain ⟨⟨t, kvs⟩, ed, ez⟩ := Option.bind_eq_some_iff.mp e
    dsimp only at ez
    split at ez
    · rename_i ht
      subst ht
      cases ez
      obtain ⟨a', uo, rfl, hd, ks, rfl, r⟩ := dctOf_r A h ed
      exact ⟨a', ks, rfl, hd, by rw [← r.length]; exact q W _ Ext.refl A rfl⟩
    · cases ez
  · cases e
end
/-! ### is, of two objects of the store -/
def obNd (G : Gst) (i : Nat) : Bool := match G[i]? with
  | some (.dct _ _ _) => false
  | _ => true
def vIsR (G : Gst) : Vl → Vl → Option Vl
  | .ref i, .ref j => if (obNd G i && obNd G j) = true then some (.bl (decide (i = j))) else none
  | _, _ => none
def vNotR (G : Gst) : Vl → Vl → Option Vl
  | .ref i, .ref j => if (obNd G i && obNd G j) = true then some (.bl (!decide (i = j))) else none
  | _, _ => none
section
variable {kt : Kt} {B : Bs} {X : Cx} {W : Wd} {σ : L2.St} {env : LEnv} {G : Gst}
theorem ref_at (A : RAll kt B W σ env G) {i : Nat} {a : Addr} (h : W.ρ[i]? = some a) : W.Γ a = .obj i := by
  have hi : i < G.length := by rw [← A.ok.rg.len]; exact (List.getElem?_eq_some_iff.mp h).1
  obtain ⟨b, h1, h2, h3⟩ := A.ok.rg.ob i _ (List.getElem?_eq_getElem hi)
  rw [h] at h1; cases h1
  exact h2
theorem ref_there (A : RAll kt B W σ env G) {i : Nat} {a : Addr} (h : W.ρ[i]? = some a) (nd : obNd G i = true) : ∃ o, W.H a = some o ∧ isObj o = true := by
  have hi : i < G.length := by rw [← A.ok.rg.len]; exact (List.getElem?_eq_some_iff.mp h).1
  have hg := List.getElem?_eq_getElem hi
  obtain ⟨b, h1, h2, h3⟩ := A.ok.rg.ob i _ hg
  rw [h] at h1; cases h1
  generalize G[i] = o3 at h3 hg
  cases o3 with
  | lst xs => obtain ⟨vs, q, _⟩ := h3; exact ⟨_, q, rfl⟩
  | dct lk t kvs => unfold obNd at nd; rw [hg] at nd; cases nd
  | ins C fs => obtain ⟨dx, fv, q, _⟩ := h3; exact ⟨_, q, rfl⟩
theorem refs_dec (A : RAll kt B W σ env G) {i j : Nat} {a b : Addr} (h : W.ρ[i]? = some a) (g : W.ρ[j]? = some b) : decide (a = b) = decide (i = j) := by
  by_cases e : i = j
  · subst e
    rw [h] at g; cases g
    simp
  · have ne : a ≠ b := fun z => by
      have h1 := ref_at A h
      have h2 := ref_at A g
      rw [z, h2] at h1
      exact e (Role.obj.inj h1).symm
    rw [decide_eq_false ne, decide_eq_false e]
theorem ops_isR : OpSG kt X (compareOp .Is) vIsR := by
  refine ⟨_, op_is_ref, fun B σ env G W x y v u z Q A hx hy e q => ?_⟩
  unfold vIsR at e
  split at e
  · split at e
    case isFalse => cases e
    rename_i nd
    rw [Bool.and_eq_true] at nd
    cases e
    obtain ⟨a, rfl, ha⟩ := hx.ref
    obtain ⟨b, rfl, hb⟩ := hy.ref
    obtain ⟨oa, h1, h2⟩ := ref_there A ha nd.1
    obtain ⟨ob, h3, h4⟩ := ref_there A hb nd.2
    exact ⟨a, b, oa, ob, rfl, rfl, h1, h2, h3, h4, q W _ Ext.refl A (by rw [refs_dec A ha hb]; rfl)⟩
  · cases e
theorem ops_notR : OpSG kt X (compareOp .IsNot) vNotR := by
  refine ⟨_, op_isnot_ref, fun B σ env G W x y v u z Q A hx hy e q => ?_⟩
  unfold vNotR at e
  split at e
  · split at e
    case isFalse => cases e
    rename_i nd
    rw [Bool.and_eq_true] at nd
    cases e
    obtain ⟨a, rfl, ha⟩ := hx.ref
    obtain ⟨b, rfl, hb⟩ := hy.ref
    obtain ⟨oa, h1, h2⟩ := ref_there A ha nd.1
    obtain ⟨ob, h3, h4⟩ := ref_there A hb nd.2
    exact ⟨a, b, oa, ob, rfl, rfl, h1, h2, h3, h4, q W _ Ext.refl A (by rw [refs_dec A ha hb]; rfl)⟩
  · cases e
end
end CardH
end
section
set_option maxHeartbeats 2000000
namespace CardH
open PySem PySem.Spec PyProof.Rows L2

/-! ### a new object of the store -/
def Wd.mkO (W : Wd) (y : Addr) (n : Nat) (o : HO) : Wd := ⟨fun a => if a = y then .obj n else W.Γ a, W.ρ ++ [y], upd W.H y o⟩
section
variable {kt : Kt} {B : Bs} {X : Cx} {W : Wd} {σ : L2.St} {env : LEnv} {G : Gst}
theorem RAll.mkO {y : Addr} {o : HO} {ob : Ob} (A : RAll kt B W σ env G) (hy : W.H y = none) (ho : okW o = true) (hob : Ext true W (W.mkO y G.length o) → ObRep kt (W.mkO y G.length o) G.length y ob) :
    Ext true W (W.mkO y G.length o) ∧ RAll kt B (W.mkO y G.length o) σ env (G ++ [ob]) := by
  have nb : ∀ b, W.H b ≠ none → upd W.H y o b = W.H b := fun b hb => upd_ne (fun z => hb (by rw [z]; exact hy))
  have e : Ext true W (W.mkO y G.length o) := by
    exact ⟨fun b hb => if_neg fun z => hb (by rw [z]; exact hy), fun b u hb _ _ => (nb b (by rw [hb]; simp)).trans hb, fun b xs hb => (nb b (by rw [hb]; simp)).trans hb, fun b x u hb => (nb b (by rw [hb]; simp)).trans hb, fun b hb => by
      show upd W.H y o b ≠ none
      rw [nb b hb]; exact hb, [y], rfl⟩
  refine ⟨e, ⟨fun b hb => ?_, ⟨?_, fun i u hi => ?_⟩, tabsN_upd A.ok.tabs hy, fun b ps q => ?_⟩, A.re.ext e, (A.si.trans e).mono fun z => by rw [z]; rfl, fun z b u x q => ?_⟩
  · show upd W.H y o b ≠ none
    by_cases k : b = y
    · rw [k, upd_same]; simp
    · rw [upd_ne k]
      refine A.ok.tr b fun w => hb ?_
      show (if b = y then _ else W.Γ b) = _
      rw [if_neg k]; exact w
  · simp [Wd.mkO, A.ok.rg.len]
  · by_cases hl : i < G.length
    · rw [List.getElem?_append_left hl] at hi
      obtain ⟨b, h1, h2, h3⟩ := A.ok.rg.ob i u hi
      have hbn : W.H b ≠ none := by
        cases u with
        | lst xs => obtain ⟨vs, q, _⟩ := h3; rw [q]; simp
        | ins C fs => obtain ⟨dx, fv, q, _⟩ := h3; rw [q]; simp
        | dct lk t kvs => obtain ⟨u, _, q⟩ := h3; exact q.some
      refine ⟨b, e.toR.ref h1, (e.role b hbn).trans h2, ?_⟩
      cases u with
      | lst xs =>
        obtain ⟨vs, q, z⟩ := h3
        exact ⟨vs, e.keep b _ q (fun _ z => nomatch z) (.inl rfl), Reps.ext e _ _ z⟩
      | ins C fs =>
        obtain ⟨dx, fv, q, z, k⟩ := h3
        exact ⟨dx, fv, e.keep b _ q (fun _ z => nomatch z) (.inl rfl), FldsRep.extR e.toR rfl rfl (fun _ => rfl) _ _ z, k⟩
      | dct lk t kvs =>
        obtain ⟨u, q, z⟩ := h3
        exact ⟨u, q.ext e, z.keep e.toR rfl q.plain⟩
    · have hil : i = G.length := by
        have := (List.getElem?_eq_some_iff.mp hi).1
        rw [List.length_append, List.length_singleton] at this
        omega
      subst hil
      rw [List.getElem?_append_right (Nat.le_refl _)] at hi
      simp only [Nat.sub_self, List.getElem?_cons_zero, Option.some.injEq] at hi
      subst hi
      refine ⟨y, ?_, if_pos rfl, hob e⟩
      show (W.ρ ++ [y])[G.length]? = some y
      rw [← A.ok.rg.len, List.getElem?_append_right (Nat.le_refl _)]; simp
  · have q : upd W.H y o b = some (.tbl ps) := q
    by_cases k : b = y
    · rw [k, upd_same] at q; cases q; cases ho
    · rw [upd_ne k] at q; exact A.ok.tb b ps q
  · have q : upd W.H y o b = some (.frz u x) := q
    by_cases k : b = y
    · rw [k, upd_same] at q; cases q; cases ho
    · rw [upd_ne k] at q
      have g : (W.mkO y G.length o).Γ b = W.Γ b := if_neg k
      rw [g]
      exact A.nl z b u x q
theorem mkO_ref {y : Addr} {o : HO} (A : RAll kt B W σ env G) : (W.mkO y G.length o).ρ[G.length]? = some y := by
  show (W.ρ ++ [y])[G.length]? = some y
  rw [← A.ok.rg.len, List.getElem?_append_right (Nat.le_refl _)]; simp
end
/-! ### {} -/
def dNewD (t : Bool) : DE := fun _ G => .ok (.ref G.length) (G ++ [.dct false t []])
section
variable {kt : Kt} {B : Bs} {X : Cx} {p pa pb pc : Bool} {m ma mb mc : Md} {a b c e f : Expr} {es : List Expr} {da db dc d dv : DE} {ds : DA} {pos pos' apos cpos np : Pos} {x : Str}
theorem sx_newK : SX kt B X true .s (.Dict [] [] pos) (dNewD false) := fun Wish tk => pe_dnewK.imp fun σ H Q ⟨W, env, G, e, A, h⟩ => by
  subst e
  intro y hy
  obtain ⟨e2, A2⟩ := A.mkO (o := .dK []) (ob := .dct false false []) hy rfl fun _ => ⟨.dK [], ⟨[], rfl, rfl⟩, upd_same⟩
  exact h _ (.ref y) e2 A2 (.inl ⟨y, rfl, mkO_ref A⟩)
theorem sx_newT : SX kt B X true .s (.Dict [] [] pos) (dNewD true) := fun Wish tk => pe_dnewT.imp fun σ H Q ⟨W, env, G, e, A, h⟩ => by
  subst e
  intro y hy
  obtain ⟨e2, A2⟩ := A.mkO (o := .dT []) (ob := .dct false true []) hy rfl fun _ => ⟨.dT [], ⟨[], rfl, rfl⟩, upd_same⟩
  exact h _ (.ref y) e2 A2 (.inl ⟨y, rfl, mkO_ref A⟩)
end
/-! ### dict(xs) of a list of pairs -/
def pairOf (x : Vl) : Option (Vl × Vl) := match itemsOf x with
  | some [k, v] => if (keyOf k).isSome = true then some (k, v) else none
  | _ => none
def pairsOf : List Vl → Option (List (Vl × Vl))
  | [] => some []
  | x :: xs => match pairOf x, pairsOf xs with
    | some p, some ps => some (p :: ps)
    | _, _ => none
def putV (acc : List (Vl × Vl)) (p : Vl × Vl) : List (Vl × Vl) := match keyOf p.1 with
  | some q => dputF keyOf acc p.1 q p.2
  | none => acc
def mergeV (acc ps : List (Vl × Vl)) : List (Vl × Vl) := ps.foldl putV acc
def oPairs (G : Gst) : List Vl → Option (List (Vl × Vl))
  | [x] => (listOf G x).bind fun xs => (pairsOf xs).map (mergeV [])
  | _ => none
theorem listOf_r {kt : Kt} {B : Bs} {W : Wd} {σ : L2.St} {env : LEnv} {G : Gst} {x : Vl} {v : V} {ys : List Vl} (A : RAll kt B W σ env G) (hx : Pk kt.K W .f x v) (e : listOf G x = some ys) : ∃ a vs, v = .ref a ∧ Reps kt.K W ys vs ∧ SqL kt.K W.H a vs := by
  unfold listOf at e
  split at e
  · rename_i q
    cases e
    obtain ⟨a, vs, e1, r, h⟩ := seqOf_r A hx q
    exact ⟨a, vs, e1, r, h⟩
  · cases e
theorem pairs_r {kt : Kt} {W : Wd} : ∀ {xs : List Vl} {vs : List V} {kvs : List (Vl × Vl)}, Reps kt.K W xs vs → pairsOf xs = some kvs →
    ∃ (ps : List Addr) (ks : List (Key × V)), vs = ps.map V.ref ∧ Paired (fun p kv => SqT kt.K W.H p [kV kv.1, kv.2]) ps ks ∧ RepD kt.K W keyOf kvs ks
  | [], _, _, h, e => by cases h; cases e; exact ⟨[], [], rfl, .nil, .nil⟩
  | x :: xs, _, kvs, h, e => by
    obtain ⟨v, r, rfl, h1, h2⟩ := h
    unfold pairsOf at e
    split at e
    · rename_i p ps e1 e2
      cases e
      obtain ⟨as, ks, rfl, q1, q2⟩ := pairs_r h2 e2
      unfold pairOf at e1
      split at e1
      · rename_i k v' ei
        split at e1
        · rename_i hk
          cases e1
          obtain ⟨q, eq⟩ := Option.isSome_iff_exists.mp hk
          obtain ⟨a, vs, rfl, r1, hq⟩ := rep_sqT h1 ei
          obtain ⟨u1, r2, rfl, g1, g2⟩ := r1
          obtain ⟨u2, r3, rfl, g3, g4⟩ := g2
          cases g4
          have hk2 := keyOf_rep g1 eq
          subst hk2
          exact ⟨a :: as, (q, u2) :: ks, rfl, .cons (hq W ExtR.refl) q1, .cons ⟨⟨eq, ok_rep g1⟩, g3⟩ q2⟩
        · cases e1
      · cases e1
    · cases e
theorem merge_r {K : PySem.W.Frag} {W : Wd} : ∀ {ps : List (Vl × Vl)} {ks : List (Key × V)} {acc : List (Vl × Vl)} {ak : List (Key × V)}, RepD K W keyOf ps ks → RepD K W keyOf acc ak → RepD K W keyOf (mergeV acc ps) (mergeK ak ks)
  | _, _, _, _, .nil, h => h
  | p :: ps, k :: ks, acc, ak, .cons r t, h => by
    show RepD K W keyOf (mergeV (putV acc p) ps) (mergeK (putK ak k.1 k.2) ks)
    refine merge_r t ?_
    unfold putV
    rw [r.1.1]
    exact h.put ⟨r.1.1, r.1.2⟩ r.2
theorem upd_upd {H : Hp} {p : Addr} {o o' : HO} : upd (upd H p o) p o' = upd H p o' := by
  funext a
  by_cases e : a = p
  · rw [e, upd_same, upd_same]
  · rw [upd_ne e, upd_ne e, upd_ne e]
/-- a value may be locked for ever -/
def tFrz (t : TE) : TE := fun σ H Q => t σ H fun v H1 => ∃ d u, v = .ref d ∧ H1 d = some u ∧ Mut (some u) ∧ ∀ od, Q v (upd H1 d (.frz od u))
theorem pe_frz {X : Cx} {e : Expr} {t : TE} (h : PE X e t) : PE X e (tFrz t) := by
  refine ⟨fun pins s σ H Q I q => ?_⟩
  refine thn (h.run pins s σ H _ I q) fun v s1 ⟨x, H1, I1, r, d, u, ex, hd, mu, q1⟩ => ?_
  obtain ⟨od, I2⟩ := I1.lock hd mu
  exact ⟨x, _, I2, r, q1 od⟩
/-- dict(xs), never written: a value -/
def dDictV (ds : DA) : DE := fun env G => (ds env G).bind fun xs G1 => match oPairs G1 xs with
  | some kvs => .ok (.dct false kvs) G1
  | none => .bad
/-- dict(xs), an object of the store -/
def dDictO (ds : DA) : DE := fun env G => (ds env G).bind fun xs G1 => match oPairs G1 xs with
  | some kvs => .ok (.ref G1.length) (G1 ++ [.dct false false kvs])
  | none => .bad
section
variable {kt : Kt} {B : Bs} {X : Cx} {p pa pb pc : Bool} {m ma mb mc : Md} {a b c e f : Expr} {es : List Expr} {da db dc d dv : DE} {ds : DA} {pos pos' apos cpos np : Pos} {x : Str}
theorem oPairs_r {W : Wd} {σ : L2.St} {env : LEnv} {G : Gst} {xs : List Vl} {vs : List V} {kvs : List (Vl × Vl)} (A : RAll kt B W σ env G) (hx : PkS kt.K W m xs vs) (e : oPairs G xs = some kvs) :
    ∃ (a : Addr) (ps : List Addr) (ks : List (Key × V)), vs = [.ref a] ∧ SqL kt.K W.H a (ps.map V.ref) ∧ Paired (fun p kv => SqT kt.K W.H p [kV kv.1, kv.2]) ps ks ∧ RepK kt.K W kvs (mergeK [] ks) := by
  unfold oPairs at e
  split at e
  · obtain ⟨v, rfl, h⟩ := hx.one
    obtain ⟨ys, e1, e2⟩ := Option.bind_eq_some_iff.mp e
    obtain ⟨ps, e3, rfl⟩ := Option.map_eq_some_iff.mp e2
    obtain ⟨a, us, rfl, r, hq⟩ := listOf_r A h.any e1
    obtain ⟨as, ks, rfl, q1, q2⟩ := pairs_r r e3
    exact ⟨a, as, ks, rfl, hq, q1, RepK.of (merge_r q2 .nil)⟩
  · cases e
theorem sx_dictV (hc : X.calm = true) (ha : SAm kt B X p m (e :: es) ds) (hg : Gl X "dict" := by rfl) (hm : X.mg "dict" = none := by rfl)
    (he : starEach (e :: es) X.env = (false, eval e X.env) :: starEach es X.env := by rfl) (hpl : (backTo pos (starEach es X.env)).any (·.1) = false := by rfl) (hK : X.K = kt.K := by rfl) : SX kt B X p .s (.Call (.Name "dict" np) (e :: es) [] pos) (dDictV ds) := fun Wish tk => by
  refine (pe_frz (pe_callTy (call_dictP hc) hg hm (by kernel_rfl) (ha Wish tk) (by decide) (by decide) he hpl)).imp fun σ H Q ⟨W, env, G, e, A, h⟩ => ?_
  subst e
  refine ⟨W, env, G, rfl, A, h.bindL.mono ?_⟩
  rintro vs H1 ⟨W1, xs, G1, rfl, e1, A1, z1, h1⟩
  split at h1
  · rename_i kvs ek
    obtain ⟨a, ps, ks, rfl, q1, q2, q3⟩ := oPairs_r A1 z1 ek
    rw [hK]
    refine ⟨a, ps, ks, rfl, q1, q2, fun y hy => ⟨y, _, rfl, upd_same, trivial, fun od => ?_⟩⟩
    rw [upd_upd]
    obtain ⟨e2, A2, r⟩ := new_dK A1 hy q3 od
    exact h1 _ _ e2.weak A2 (.inl r)
  · exact h1.elim
theorem sx_dictO (hc : X.calm = true) (ha : SAm kt B X p m (e :: es) ds) (hg : Gl X "dict" := by rfl) (hm : X.mg "dict" = none := by rfl)
    (he : starEach (e :: es) X.env = (false, eval e X.env) :: starEach es X.env := by rfl) (hpl : (backTo pos (starEach es X.env)).any (·.1) = false := by rfl) (hK : X.K = kt.K := by rfl) : SX kt B X p .s (.Call (.Name "dict" np) (e :: es) [] pos) (dDictO ds) := fun Wish tk => by
  refine (pe_callTy (call_dictP hc) hg hm (by kernel_rfl) (ha Wish tk) (by decide) (by decide) he hpl).imp fun σ H Q ⟨W, env, G, e, A, h⟩ => ?_
  subst e
  refine ⟨W, env, G, rfl, A, h.bindL.mono ?_⟩
  rintro vs H1 ⟨W1, xs, G1, rfl, e1, A1, z1, h1⟩
  split at h1
  · rename_i kvs ek
    obtain ⟨a, ps, ks, rfl, q1, q2, q3⟩ := oPairs_r A1 z1 ek
    rw [hK]
    refine ⟨a, ps, ks, rfl, q1, q2, fun y hy => ?_⟩
    obtain ⟨e2, A2⟩ := A1.mkO (o := .dK (mergeK [] ks)) (ob := .dct false false kvs) hy rfl fun ee => ⟨_, ⟨_, rfl, q3.ext ee⟩, upd_same⟩
    exact h1 _ (.ref y) e2.weak A2 (.inl ⟨y, rfl, mkO_ref A1⟩)
  · exact h1.elim
end
/-! ### what is walked: keys, values, pairs -/
/-- a dict that is not written meanwhile -/
def wkOf (G : Gst) : Vl → Option (Bool × List (Vl × Vl))
  | .dct t kvs => some (t, kvs)
  | .ref j => match G[j]? with
    | some (.dct true t kvs) => some (t, kvs)
    | _ => none
  | _ => none
def wkKeys (x : Vl) (G : Gst) : Option (List Vl) := (wkOf G x).map fun q => q.2.map (·.1)
def diKeys (d : DE) : DI := fun env G => (d env G).bind fun x G1 => opt (wkKeys x G1) G1
def vtOf (q : Bool × List (Vl × Vl)) : Option (List (Vl × Vl)) := match q.1 with
  | false => some q.2
  | true => none
def wkVals (x : Vl) (G : Gst) : Option (List Vl) := ((wkOf G x).bind vtOf).map fun kvs => kvs.map (·.2)
def diVals (d : DE) : DI := fun env G => (d env G).bind fun x G1 => opt (wkVals x G1) G1
def wkItems (x : Vl) (G : Gst) : Option (List Vl) := ((wkOf G x).bind vtOf).map fun kvs => kvs.map fun q => .stp [q.1, q.2]
def diItems (d : DE) : DI := fun env G => (d env G).bind fun x G1 => opt (wkItems x G1) G1
section
variable {kt : Kt} {B : Bs} {X : Cx} {p pa pb pc : Bool} {m ma mb mc : Md} {tg a b c e f : Expr} {es : List Expr} {da db dc d dv : DE} {ds : DA} {pos pos' apos cpos np : Pos} {x : Str}
theorem wkOf_r {W : Wd} {σ : L2.St} {env : LEnv} {G : Gst} {x : Vl} {v : V} {t : Bool} {kvs : List (Vl × Vl)} (A : RAll kt B W σ env G) (hx : Rep kt.K W x v) (e : wkOf G x = some (t, kvs)) :
    ∃ a o u, v = .ref a ∧ W.H a = some (.frz o u) ∧ DRep kt.K W t kvs u ∧ ∀ W'', ExtS W W'' → W''.H a = some (.frz o u) := by
  cases x with
  | dct t' kvs' =>
    cases e
    cases t with
    | false => obtain ⟨a, o, ks, rfl, g, h1, h2⟩ := hx; exact ⟨a, o, _, rfl, h1, ⟨ks, rfl, h2⟩, fun W'' e => e.frz a o _ h1 (by rw [g]; rfl)⟩
    | true => obtain ⟨a, o, ks, rfl, g, h1, h2⟩ := hx; exact ⟨a, o, _, rfl, h1, ⟨ks, rfl, h2⟩, fun W'' e => e.frz a o _ h1 (by rw [g]; rfl)⟩
  | ref j =>
    have e : (match G[j]? with | some (.dct true t kvs) => some (t, kvs) | _ => none) = some (t, kvs) := e
    split at e
    · rename_i t' kvs' eg
      cases e
      obtain ⟨a, rfl, ha⟩ := hx
      obtain ⟨a', h1, h2, u, h3, o, h4⟩ := A.ok.rg.ob j _ eg
      rw [ha] at h1; cases h1
      exact ⟨a, o, u, rfl, h4, h3, fun W'' e => e.frz a o _ h4 (by rw [h2]; rfl)⟩
    · cases e
  | _ => cases e
theorem repd_get {κ : Type} [DecidableEq κ] {K : PySem.W.Frag} {W : Wd} {f : Vl → Option κ} : ∀ {kvs : List (Vl × Vl)} {ks : List (κ × V)} (i : Nat) {k : κ} {v : V}, RepD K W f kvs ks → ks[i]? = some (k, v) → ∃ q, kvs[i]? = some q ∧ (f q.1 = some k ∧ okK q.1 = true) ∧ Rep K W q.2 v
  | _, _, i, k, v, .nil, e => by simp at e
  | kv :: kvs, p :: ks, 0, k, v, .cons r t, e => by
    simp only [List.getElem?_cons_zero, Option.some.injEq] at e
    subst e
    exact ⟨kv, rfl, r.1, r.2⟩
  | kv :: kvs, p :: ks, i + 1, k, v, .cons r t, e => by
    simp only [List.getElem?_cons_succ] at e ⊢
    exact repd_get i t e
theorem repd_len {κ : Type} [DecidableEq κ] {K : PySem.W.Frag} {W : Wd} {f : Vl → Option κ} : ∀ {kvs : List (Vl × Vl)} {ks : List (κ × V)}, RepD K W f kvs ks → kvs.length = ks.length
  | _, _, .nil => rfl
  | _ :: _, _ :: _, .cons _ t => by simp [repd_len t]
theorem RepD.extS {κ : Type} [DecidableEq κ] {K : PySem.W.Frag} {W W' : Wd} {f : Vl → Option κ} {S : Role → Bool} {p : Bool} (e : ExtR p S W W') (h0 : S .no = false) (h1' : S .froz = false) : ∀ {kvs : List (Vl × Vl)} {ks : List (κ × V)}, RepD K W f kvs ks → RepD K W' f kvs ks
  | _, _, .nil => .nil
  | _ :: _, _ :: _, .cons r t => .cons ⟨r.1, Rep.extR e h0 h1' _ _ r.2⟩ (RepD.extS e h0 h1' t)
theorem si_keys (ha : SX kt B X p .s a da) : SI kt B X p tg a (diKeys da) := fun Wish tk => by
  refine ⟨_, pi_keys (ha Wish tk), fun σ H R ⟨W, env, G, e, A, h⟩ => ?_⟩
  subst e
  refine ⟨W, env, G, rfl, A, (bindI (Z := fun W x v => Pk kt.K W .s x v) (f := wkKeys) h).mono ?_⟩
  rintro v H1 ⟨W', x, G', xs, rfl, A', z, ew, h⟩
  obtain ⟨⟨t, kvs⟩, e1, rfl⟩ := Option.map_eq_some_iff.mp ew
  obtain ⟨a, o, u, rfl, hf, hr, hk⟩ := wkOf_r A' z.strict e1
  cases t with
  | false =>
    obtain ⟨ks, rfl, r⟩ := hr
    refine ⟨a, o, rfl, .inl ⟨ks, hf, h _ _ _ (by rw [List.length_map, r.length]; exact walk_keys) ⟨hk, fun i H y H' hi y1 W'' e2 eh => ?_⟩⟩⟩
    obtain ⟨e3, k, v, e4, rfl⟩ := y1
    obtain ⟨q, q1, q2, _⟩ := repd_get i (r.to.extS e2 rfl rfl) e4
    exact ⟨q.1, by simp [q1], .inl ⟨e3, rep_key q2.1 q2.2⟩⟩
  | true =>
    obtain ⟨ks, rfl, r⟩ := hr
    have hl : kvs.length = ks.length := repd_len r.to
    refine ⟨a, o, rfl, .inr ⟨ks, hf, h _ _ _ (by rw [List.length_map, hl]; exact walk_keysT) ⟨hk, fun i H y H' hi y1 W'' e2 eh => ?_⟩⟩⟩
    obtain ⟨e3, k, v, b, e4, rfl, hb⟩ := y1
    obtain ⟨q, q1, q2, _⟩ := repd_get i (r.to.extS e2 rfl rfl) e4
    refine ⟨q.1, by simp [q1], .inl ⟨e3, ?_⟩⟩
    rcases q with ⟨kx, vx⟩
    cases kx with
    | stp xs => exact ⟨b, _, rfl, by rw [eh]; exact hb, reps_key q2.1 q2.2⟩
    | _ => cases q2.1
theorem si_vals (ha : SX kt B X p .s a da) (hbase : attributeBase a "values" X.env (eval a X.env) = eval a X.env := by rfl) (hline : (apos.endLine == cpos.line) = true := by rfl) : SI kt B X p tg (.Call (.Attribute a "values" apos) [] [] cpos) (diVals da) := fun Wish tk => by
  refine ⟨_, pi_values (ha Wish tk) hbase hline, fun σ H R ⟨W, env, G, e, A, h⟩ => ?_⟩
  subst e
  refine ⟨W, env, G, rfl, A, (bindI (Z := fun W x v => Pk kt.K W .s x v) (f := wkVals) h).mono ?_⟩
  rintro v H1 ⟨W', x, G', xs, rfl, A', z, ew, h⟩
  obtain ⟨kvs, e1, rfl⟩ := Option.map_eq_some_iff.mp ew
  obtain ⟨⟨t, kvs'⟩, e0, e1⟩ := Option.bind_eq_some_iff.mp e1
  obtain ⟨a, o, u, rfl, hf, hr, hk⟩ := wkOf_r A' z.strict e0
  cases t with
  | true => cases e1
  | false =>
    cases e1
    obtain ⟨ks, rfl, r⟩ := hr
    refine ⟨a, o, ks, rfl, hf, h _ _ _ (by rw [List.length_map, r.length]; exact walk_values) ⟨hk, fun i H y H' hi y1 W'' e2 eh => ?_⟩⟩
    obtain ⟨e3, k, e4⟩ := y1
    obtain ⟨q, q1, q2, q3⟩ := repd_get i (r.to.extS e2 rfl rfl) e4
    exact ⟨q.2, by simp [q1], .inl ⟨e3, q3⟩⟩
theorem si_items {elts : List Expr} {kk : Nat} {tpos : Pos} (ha : SX kt B X p .s a da) (hbase : attributeBase a "items" X.env (eval a X.env) = eval a X.env := by rfl) (hline : (apos.endLine == cpos.line) = true := by rfl) : SI kt B X p (.Tuple elts kk tpos) (.Call (.Attribute a "items" apos) [] [] cpos) (diItems da) := fun Wish tk => by
  refine ⟨_, pi_items (ha Wish tk) hbase hline, fun σ H R ⟨W, env, G, e, A, h⟩ => ?_⟩
  subst e
  refine ⟨W, env, G, rfl, A, (bindI (Z := fun W x v => Pk kt.K W .s x v) (f := wkItems) h).mono ?_⟩
  rintro v H1 ⟨W', x, G', xs, rfl, A', z, ew, h⟩
  obtain ⟨kvs, e1, rfl⟩ := Option.map_eq_some_iff.mp ew
  obtain ⟨⟨t, kvs'⟩, e0, e1⟩ := Option.bind_eq_some_iff.mp e1
  obtain ⟨a, o, u, rfl, hf, hr, hk⟩ := wkOf_r A' z.strict e0
  cases t with
  | true => cases e1
  | false =>
    cases e1
    obtain ⟨ks, rfl, r⟩ := hr
    refine ⟨a, o, ks, rfl, hf, h _ _ _ (by rw [List.length_map, r.length]; exact walk_items) ⟨hk, fun i H y H' hi y1 W'' e2 eh => ?_⟩⟩
    obtain ⟨T, w1, w2, rfl, hT, rfl, e3, e4⟩ := y1
    obtain ⟨⟨k, v⟩, e5, rfl⟩ := Option.map_eq_some_iff.mp e3
    have e4 : Option.map Prod.snd ks[i]? = some w2 := e4
    rw [e5] at e4
    cases e4
    obtain ⟨q, q1, q2, q3⟩ := repd_get i (r.to.extS e2 rfl rfl) e5
    have hT' : W''.H T = none := by rw [eh]; exact hT
    exact ⟨.stp [q.1, q.2], by simp [q1], .inr ⟨T, _, rfl, hT, rfl, T, _, rfl, upd_same, _, _, rfl, Rep.ext (Ext.alloc (p := T) hT') _ _ (rep_key q2.1 q2.2), _, _, rfl, q3.ext (Ext.alloc hT'), rfl⟩⟩
end
/-! ### writes -/
def putD (t : Bool) (kvs : List (Vl × Vl)) (k x : Vl) : Option (List (Vl × Vl)) := if kvs.length < 16777216 then dPut t kvs k x else none
/-- the store behind x[k] = v -/
def setD (G : Gst) (x k v : Vl) : Option Gst := match x with
  | .ref j => match G[j]? with
    | some (.dct false t kvs) => (putD t kvs k v).map fun kvs' => G.set j (.dct false t kvs')
    | _ => none
  | _ => none
def dSetD (dv do_ di : DE) : DS := fun e G => sb e (dv e G) fun v G1 => sb e (do_ e G1) fun x G2 => sb e (di e G2) fun y G3 => match setD G3 x y v with
  | some G4 => .nx e G4
  | none => .bad
def dAugD (o : Vl → Vl → Option Vl) (do_ di dv : DE) : DS := fun e G => sb e (do_ e G) fun x G1 => sb e (di e G1) fun y G2 => match vIxD G2 x y with
  | some z => sb e (dv e G2) fun v G3 => match o z v with
    | some w => match setD G3 x y w with
      | some G4 => .nx e G4
      | none => .bad
    | none => .bad
  | none => .bad
def dPop1 (dd dk : DE) : DE := fun env G => (dd env G).bind fun x G1 => if (dctOf G1 x).isSome = true then (dk env G1).bind fun k G2 => match x with
  | .ref j => match G2[j]? with
    | some (.dct false false kvs) => match dAt false kvs k, dDrop false kvs k with
      | some (some v), some kvs' => .ok v (G2.set j (.dct false false kvs'))
      | _, _ => .bad
    | _ => .bad
  | _ => .bad else .bad
section
variable {kt : Kt} {B : Bs} {X : Cx} {p pa pb pc : Bool} {m ma mb mc : Md} {tg a b c e f : Expr} {es : List Expr} {da db dc d dv : DE} {ds : DA} {pos pos' apos cpos np tpos : Pos} {x : Str}
theorem Ext.obW {W : Wd} {y : Addr} {i : Nat} {u o : HO} (hΓ : W.Γ y = .obj i) (h : W.H y = some u) (hu : okW u = true) : Ext false W (W.wr y o) := Ext.wr (by rw [hΓ]; rfl) h hu
theorem DRep.okw {K : PySem.W.Frag} {W : Wd} {t : Bool} {kvs : List (Vl × Vl)} {u : HO} (h : DRep K W t kvs u) : okW u = true := by
  cases t <;> obtain ⟨ks, e, _⟩ := h <;> subst e <;> rfl
/-- a dict of the store gets a pair -/
theorem setD_r {W : Wd} {σ : L2.St} {env : LEnv} {G G' : Gst} {x k z : Vl} {xv kv zv : V} (hp : B.p = false) (A : RAll kt B W σ env G) (hx : Rep kt.K W x xv) (hk : Rep kt.K W k kv) (hz : Rep kt.K W z zv) (e : setD G x k z = some G') :
    ∃ a H', xv = .ref a ∧ DPut W.H a kv zv H' ∧ ∃ W', W'.H = H' ∧ Ext false W W' ∧ RAll kt B W' σ env G' := by
  unfold setD at e
  split at e
  · rename_i j
    split at e
    · rename_i t kvs eg
      obtain ⟨kvs', e1, rfl⟩ := Option.map_eq_some_iff.mp e
      unfold putD at e1
      split at e1
      case isFalse => cases e1
      rename_i hl
      obtain ⟨a, rfl, ha⟩ := hx
      obtain ⟨a', u, h1, hΓ, hr, hu⟩ := dct_at A eg
      rw [ha] at h1; cases h1
      have n := obn (lk := false) hu hr
      cases t with
      | false =>
        obtain ⟨q, eq, rfl⟩ := Option.map_eq_some_iff.mp e1
        obtain ⟨ks, rfl, r⟩ := hr
        have e2 : Ext false W (W.wr a (.dK (putK ks q zv))) := Ext.obW hΓ hu rfl
        refine ⟨a, _, rfl, .inl ⟨ks, q, hu, keyOf_rep hk eq, by rw [← r.length, sizeLine_eq]; exact hl, rfl⟩, W.wr a (.dK (putK ks q zv)), rfl, e2, ?_⟩
        exact A.dctWr (lk := false) (lk' := false) (t := false) (t' := false) ha ⟨ks, rfl, r⟩ hu eg ⟨_, rfl, RepK.of ((RepK.ext e2 _ _ r).to.put ⟨eq, ok_rep hk⟩ (Rep.ext e2 _ _ hz))⟩ upd_same (fun _ z => nomatch z) (fun _ _ z => nomatch z) ((A.si.trans e2).mono fun z => by rw [hp] at z; cases z)
      | true =>
        obtain ⟨q, eq, rfl⟩ := Option.map_eq_some_iff.mp e1
        obtain ⟨ks, rfl, r⟩ := hr
        obtain ⟨b, eb, hb⟩ := keyTOf_rep hk eq
        have e2 : Ext false W (W.wr a (.dT (putK ks q zv))) := Ext.obW hΓ hu rfl
        refine ⟨a, _, rfl, .inr ⟨ks, q, b, hu, eb, hb, by rw [← repd_len r.to, sizeLine_eq]; exact hl, rfl⟩, W.wr a (.dT (putK ks q zv)), rfl, e2, ?_⟩
        exact A.dctWr (lk := false) (lk' := false) (t := true) (t' := true) ha ⟨ks, rfl, r⟩ hu eg ⟨_, rfl, RepT.of ((RepT.ext e2 _ _ r).to.put ⟨eq, ok_rep hk⟩ (Rep.ext e2 _ _ hz))⟩ upd_same (fun _ z => nomatch z) (fun _ _ z => nomatch z) ((A.si.trans e2).mono fun z => by rw [hp] at z; cases z)
    · cases e
  · cases e
theorem ss_setD (hp : B.p = false) (hu : X.A.units + 1 < cLine) (hv : SX kt B X pa .s e dv) (ho : SX kt B X pb .s a da) (hi : SX kt B X pc .s b db) (hs : swapsWithSole [.Subscript a b pos'] e pos.line X.env = pure false := by rfl) (hw : swappedStores [.Subscript a b pos'] e X.env = pure none := by rfl)
    (h1 : (assignEach [.Subscript a b pos'] X.env).map (·.2) = [assign (.Subscript a b pos') X.env] := by rfl)
    (ha : ∀ v, assign (.Subscript a b pos') X.env v = (do
      let ov ← holding [v] (eval a X.env)
      let iv ← holding [v, ov] (eval b X.env)
      standAt pos'
      holding [v, ov, iv] (setItem ov iv v)
      release [v, ov, iv] []) := by intro _; rfl) : SS kt B X (.Assign [.Subscript a b pos'] e pos) (dSetD dv da db) := fun Wish tk => by
  refine (ps_asg (hv Wish tk) (pg_sub (ho Wish tk) (hi Wish tk) (set_dict hu) ha) hs hw h1).imp fun D σ H ⟨W, env, G, e, A, h⟩ => ?_
  subst e
  refine ⟨W, env, G, rfl, A, h.bindS.mono ?_⟩
  rintro v H1 ⟨W1, x, G1, rfl, e1, A1, z1, h1⟩
  refine ⟨W1, env, G1, rfl, A1, h1.bindS.mono ?_⟩
  rintro u H2 ⟨W2, y, G2, rfl, e2, A2, z2, h2⟩
  refine ⟨W2, env, G2, rfl, A2, h2.bindS.mono ?_⟩
  rintro w H3 ⟨W3, z, G3, rfl, e3, A3, z3, h3⟩
  split at h3
  · rename_i G4 e4
    obtain ⟨a', H', rfl, g, W4, rfl, e5, A4⟩ := setD_r hp A3 ((z2.strict).ext e3) z3.strict ((z1.strict.ext e2).ext e3) e4
    exact ⟨a', _, rfl, g, h3 W4 σ e5.toS A4⟩
  · exact h3.elim
theorem ss_augD {op : Operator} {o : Vl → Vl → Option Vl} (ho' : InS kt X op o) (hp : B.p = false) (hu : X.A.units + 1 < cLine) (ho : SX kt B X pa .s a da) (hi : SX kt B X pb .s b db) (hv : SX kt B X pc .s e dv)
    (ha : ∀ ov iv new, augStore b ov iv new = (do holding [new, ov, iv] (setItem ov iv new); release [new, ov, iv] []; pure .next) := by intros; rfl) : SS kt B X (.AugAssign (.Subscript a b tpos) op e pos) (dAugD o da db dv) := fun Wish tk => by
  obtain ⟨r, hr, hs⟩ := ho'
  refine (ps_daug hu (ho Wish tk) (hi Wish tk) (hv Wish tk) (rd := r) (fun pins s σ H x y u v Q I rx ry q => hr pins s σ H x y u v Q I rx ry q) ha).imp fun D σ H ⟨W, env, G, e, A, h⟩ => ?_
  subst e
  refine ⟨W, env, G, rfl, A, h.bindS.mono ?_⟩
  rintro v H1 ⟨W1, x, G1, rfl, e1, A1, z1, h1⟩
  refine ⟨W1, env, G1, rfl, A1, h1.bindS.mono ?_⟩
  rintro u H2 ⟨W2, y, G2, rfl, e2, A2, z2, h2⟩
  split at h2
  case h_2 => exact h2.elim
  rename_i z ez
  obtain ⟨⟨t, kvs⟩, ed, ez⟩ := Option.bind_eq_some_iff.mp ez
  have ez := join_some ez
  have zx := z1.strict.ext e2
  obtain ⟨a', uo, rfl, hd, hrr⟩ := dctOf_r A2 (Pk.any (m := .s) (.inl zx)) ed
  obtain ⟨o', g, rg⟩ := drep_get hd hrr z2.strict ez
  obtain ⟨w, rfl, rw'⟩ := rg
  refine ⟨a', w, rfl, g, W2, env, G2, rfl, A2, h2.bindS.mono ?_⟩
  rintro v2 H3 ⟨W3, y3, G3, rfl, e3, A3, z3, h3⟩
  split at h3
  case h_2 => exact h3.elim
  rename_i w' ew
  refine hs B σ env G3 W3 z y3 w v2 w' _ A3 (.inl (Rep.ext e3 _ _ rw')) z3.any ew fun W4 w4 e4 A4 r4 => ?_
  split at h3
  case h_2 => exact h3.elim
  rename_i G5 e5
  obtain ⟨a2, H', ea, gp, W5, rfl, e6, A5⟩ := setD_r hp A4 ((zx.ext e3).ext e4) ((z2.strict.ext e3).ext e4) r4 e5
  cases ea
  exact ⟨_, gp, h3 W5 σ (e4.fls.trans e6).toS A5⟩
theorem sx_pop1 (hp : B.p = false) (ho : SX kt B X pa .s a da) (hi : SX kt B X pb .s e db) (hM : M1 X a "pop" apos e cpos := by exact ⟨rfl, rfl, rfl, rfl⟩) : SX kt B X false .s (.Call (.Attribute a "pop" apos) [e] [] cpos) (dPop1 da db) := fun Wish tk => by
  refine (pe_dpop1 (ho Wish tk) (hi Wish tk) hM).imp fun σ H Q ⟨W, env, G, e, A, h⟩ => ?_
  subst e
  refine ⟨W, env, G, rfl, A, (PoX.bindE (q := false) h.fls).mono ?_⟩
  rintro v H1 ⟨W1, x, G1, rfl, e1, A1, z1, h1⟩
  split at h1
  case isFalse => exact h1.elim
  rename_i hs
  obtain ⟨⟨t0, kvs0⟩, ed0⟩ := Option.isSome_iff_exists.mp hs
  obtain ⟨a0, u0, rfl, hd0, hr0⟩ := dctOf_r A1 z1.any ed0
  refine ⟨a0, rfl, hr0.isD hd0, W1, env, G1, rfl, A1, (PoX.bindE (q := false) h1.fls).mono ?_⟩
  rintro k H2 ⟨W2, kx, G2, rfl, e2, A2, z2, h2⟩
  split at h2
  case h_2 => exact h2.elim
  rename_i j
  split at h2
  case h_2 => exact h2.elim
  rename_i kvs eg
  split at h2
  case h_2 => exact h2.elim
  rename_i v' kvs' ev ek
  obtain ⟨b, eb, ha⟩ := (z1.strict.ext e2)
  cases eb
  obtain ⟨a', u, h1', hΓ, hr, hu⟩ := dct_at A2 eg
  rw [ha] at h1'; cases h1'
  obtain ⟨ks, rfl, r⟩ := hr
  obtain ⟨q, eq, e3⟩ := Option.map_eq_some_iff.mp ev
  obtain ⟨q', eq', e4⟩ := Option.map_eq_some_iff.mp ek
  rw [eq] at eq'; cases eq'
  subst e4
  have gq := r.to.get q
  rw [e3] at gq
  obtain ⟨w, ew, rw'⟩ := gq
  have e5 : Ext false W2 (W2.wr a0 (.dK (dropK ks q))) := Ext.obW hΓ hu rfl
  refine ⟨ks, q, w, hu, keyOf_rep z2.strict eq, ew, ?_⟩
  refine h2 (W2.wr a0 (.dK (dropK ks q))) w e5 ?_ (.inl (Rep.ext e5 _ _ rw'))
  exact A2.dctWr (lk := false) (lk' := false) (t := false) (t' := false) ha ⟨ks, rfl, r⟩ hu eg ⟨_, rfl, RepK.of ((RepK.ext e5 _ _ r).to.drop q)⟩ upd_same (fun _ z => nomatch z) (fun _ _ z => nomatch z) ((A2.si.trans e5).mono fun z => by rw [hp] at z; cases z)
end
end CardH
end
section
set_option maxHeartbeats 2000000
namespace CardH
open PySem PySem.Spec PyProof.Rows L2

/-! ### sorted of any alike data, lists and tuples -/
section
variable {prog : Program} {w : World} {A : Around} {E : Value → Shared → Prop} {s : Shared}
theorem collectT {a : Addr} {us : List Value} {Q : List Value → Shared → Prop} (ht : s.heap.IsTuple a us.toArray) (hz : us.length ≤ sizeLine)
    (k : Q us { s with heap := (s.heap.push (seqObj "list" #[] 0)).update s.heap.objs.size (Obj.mapSeq (· ++ us.toArray)) }) : wpAny (model prog w) A (collect (.ref a)) Q E s := by
  obtain ⟨ob, g1, g2, c, g3⟩ := id ht
  have g1' : (s.heap.push (seqObj "list" #[] 0)).get? a = some ob := Heap.get?_push_of_some _ g1
  unfold collect
  refine wpAny_bind (wpAny_runValue (codeAny_builtin entry_proto_collect' ?_))
  show wpAny _ _ (do again (.builtin "list.__iadd__" ⟨[← newList [], .ref a], []⟩)) _ _ s
  refine wpAny_bind (wpAny_newList (wpAny_pure ⟨Code.quiet_builtin _ (by decide +kernel), codeAny_builtin entry_list_iadd' ?_⟩))
  show wpAny _ _ (Builtin.List.listExtendWith (.ref s.heap.objs.size) (.ref a) (.ref s.heap.objs.size)) _ _ { s with heap := s.heap.push (seqObj "list" #[] 0) }
  unfold Builtin.List.listExtendWith
  refine wpAny_bind (wpAny_typeOf (T := "tuple") ⟨ob, g1', g2⟩ ?_)
  have tt : (Value.type "tuple" == Value.type "tuple") = true := by rfl
  rw [if_pos (by rw [tt]; simp)]
  refine wpAny_bind (listItems_at g1' g3 ?_)
  refine wpAny_bind (listItems_at (xs := #[]) (n := 0) (Heap.get?_push_size _ rfl) rfl ?_)
  rw [if_neg (by simp)]
  refine wpAny_bind (listUpdate_at (xs := #[]) (n := 0) (Heap.get?_push_size _ rfl) rfl ?_ (Nat.zero_le _) (by show (#[] ++ us.toArray).size ≤ sizeLine + 1; simp only [Array.size_append, List.size_toArray, List.length_nil]; omega))
  refine wpAny_pure ?_
  refine wpAny_bind (wpAny_load (get?_update_seq (Heap.get?_push_size _ rfl) _) ?_)
  show wpAny _ _ (pure ((#[] : Array Value) ++ us.toArray).toList) Q E _
  rw [show ((#[] : Array Value) ++ us.toArray).toList = us by simp]
  exact wpAny_pure k
open PySem.W PySem.Calls in
theorem sortedT_data {β : Type} {us : List Value} {bs : List β} {enc : β → PyData} {R : Value → β → Prop} {a : Addr} {Q : Value → Shared → Prop} (ht : s.heap.IsTuple a us.toArray) (e : EachIs R us bs) (er : EachIs (fun v b => ∃ as, Reads s.heap v (enc b) as) us bs)
    (al : AllAlike (bs.map enc)) (so : Sortable (bs.map enc)) (hz : bs.length ≤ sizeLine) (hu : ∀ b, b ∈ bs → A.units + 2 + (enc b).depth < cLine)
    (k : ∀ out, out.length = bs.length → EachIs R out (bs.mergeSort (dataLe false enc)) → Q (.ref (s.heap.objs.size + 1)) { s with heap := sortedAll s.heap us (List.toArray out) }) : wpAny (model prog w) A (call (.builtin "sorted") [.ref a]) Q E s := by
  have er2 : EachIs (fun v b => ∃ as, Reads (sortingHeap (copyHeap s.heap us) (s.heap.objs.size + 1) us) v (enc b) as) us bs := er.mono fun _ _ ⟨as, r⟩ => ⟨as, PyProof.Rows.Reads.keeps (fun _ _ => sorting_copy_old) r⟩
  have S : SortsAt prog w A.in1.in1 { s with heap := sortingHeap (copyHeap s.heap us) (s.heap.objs.size + 1) us } _ us :=
    SortsAt.data (s := { s with heap := sortingHeap (copyHeap s.heap us) (s.heap.objs.size + 1) us }) (each_map (R := fun v d => ∃ as, Reads (sortingHeap (copyHeap s.heap us) (s.heap.objs.size + 1) us) v d as) enc er2) al so (bound_map hu)
  have hL : us.length ≤ sizeLine := by rw [e.length]; exact hz
  have fin := k _ (by rw [sortVals_length false rfl]; exact e.length) (sortVals_data false e er2 al)
  refine call_function_entry_kw kind_sorted plain_sorted entry_sorted (args_sorted1 _) ?_
  unfold Builtin.«sorted»
  refine wpAny_bind (m := checkCount "sorted" 1 1 _) (wpAny_pure ?_)
  refine wpAny_bind (collectT ht hL ?_)
  refine wpAny_bind (wpAny_newList ?_ hL)
  have sz : ((s.heap.push (seqObj "list" #[] 0)).update s.heap.objs.size (Obj.mapSeq (· ++ us.toArray))).objs.size = s.heap.objs.size + 1 := by rw [Heap.size_update, size_push']
  show wpAny _ _ _ _ _ { s with heap := copyHeap s.heap us }
  rw [sz]
  refine wpAny_bind (wpAny_holding (wpAny_call_entry_kw slot_list_sort ⟨_, copyHeap_at s.heap us, rfl⟩ entry_list_sort ?_ (args_list_sort _)))
  exact list_sort_vals (s := { s with heap := copyHeap s.heap us }) (copyHeap_at s.heap us) S hL ⟨_, rfl, wpAny_pure ⟨_, rfl, fin⟩⟩
end

/-- the items in order, equal ones as they stood -/
def srtD (xs : List (V × PyData)) : List V := (xs.mergeSort (PySem.W.dataLe false Prod.snd)).map Prod.fst
section
variable {X : Cx}
theorem vals_each {H : Heap} : ∀ {xs : List V} {us : List Value} {ds : List PyData}, Vals xs us → PySem.W.EachIs (fun v d => ∃ as, Reads H v d as) us ds → PySem.W.EachIs (fun v (b : V × PyData) => RelV b.1 v ∧ ∃ as, Reads H v b.2 as) us (xs.zip ds)
  | _, _, _, .nil, .nil => .nil
  | _, _, _, .cons r t, .cons h k => .cons ⟨r, h⟩ (vals_each t k)
theorem each_vals : ∀ {us : List Value} {bs : List (V × PyData)}, PySem.W.EachIs (fun v (b : V × PyData) => RelV b.1 v) us bs → Vals (bs.map Prod.fst) us
  | _, _, .nil => .nil
  | _, _, .cons r t => .cons r (each_vals t)
theorem zip_snd {α β : Type} : ∀ {xs : List α} {ys : List β}, xs.length = ys.length → (xs.zip ys).map Prod.snd = ys
  | [], [], _ => rfl
  | x :: xs, y :: ys, h => by simp [zip_snd (xs := xs) (ys := ys) (by simpa using h)]
  | [], _ :: _, h => by simp at h
  | _ :: _, [], h => by simp at h
theorem zip_fst {α β : Type} : ∀ {xs : List α} {ys : List β}, xs.length = ys.length → (xs.zip ys).map Prod.fst = xs
  | [], [], _ => rfl
  | x :: xs, y :: ys, h => by simp [zip_fst (xs := xs) (ys := ys) (by simpa using h)]
  | [], _ :: _, h => by simp at h
  | _ :: _, [], h => by simp at h
theorem dpAll_len {K : PySem.W.Frag} {H : Hp} : ∀ {xs : List V} {ds : List PyData}, DpAll K H xs ds → xs.length = ds.length
  | _, _, .nil => rfl
  | _, _, .cons _ t => by simp [dpAll_len t]
def rSortV (K : PySem.W.Frag) : List V → Hp → VK → Prop := fun vs H Q => ∃ (a : Addr) (xs : List V) (ds : List PyData), vs = [.ref a] ∧ (SqL K H a xs ∨ SqT K H a xs) ∧ DpAll K H xs ds ∧ PySem.W.AllAlike ds ∧ PySem.W.Sortable ds ∧ xs.length ≤ sizeLine ∧ (∀ d, d ∈ ds → d.depth ≤ 60) ∧
  ∀ p, H p = none → Q (.ref p) (upd H p (.lst (srtD (xs.zip ds))))
theorem cr_sortV (hu : X.A.units + 64 < cLine) : CallR X (.builtin "sorted") (rSortV X.K) := by
  intro pins s σ H vs us Q I r h
  obtain ⟨a, xs, ds, rfl, hq, hd, al, so, hz, hdp, q⟩ := h
  obtain ⟨u, rfl, rx⟩ := vals1 r
  cases rx
  have hl := dpAll_len hd
  have es := zip_snd hl
  have hb : (xs.zip ds).length = xs.length := by rw [List.length_zip, hl, Nat.min_self]
  have fin : ∀ (its out : List Value) , out.length = (xs.zip ds).length → PySem.W.EachIs (fun v (b : V × PyData) => RelV b.1 v ∧ ∃ as, Reads s.heap v b.2 as) out ((xs.zip ds).mergeSort (PySem.W.dataLe false Prod.snd)) →
      EP X pins σ Q (.ref (s.heap.objs.size + 1)) { s with heap := sortedAll s.heap its (List.toArray out) } := by
    intro its out ho he
    obtain ⟨ep, hat⟩ := sortedAll_at s.heap its (List.toArray out)
    have rv := each_vals (he.mono fun _ _ h => h.1)
    refine ⟨.ref (s.heap.objs.size + 1), upd H (s.heap.objs.size + 1) (.lst (srtD (xs.zip ds))), I.laid (t' := s.toks) (fun _ _ => sortedAll_old) (Nat.le_succ _) ⟨?_, out, ep, rv, hat⟩, rfl, q _ (I.hok.fresh (Nat.le_succ _))⟩
    have := rv.length
    unfold srtD
    rw [this, ho, hb]; exact hz
  rcases hq with hq | hq
  · obtain ⟨its, rv, hL, _⟩ := I.list hq
    obtain ⟨as, hr⟩ := Dp.readsAll I ds xs its hd rv
    have hrr : PySem.W.EachIs (fun v d => ∃ as, Reads s.heap v (id d) as) its ds := PySem.W.readsAll_each id (by rw [List.map_id]; exact hr)
    have hrr' := vals_each rv hrr
    exact PySem.W.sorted_data (enc := Prod.snd) hL.isList hrr' (hrr'.mono fun _ _ h => h.2) (by rw [es]; exact al) (by rw [es]; exact so) (by rw [hb]; exact hz) (fun b hb => by have := hdp b.2 (by rw [← es]; exact List.mem_map.mpr ⟨b, hb, rfl⟩); omega) (fun out h1 h2 => fin its out h1 h2)
  · obtain ⟨its, rv, hL, _⟩ := I.tuple hq
    obtain ⟨as, hr⟩ := Dp.readsAll I ds xs its hd rv
    have hrr : PySem.W.EachIs (fun v d => ∃ as, Reads s.heap v (id d) as) its ds := PySem.W.readsAll_each id (by rw [List.map_id]; exact hr)
    have hrr' := vals_each rv hrr
    exact sortedT_data (enc := Prod.snd) hL hrr' (hrr'.mono fun _ _ h => h.2) (by rw [es]; exact al) (by rw [es]; exact so) (by rw [hb]; exact hz) (fun b hb => by have := hdp b.2 (by rw [← es]; exact List.mem_map.mpr ⟨b, hb, rfl⟩); omega) (fun out h1 h2 => fin its out h1 h2)
end
/-! ### .. as a denotation -/
def pyD (x : Vl) : PyData := (py x 60).getD .none
def isTup1 : PyData → Bool
  | .tuple (_ :: _) => true
  | _ => false
def notTN : PyData → Bool
  | .none => false
  | .tuple _ => false
  | _ => true
def sortOk (xs : List Vl) : Bool := match pys xs 60 with
  | some ds => ds.all (fun d => ds.all (PySem.W.alike d)) && (ds.all isTup1 || ds.all notTN)
  | none => false
def leV : Vl → Vl → Bool := PySem.W.dataLe false pyD
def sortV (xs : List Vl) : List Vl := xs.mergeSort leV
def oSortV (G : Gst) : List Vl → Option Vl
  | [x] => (seqOf G x).bind fun q => if sortOk q.2 = true ∧ q.2.length ≤ 16777216 then some (.lst (sortV q.2)) else none
  | _ => none
theorem pys_map : ∀ {xs : List Vl} {n : Nat} {ds : List PyData}, pys xs n = some ds → ds = xs.map fun x => (py x n).getD .none
  | [], _, _, h => by cases h; rfl
  | x :: xs, n, ds, h => by
    unfold pys at h
    split at h
    · rename_i d ds' e1 e2
      cases h
      rw [List.map_cons, e1, ← pys_map e2]; rfl
    · cases h
theorem sortOk_r {xs : List Vl} (h : sortOk xs = true) : ∃ ds, pys xs 60 = some ds ∧ PySem.W.AllAlike ds ∧ PySem.W.Sortable ds := by
  unfold sortOk at h
  split at h
  · rename_i ds e
    rw [Bool.and_eq_true, Bool.or_eq_true] at h
    obtain ⟨h1, h2⟩ := h
    refine ⟨ds, e, fun d hd d' hd' => ?_, ?_⟩
    · exact List.all_eq_true.mp (List.all_eq_true.mp h1 d hd) d' hd'
    · rcases h2 with h2 | h2
      · refine .inl fun d hd => ?_
        have := List.all_eq_true.mp h2 d hd
        unfold isTup1 at this
        split at this
        · exact ⟨_, _, rfl⟩
        · cases this
      · refine .inr fun d hd => ?_
        have := List.all_eq_true.mp h2 d hd
        cases d <;> first | (refine ⟨fun z => ?_, fun _ z => ?_⟩ <;> cases z; done) | exact absurd this (by simp [notTN])
  · cases h
theorem depth_mem : ∀ {ds : List PyData} {d : PyData}, d ∈ ds → d.depth ≤ PyData.depthAll ds
  | e :: ds, d, h => by
    simp only [PyData.depthAll]
    rcases List.mem_cons.mp h with rfl | h
    · omega
    · have := depth_mem h; omega
theorem reps_mem {K : PySem.W.Frag} {W : Wd} : ∀ {xs : List Vl} {vs : List V}, Reps K W xs vs → ∀ z ∈ xs.zip vs, Rep K W z.1 z.2
  | [], _, _, z, h => by simp at h
  | x :: xs, _, h, z, hz => by
    obtain ⟨v, r, rfl, h1, h2⟩ := h
    rw [List.zip_cons_cons, List.mem_cons] at hz
    rcases hz with rfl | hz
    · exact h1
    · exact reps_mem h2 z hz
theorem reps_of {K : PySem.W.Frag} {W : Wd} : ∀ {zs : List (Vl × V)}, (∀ z ∈ zs, Rep K W z.1 z.2) → Reps K W (zs.map Prod.fst) (zs.map Prod.snd)
  | [], _ => rfl
  | z :: zs, h => ⟨z.2, _, rfl, h z (by simp), reps_of fun y hy => h y (by simp [hy])⟩
theorem sort_reps {K : PySem.W.Frag} {W : Wd} {xs : List Vl} {vs : List V} {ds : List PyData} (r : Reps K W xs vs) (e : pys xs 60 = some ds) : Reps K W (sortV xs) (srtD (vs.zip ds)) := by
  have hl := r.length
  have h1 : sortV xs = ((xs.zip vs).mergeSort fun a b => leV a.1 b.1).map Prod.fst := by
    unfold sortV
    rw [List.map_mergeSort (r := fun a b => leV a.1 b.1) (s := leV) (f := Prod.fst) (fun a _ b _ => rfl), zip_fst hl]
  have h2 : srtD (vs.zip ds) = ((xs.zip vs).mergeSort fun a b => leV a.1 b.1).map Prod.snd := by
    unfold srtD
    have e2 : vs.zip ds = (xs.zip vs).map fun z => (z.2, pyD z.1) := by
      rw [pys_map e]
      clear e h1
      induction xs generalizing vs with
      | nil => cases vs with
        | nil => rfl
        | cons _ _ => simp at hl
      | cons x xs ih => cases vs with
        | nil => simp at hl
        | cons v vs =>
          obtain ⟨v', r', ev, _, h3⟩ := r
          cases ev
          simp only [List.map_cons, List.zip_cons_cons]
          rw [ih h3 (by simpa using hl)]; rfl
    rw [e2, ← List.map_mergeSort (r := fun a b => leV a.1 b.1) (s := PySem.W.dataLe false Prod.snd) (f := fun z : Vl × V => (z.2, pyD z.1)) (fun a _ b _ => rfl), List.map_map]
    rfl
  rw [h1, h2]
  exact reps_of fun z hz => reps_mem r z (List.mem_mergeSort.mp hz)
section
variable {kt : Kt} {B : Bs} {X : Cx}
theorem fn_sortV (hu : X.A.units + 64 < cLine) (hK : X.K = kt.K := by rfl) : FnS kt X (.builtin "sorted") oSortV := by
  refine ⟨_, cr_sortV hu, fun B σ env G W xs vs z Q A hx e q => ?_⟩
  unfold oSortV at e
  split at e
  · obtain ⟨v, rfl, h⟩ := hx.one
    obtain ⟨⟨k, ys⟩, e1, e2⟩ := Option.bind_eq_some_iff.mp e
    dsimp only at e2
    split at e2
    · rename_i hs
      cases e2
      obtain ⟨ds, e3, al, so⟩ := sortOk_r hs.1
      obtain ⟨a, us, rfl, r, g⟩ := seqOf_LT A h e1
      obtain ⟨d1, d2, d3⟩ := pys_spec ys 60 ds us r e3
      rw [hK]
      refine ⟨a, us, ds, rfl, g, d1, al, so, by rw [← r.length, sizeLine_eq]; exact hs.2, fun d hd => Nat.le_trans (depth_mem hd) d3, fun p hp => ?_⟩
      obtain ⟨e4, A4, r4⟩ := new_lst A hp (sort_reps r e3)
      exact q _ _ e4 A4 r4
    · cases e2
  · cases e
end

/-! ### min, max of alike data: the first of the least, of the greatest -/
mutual
/-- told by its data -/
def cn : Nat → Vl → Bool
  | _, .non => true
  | _, .bl _ => true
  | _, .int _ => true
  | _, .str _ => true
  | n + 1, .tup xs => cns n xs
  | n + 1, .lst xs => cns n xs
  | _, _ => false
def cns : Nat → List Vl → Bool
  | _, [] => true
  | n, x :: xs => cn n x && cns n xs
end
mutual
theorem cn_inj : ∀ (x y : Vl) (n : Nat) (d : PyData), cn n x = true → cn n y = true → py x n = some d → py y n = some d → x = y
  | .non, y, n, d, _, hy, ex, ey => by
    cases ex
    cases y with
    | non => rfl
    | tup _ => cases n <;> first | cases hy | (obtain ⟨_, _, z⟩ := Option.map_eq_some_iff.mp ey; cases z)
    | lst _ => cases n <;> first | cases hy | (obtain ⟨_, _, z⟩ := Option.map_eq_some_iff.mp ey; cases z)
    | _ => first | cases ey | (cases n <;> cases hy)
  | .bl b, y, n, d, _, hy, ex, ey => by
    cases ex
    cases y with
    | bl c => cases ey; rfl
    | tup _ => cases n <;> first | cases hy | (obtain ⟨_, _, z⟩ := Option.map_eq_some_iff.mp ey; cases z)
    | lst _ => cases n <;> first | cases hy | (obtain ⟨_, _, z⟩ := Option.map_eq_some_iff.mp ey; cases z)
    | _ => first | cases ey | (cases n <;> cases hy)
  | .int i, y, n, d, _, hy, ex, ey => by
    cases ex
    cases y with
    | int c => cases ey; rfl
    | tup _ => cases n <;> first | cases hy | (obtain ⟨_, _, z⟩ := Option.map_eq_some_iff.mp ey; cases z)
    | lst _ => cases n <;> first | cases hy | (obtain ⟨_, _, z⟩ := Option.map_eq_some_iff.mp ey; cases z)
    | _ => first | cases ey | (cases n <;> cases hy)
  | .str i, y, n, d, _, hy, ex, ey => by
    cases ex
    cases y with
    | str c => cases ey; rfl
    | tup _ => cases n <;> first | cases hy | (obtain ⟨_, _, z⟩ := Option.map_eq_some_iff.mp ey; cases z)
    | lst _ => cases n <;> first | cases hy | (obtain ⟨_, _, z⟩ := Option.map_eq_some_iff.mp ey; cases z)
    | _ => first | cases ey | (cases n <;> cases hy)
  | .tup xs, y, n + 1, d, hx, hy, ex, ey => by
    obtain ⟨ds, e1, rfl⟩ := Option.map_eq_some_iff.mp ex
    cases y with
    | tup ys =>
      obtain ⟨ds', e2, z⟩ := Option.map_eq_some_iff.mp ey
      cases z
      rw [cns_inj xs ys n ds hx hy e1 e2]
    | lst ys => obtain ⟨_, _, z⟩ := Option.map_eq_some_iff.mp ey; cases z
    | _ => first | cases ey | cases hy
  | .lst xs, y, n + 1, d, hx, hy, ex, ey => by
    obtain ⟨ds, e1, rfl⟩ := Option.map_eq_some_iff.mp ex
    cases y with
    | lst ys =>
      obtain ⟨ds', e2, z⟩ := Option.map_eq_some_iff.mp ey
      cases z
      rw [cns_inj xs ys n ds hx hy e1 e2]
    | tup ys => obtain ⟨_, _, z⟩ := Option.map_eq_some_iff.mp ey; cases z
    | _ => first | cases ey | cases hy
  | .tup _, _, 0, _, hx, _, _, _ => by cases hx
  | .lst _, _, 0, _, hx, _, _, _ => by cases hx
  | .stp _, _, n, _, hx, _, _, _ => by cases n <;> cases hx
  | .ktp _, _, n, _, hx, _, _, _ => by cases n <;> cases hx
  | .dct _ _, _, n, _, hx, _, _, _ => by cases n <;> cases hx
  | .ref _, _, n, _, hx, _, _, _ => by cases n <;> cases hx
  | .scr _, _, n, _, hx, _, _, _ => by cases n <;> cases hx
theorem cns_inj : ∀ (xs ys : List Vl) (n : Nat) (ds : List PyData), cns n xs = true → cns n ys = true → pys xs n = some ds → pys ys n = some ds → xs = ys
  | [], ys, n, ds, _, _, ex, ey => by
    cases ex
    cases ys with
    | nil => rfl
    | cons y ys =>
      unfold pys at ey
      split at ey <;> cases ey
  | x :: xs, ys, n, ds, hx, hy, ex, ey => by
    unfold pys at ex
    split at ex
    · rename_i d ds' e1 e2
      cases ex
      cases ys with
      | nil => cases ey
      | cons y ys =>
        unfold pys at ey
        split at ey
        · rename_i d2 ds2 e3 e4
          cases ey
          unfold cns at hx hy
          rw [Bool.and_eq_true] at hx hy
          rw [cn_inj x y n d hx.1 hy.1 e1 e3, cns_inj xs ys n ds' hx.2 hy.2 e2 e4]
        · cases ey
    · cases ex
end
def minV (y : Vl) (ys : List Vl) : Vl := ys.foldl (fun a z => if PySem.W.dataLt (pyD z) (pyD a) = true then z else a) y
def maxV (y : Vl) (ys : List Vl) : Vl := ys.foldl (fun a z => if PySem.W.dataLt (pyD a) (pyD z) = true then z else a) y
def mmOk (xs : List Vl) : Bool := cns 60 xs && match pys xs 60 with
  | some ds => ds.all (fun d => ds.all (PySem.W.alike d)) && ds.all fun d => !isN d
  | none => false
def oMinV (G : Gst) : List Vl → Option Vl
  | [x] => (seqOf G x).bind fun q => match q.2 with
    | y :: ys => if mmOk (y :: ys) = true then some (minV y ys) else none
    | [] => none
  | _ => none
def oMaxV (G : Gst) : List Vl → Option Vl
  | [x] => (seqOf G x).bind fun q => match q.2 with
    | y :: ys => if mmOk (y :: ys) = true then some (maxV y ys) else none
    | [] => none
  | _ => none
theorem mmOk_r {xs : List Vl} (h : mmOk xs = true) : cns 60 xs = true ∧ ∃ ds, pys xs 60 = some ds ∧ PySem.W.AlikeAll ds := by
  unfold mmOk at h
  rw [Bool.and_eq_true] at h
  refine ⟨h.1, ?_⟩
  have h := h.2
  split at h
  · rename_i ds e
    rw [Bool.and_eq_true] at h
    refine ⟨ds, e, fun d hd d' hd' => List.all_eq_true.mp (List.all_eq_true.mp h.1 d hd) d' hd', fun d hd z => ?_⟩
    have := List.all_eq_true.mp h.2 d hd
    rw [z] at this
    cases this
  · cases h
theorem pys_at : ∀ {xs : List Vl} {n : Nat} {ds : List PyData} {i : Nat} {x : Vl}, pys xs n = some ds → xs[i]? = some x → ∃ d, py x n = some d ∧ ds[i]? = some d
  | [], _, _, _, _, _, h => by simp at h
  | y :: xs, n, ds, i, x, e, h => by
    unfold pys at e
    split at e
    · rename_i d ds' e1 e2
      cases e
      cases i with
      | zero => simp at h; subst h; exact ⟨d, e1, rfl⟩
      | succ i => simp at h; obtain ⟨d', a, b⟩ := pys_at e2 h; exact ⟨d', a, by simpa using b⟩
    · cases e
theorem cns_at : ∀ {xs : List Vl} {n : Nat} {i : Nat} {x : Vl}, cns n xs = true → xs[i]? = some x → cn n x = true
  | [], _, _, _, _, h => by simp at h
  | y :: xs, n, i, x, e, h => by
    unfold cns at e
    rw [Bool.and_eq_true] at e
    cases i with
    | zero => simp at h; subst h; exact e.1
    | succ i => simp at h; exact cns_at e.2 h
theorem minV_mem (ys : List Vl) : ∀ y : Vl, ∃ i : Nat, (y :: ys)[i]? = some (minV y ys) ∧ pyD (minV y ys) = PySem.W.minD (pyD y) (ys.map pyD) := by
  induction ys with
  | nil => intro y; exact ⟨0, rfl, rfl⟩
  | cons z ys ih =>
    intro y
    show ∃ i, (y :: z :: ys)[i]? = some (minV (if PySem.W.dataLt (pyD z) (pyD y) = true then z else y) ys) ∧ pyD (minV (if PySem.W.dataLt (pyD z) (pyD y) = true then z else y) ys) = PySem.W.minD (if PySem.W.dataLt (pyD z) (pyD y) = true then pyD z else pyD y) (ys.map pyD)
    by_cases h : PySem.W.dataLt (pyD z) (pyD y) = true
    · rw [if_pos h, if_pos h]
      obtain ⟨i, h1, h2⟩ := ih z
      exact ⟨i + 1, by simpa using h1, h2⟩
    · rw [if_neg h, if_neg h]
      obtain ⟨i, h1, h2⟩ := ih y
      cases i with
      | zero => exact ⟨0, by simpa using h1, h2⟩
      | succ i => exact ⟨i + 2, by simpa using h1, h2⟩
theorem maxV_mem (ys : List Vl) : ∀ y : Vl, ∃ i : Nat, (y :: ys)[i]? = some (maxV y ys) ∧ pyD (maxV y ys) = PySem.W.maxD (pyD y) (ys.map pyD) := by
  induction ys with
  | nil => intro y; exact ⟨0, rfl, rfl⟩
  | cons z ys ih =>
    intro y
    show ∃ i, (y :: z :: ys)[i]? = some (maxV (if PySem.W.dataLt (pyD y) (pyD z) = true then z else y) ys) ∧ pyD (maxV (if PySem.W.dataLt (pyD y) (pyD z) = true then z else y) ys) = PySem.W.maxD (if PySem.W.dataLt (pyD y) (pyD z) = true then pyD z else pyD y) (ys.map pyD)
    by_cases h : PySem.W.dataLt (pyD y) (pyD z) = true
    · rw [if_pos h, if_pos h]
      obtain ⟨i, h1, h2⟩ := ih z
      exact ⟨i + 1, by simpa using h1, h2⟩
    · rw [if_neg h, if_neg h]
      obtain ⟨i, h1, h2⟩ := ih y
      cases i with
      | zero => exact ⟨0, by simpa using h1, h2⟩
      | succ i => exact ⟨i + 2, by simpa using h1, h2⟩
/-- the item itself, as it stands -/
def rPick (K : PySem.W.Frag) (f : PyData → List PyData → PyData) : List V → Hp → VK → Prop := fun vs H Q => ∃ (a : Addr) (xs : List V) (d : PyData) (ds : List PyData), vs = [.ref a] ∧ (SqL K H a xs ∨ SqT K H a xs) ∧ DpAll K H xs (d :: ds) ∧ PySem.W.AlikeAll (d :: ds) ∧ PyData.depthAll (d :: ds) ≤ 60 ∧
  ∀ (i : Nat) v, xs[i]? = some v → (d :: ds)[i]? = some (f d ds) → Q v H
section
variable {X : Cx}
theorem vals_back' : ∀ {xs : List V} {us : List Value} {i : Nat} {u : Value}, Vals xs us → us[i]? = some u → ∃ x, xs[i]? = some x ∧ RelV x u
  | _, _, _, _, .nil, e => by simp at e
  | _, _, 0, _, .cons r t, e => by simp at e; subst e; exact ⟨_, rfl, r⟩
  | _, _, i + 1, _, .cons r t, e => by
    obtain ⟨x, h1, h2⟩ := vals_back' (i := i) t (by simpa using e)
    exact ⟨x, by simpa using h1, h2⟩
theorem pick_at {s : Shared} {h' : Heap} {its : List Value} {d : PyData} {ds : List PyData} {as bs : List Addr} {i : Nat} {u : Value} {m : PyData} (hr : ReadsAll s.heap its (d :: ds) as) (al : PySem.W.AlikeAll (d :: ds)) (hi : its[i]? = some u) (r : Reads h' u m bs) (hm : m ∈ d :: ds)
    (k : ∀ b o, s.heap.get? b = some o → h'.get? b = some o) : (d :: ds)[i]? = some m := by
  obtain ⟨cs, r2, hl, h3, _⟩ := PySem.W.readsAll_at hr i u hi
  have e1 : (d :: ds)[i]? = some ((d :: ds).getD i .none) := by
    rw [List.getElem?_eq_getElem hl, List.getD_eq_getElem?_getD, List.getElem?_eq_getElem hl]; rfl
  rw [e1, PySem.W.alike_unique _ _ _ _ _ (al.1 _ h3 _ hm) (PySem.W.reads_keeps k r2) r]
theorem fold_mem {α : Type} (f : α → α → α) (hf : ∀ a b, f a b = a ∨ f a b = b) : ∀ (ds : List α) (d : α), ds.foldl f d ∈ d :: ds
  | [], d => by simp
  | e :: ds, d => by
    have := fold_mem f hf ds (f d e)
    show List.foldl f (f d e) ds ∈ _
    rcases hf d e with h | h
    · rw [h] at this ⊢
      rcases List.mem_cons.mp this with h | h
      · rw [h]; simp
      · simp [h]
    · rw [h] at this ⊢
      simp only [List.mem_cons] at this ⊢
      exact .inr this
theorem cr_minV (hc : X.calm = true) (hu : X.A.units + 64 < cLine) : CallR X (.builtin "min") (rPick X.K PySem.W.minD) := by
  intro pins s σ H vs us Q I r h
  obtain ⟨a, xs, d, ds, rfl, hq, hd, al, dp, q⟩ := h
  obtain ⟨u, rfl, rx⟩ := vals1 r
  cases rx
  have hm : PySem.W.minD d ds ∈ d :: ds := fold_mem _ (fun a b => by by_cases z : PySem.W.dataLt b a = true <;> simp [z]) ds d
  rcases hq with hq | hq
  · obtain ⟨its, rv, hL, _⟩ := I.list hq
    obtain ⟨as, hr⟩ := Dp.readsAll I _ xs its hd rv
    refine PySem.W.min_list_data (I.ok.hd hc) hL.isList (by simpa using hr) al (by omega) fun i v h' tk bs hi rm k => ?_
    have hi : its[i]? = some v := by simpa using hi
    obtain ⟨x, h1, h2⟩ := vals_back' rv hi
    exact ⟨x, H, I.kept (t' := tk) k, h2, q i x h1 (pick_at hr al hi rm hm k)⟩
  · obtain ⟨its, rv, hL, _⟩ := I.tuple hq
    obtain ⟨as, hr⟩ := Dp.readsAll I _ xs its hd rv
    refine PySem.W.min_tuple_data (I.ok.hd hc) hL (by simpa using hr) al (by omega) fun i v h' tk bs hi rm k => ?_
    have hi : its[i]? = some v := by simpa using hi
    obtain ⟨x, h1, h2⟩ := vals_back' rv hi
    exact ⟨x, H, I.kept (t' := tk) k, h2, q i x h1 (pick_at hr al hi rm hm k)⟩
theorem cr_maxV (hc : X.calm = true) (hu : X.A.units + 64 < cLine) : CallR X (.builtin "max") (rPick X.K PySem.W.maxD) := by
  intro pins s σ H vs us Q I r h
  obtain ⟨a, xs, d, ds, rfl, hq, hd, al, dp, q⟩ := h
  obtain ⟨u, rfl, rx⟩ := vals1 r
  cases rx
  have hm : PySem.W.maxD d ds ∈ d :: ds := fold_mem _ (fun a b => by by_cases z : PySem.W.dataLt a b = true <;> simp [z]) ds d
  rcases hq with hq | hq
  · obtain ⟨its, rv, hL, _⟩ := I.list hq
    obtain ⟨as, hr⟩ := Dp.readsAll I _ xs its hd rv
    refine PySem.W.max_list_data (I.ok.hd hc) hL.isList (by simpa using hr) al (by omega) fun i v h' tk bs hi rm k => ?_
    have hi : its[i]? = some v := by simpa using hi
    obtain ⟨x, h1, h2⟩ := vals_back' rv hi
    exact ⟨x, H, I.kept (t' := tk) k, h2, q i x h1 (pick_at hr al hi rm hm k)⟩
  · obtain ⟨its, rv, hL, _⟩ := I.tuple hq
    obtain ⟨as, hr⟩ := Dp.readsAll I _ xs its hd rv
    refine PySem.W.max_tuple_data (I.ok.hd hc) hL (by simpa using hr) al (by omega) fun i v h' tk bs hi rm k => ?_
    have hi : its[i]? = some v := by simpa using hi
    obtain ⟨x, h1, h2⟩ := vals_back' rv hi
    exact ⟨x, H, I.kept (t' := tk) k, h2, q i x h1 (pick_at hr al hi rm hm k)⟩
end
section
variable {kt : Kt} {B : Bs} {X : Cx}
theorem pick_fn {f : PyData → List PyData → PyData} {g : Vl → List Vl → Vl} {b : String} (hf : CallR X (.builtin b) (rPick X.K f)) (hg : ∀ ys y, ∃ i : Nat, (y :: ys)[i]? = some (g y ys) ∧ pyD (g y ys) = f (pyD y) (ys.map pyD)) (hK : X.K = kt.K) {o : Gst → List Vl → Option Vl}
    (ho : ∀ G xs z, o G xs = some z → ∃ x k y ys, xs = [x] ∧ seqOf G x = some (k, y :: ys) ∧ mmOk (y :: ys) = true ∧ z = g y ys) : FnS kt X (.builtin b) o := by
  refine ⟨_, hf, fun B σ env G W xs vs z Q A hx e q => ?_⟩
  obtain ⟨x, k, y, ys, rfl, e1, ok, rfl⟩ := ho G xs z e
  obtain ⟨v, rfl, h⟩ := hx.one
  obtain ⟨hcn, ds, e3, al⟩ := mmOk_r ok
  obtain ⟨a, us, rfl, r, hq⟩ := seqOf_LT A h e1
  obtain ⟨d1, d2, d3⟩ := pys_spec _ 60 ds us r e3
  have e4 := pys_map e3
  obtain ⟨i0, h1, h2⟩ := hg ys y
  cases ds with
  | nil => cases e4
  | cons d ds =>
    have ed : d = pyD y ∧ ds = ys.map pyD := by
      have := e4
      rw [List.map_cons] at this
      exact ⟨(List.cons.inj this).1, (List.cons.inj this).2⟩
    obtain ⟨rfl, rfl⟩ := ed
    rw [hK]
    refine ⟨a, us, _, _, rfl, hq, d1, al, d3, fun i v hi hm => ?_⟩
    obtain ⟨x', q1, q2⟩ := r.get' hi
    refine q W v Ext.refl A ?_
    have : x' = g y ys := by
      obtain ⟨d', p1, p2⟩ := pys_at e3 q1
      obtain ⟨d'', p3, p4⟩ := pys_at e3 h1
      have e5 : d' = d'' := by
        rw [hm] at p2; cases p2
        have : pyD (g y ys) = d'' := by unfold pyD; rw [p3]; rfl
        rw [← this, h2]
      subst e5
      exact cn_inj _ _ 60 _ (cns_at hcn q1) (cns_at hcn h1) p1 p3
    rw [← this]; exact q2
theorem fn_minV (hc : X.calm = true) (hu : X.A.units + 64 < cLine) (hK : X.K = kt.K := by rfl) : FnS kt X (.builtin "min") oMinV :=
  pick_fn (cr_minV hc hu) minV_mem hK fun G xs z e => by
    unfold oMinV at e
    split at e
    · obtain ⟨⟨k, ys⟩, e1, e2⟩ := Option.bind_eq_some_iff.mp e
      dsimp only at e2
      split at e2
      · split at e2
        · cases e2
          exact ⟨_, k, _, _, rfl, e1, by assumption, rfl⟩
        · cases e2
      · cases e2
    · cases e
theorem fn_maxV (hc : X.calm = true) (hu : X.A.units + 64 < cLine) (hK : X.K = kt.K := by rfl) : FnS kt X (.builtin "max") oMaxV :=
  pick_fn (cr_maxV hc hu) maxV_mem hK fun G xs z e => by
    unfold oMaxV at e
    split at e
    · obtain ⟨⟨k, ys⟩, e1, e2⟩ := Option.bind_eq_some_iff.mp e
      dsimp only at e2
      split at e2
      · split at e2
        · cases e2
          exact ⟨_, k, _, _, rfl, e1, by assumption, rfl⟩
        · cases e2
      · cases e2
    · cases e
/-- xs.count(i) of ints -/
def oLCnt (G : Gst) : Vl → List Vl → Option Vl
  | x, [.int k] => (iList1 G [x]).map fun ns => .int (ns.count k : Nat)
  | _, _ => none
theorem bm_lcnt (hK : X.K = kt.K := by rfl) : BmS kt X "list.count" oLCnt := by
  refine ⟨_, mt_lcount, fun B σ env G W x v xs vs z Q A hx hxs e q => ?_⟩
  unfold oLCnt at e
  split at e
  · obtain ⟨ns, e1, rfl⟩ := Option.map_eq_some_iff.mp e
    obtain ⟨w, rfl, h2⟩ := hxs.one
    obtain rfl := h2.int
    have hp : PkS kt.K W .f [x] [v] := ⟨v, [], rfl, hx, rfl⟩
    obtain ⟨a, ea, hs⟩ := iList1_r A hp e1
    cases ea
    rw [hK]
    exact ⟨a, ns, _, rfl, rfl, hs, q W _ Ext.refl A rfl⟩
  · cases e
/-- min(i, j, k) of ints -/
def oMin3 (_ : Gst) : List Vl → Option Vl
  | [.int i, .int j, .int k] => some (.int (if k < (if j < i then j else i) then k else (if j < i then j else i)))
  | _ => none
def oMax3 (_ : Gst) : List Vl → Option Vl
  | [.int i, .int j, .int k] => some (.int (if (if j > i then j else i) < k then k else (if j > i then j else i)))
  | _ => none
theorem nuMin_int (i j : Int) : nuMin2 (.int i) (.int j) = some (.int (if j < i then j else i)) := by
  unfold nuMin2
  by_cases h : j < i <;> simp [nuLt, nuCB, h]
theorem nuMax_int (i j : Int) : nuMax2 (.int i) (.int j) = some (.int (if j > i then j else i)) := by
  unfold nuMax2
  by_cases h : j > i <;> simp [nuLt, nuCB, h]
theorem fn_min3 (hc : X.calm = true) : FnS kt X (.builtin "min") oMin3 := by
  refine ⟨_, call_min3Nu hc, fun B σ env G W xs vs z Q A hx e q => ?_⟩
  unfold oMin3 at e
  split at e
  · cases e
    obtain ⟨v, u, w, rfl, h1, h2, h3⟩ := hx.three
    obtain rfl := h1.int; obtain rfl := h2.int; obtain rfl := h3.int
    exact ⟨_, _, _, _, rfl, by unfold nuMin3; rw [nuMin_int]; exact nuMin_int _ _, q W _ Ext.refl A rfl⟩
  · cases e
theorem fn_max3 (hc : X.calm = true) : FnS kt X (.builtin "max") oMax3 := by
  refine ⟨_, call_max3Nu hc, fun B σ env G W xs vs z Q A hx e q => ?_⟩
  unfold oMax3 at e
  split at e
  · cases e
    obtain ⟨v, u, w, rfl, h1, h2, h3⟩ := hx.three
    obtain rfl := h1.int; obtain rfl := h2.int; obtain rfl := h3.int
    exact ⟨_, _, _, _, rfl, by unfold nuMax3; rw [nuMax_int]; exact nuMax_int _ _, q W _ Ext.refl A rfl⟩
  · cases e
end
end CardH
end
section
set_option maxHeartbeats 2000000
namespace CardH
open PySem PySem.Spec PyProof.Rows L2

/-! ### what is not reached -/
def dDead : DS := fun _ _ => .bad
section
variable {kt : Kt} {B : Bs} {X : Cx}
theorem sss_dead {sts : List Stmt} : SSs kt B X sts dDead := fun Wish tk => ⟨fun pins s σ H D I ⟨W, env, G, e, A, h⟩ => h.elim⟩
theorem ss_dead {st : Stmt} : SS kt B X st dDead := fun Wish tk => ⟨fun pins s σ H D I ⟨W, env, G, e, A, h⟩ => h.elim⟩
/-- one way or the other -/
def orF (o1 o2 : Gst → List Vl → Option Vl) (G : Gst) (xs : List Vl) : Option Vl := match o1 G xs with
  | some z => some z
  | none => o2 G xs
theorem FnS.or {f : Value} {o1 o2 : Gst → List Vl → Option Vl} (h1 : FnS kt X f o1) (h2 : FnS kt X f o2) : FnS kt X f (orF o1 o2) := by
  obtain ⟨r1, c1, s1⟩ := h1
  obtain ⟨r2, c2, s2⟩ := h2
  refine ⟨_, c1.or c2, fun B σ env G W xs vs z Q A hx e q => ?_⟩
  unfold orF at e
  split at e
  · cases e
    exact .inl (s1 B σ env G W xs vs z Q A hx (by assumption) q)
  · exact .inr (s2 B σ env G W xs vs z Q A hx e q)
end
def oMinA := orF oMinI oMinV
def oMaxA := orF oMaxI oMaxV
end CardH
end
section
set_option maxHeartbeats 4000000
namespace CardH
open PySem PySem.Spec PyProof.Rows L2
/-! ### more for running denotations -/
def andK (db : DE) (e : LEnv) (x : Vl) (G : Gst) : CardH.R Vl := match x with
  | .bl true => db e G
  | .bl false => .ok (.bl false) G
  | _ => .bad
def orK (db : DE) (e : LEnv) (x : Vl) (G : Gst) : CardH.R Vl := match x with
  | .bl false => db e G
  | .bl true => .ok (.bl true) G
  | _ => .bad
theorem dAndV_ev (da db : DE) (e : LEnv) (G : Gst) : dAndV da db e G = (da e G).bind (andK db e) := by
  unfold dAndV
  congr
theorem dOrV_ev (da db : DE) (e : LEnv) (G : Gst) : dOrV da db e G = (da e G).bind (orK db e) := by
  unfold dOrV
  congr
theorem andK_bl (db : DE) (e : LEnv) (b : Bool) (G : Gst) : andK db e (.bl b) G = if b = true then db e G else .ok (.bl false) G := by cases b <;> rfl
theorem orK_bl (db : DE) (e : LEnv) (b : Bool) (G : Gst) : orK db e (.bl b) G = if b = true then .ok (.bl true) G else db e G := by cases b <;> rfl
/-! ### one order, one sorted list -/
theorem sorted_one {α : Type} {r : α → α → Prop} (anti : ∀ a b, r a b → r b a → a = b) : ∀ {xs ys : List α}, xs.Perm ys → xs.Pairwise r → ys.Pairwise r → xs = ys
  | [], ys, p, _, _ => (List.nil_perm.mp p).symm
  | x :: xs, [], p, _, _ => by have := p.length_eq; simp at this
  | x :: xs, y :: ys, p, h, g => by
    obtain ⟨h1, h2⟩ := List.pairwise_cons.mp h
    obtain ⟨g1, g2⟩ := List.pairwise_cons.mp g
    have e : x = y := by
      have a1 : x ∈ y :: ys := p.mem_iff.mp (by simp)
      have a2 : y ∈ x :: xs := p.mem_iff.mpr (by simp)
      rcases List.mem_cons.mp a1 with e | a1
      · exact e
      · rcases List.mem_cons.mp a2 with e | a2
        · exact e.symm
        · exact anti _ _ (h1 y a2) (g1 x a1)
    subst e
    rw [sorted_one anti (List.Perm.cons_inv p) h2 g2]
/-! ### brute force: a finite table -/
theorem tab {α : Type} {f g : Nat → α} {n : Nat} (h : (List.range n).map f = (List.range n).map g) : ∀ k, k < n → f k = g k := by
  intro k hk
  have := congrArg (fun l => l[k]?) h
  simpa [hk] using this
/-! ### loops as folds -/
theorem forL_fold {α σ : Type} {g : DG} {db : DS} (c : α → Vl) (step : σ → α → σ) (Env : σ → LEnv → Prop) (Gs : σ → Gst) : ∀ (l : List α) (s : σ) (e : LEnv), Env s e →
    (∀ a ∈ l, ∀ s e, Env s e → ∃ e1, g e (c a) = some e1 ∧ ∃ e', (db e1 (Gs s) = .nx e' (Gs (step s a)) ∨ db e1 (Gs s) = .ct e' (Gs (step s a))) ∧ Env (step s a) e') →
    ∃ e', forL g db (l.map c) e (Gs s) = .nx e' (Gs (l.foldl step s)) ∧ Env (l.foldl step s) e'
  | [], s, e, h, _ => ⟨e, rfl, h⟩
  | a :: l, s, e, h, st => by
    obtain ⟨e1, h1, e2, h2, h3⟩ := st a (by simp) s e h
    obtain ⟨e3, h4, h5⟩ := forL_fold c step Env Gs l (step s a) e2 h3 fun b hb => st b (by simp [hb])
    refine ⟨e3, ?_, h5⟩
    rw [List.map_cons]
    unfold forL
    rw [h1]
    dsimp only
    rcases h2 with h2 | h2 <;> rw [h2] <;> exact h4
theorem foldl_filter {α : Type} (p : α → Bool) : ∀ (l acc : List α), l.foldl (fun k a => if p a = true then k ++ [a] else k) acc = acc ++ l.filter p
  | [], acc => by simp
  | a :: l, acc => by
    rw [List.foldl_cons, foldl_filter p l]
    by_cases h : p a = true
    · simp [h]
    · simp [h]
/-- .. the k-th turn told -/
theorem forL_foldN {α σ : Type} {g : DG} {db : DS} (c : α → Vl) (step : σ → α → σ) (Gs : σ → Gst) : ∀ (l : List α) (Env : Nat → σ → LEnv → Prop) (s : σ) (e : LEnv), Env 0 s e →
    (∀ k a, l[k]? = some a → ∀ s e, Env k s e → ∃ e1, g e (c a) = some e1 ∧ ∃ e', (db e1 (Gs s) = .nx e' (Gs (step s a)) ∨ db e1 (Gs s) = .ct e' (Gs (step s a))) ∧ Env (k + 1) (step s a) e') →
    ∃ e', forL g db (l.map c) e (Gs s) = .nx e' (Gs (l.foldl step s)) ∧ Env l.length (l.foldl step s) e'
  | [], Env, s, e, h, _ => ⟨e, rfl, h⟩
  | a :: l, Env, s, e, h, st => by
    obtain ⟨e1, h1, e2, h2, h3⟩ := st 0 a rfl s e h
    obtain ⟨e3, h4, h5⟩ := forL_foldN c step Gs l (fun k => Env (k + 1)) (step s a) e2 h3 fun k b hb => st (k + 1) b (by simpa using hb)
    refine ⟨e3, ?_, h5⟩
    rw [List.map_cons]
    unfold forL
    rw [h1]
    dsimp only
    rcases h2 with h2 | h2 <;> rw [h2] <;> exact h4
/-! ### keys of a dict -/
section
variable {α : Type} [DecidableEq α]
def uniq (acc l : List α) : List α := l.foldl (fun acc a => if a ∈ acc then acc else acc ++ [a]) acc
theorem uniq_cons (acc : List α) (a : α) (l : List α) : uniq acc (a :: l) = uniq (if a ∈ acc then acc else acc ++ [a]) l := rfl
theorem uniq_nodup : ∀ (l acc : List α), acc.Nodup → (uniq acc l).Nodup
  | [], acc, h => h
  | a :: l, acc, h => by
    rw [uniq_cons]
    refine uniq_nodup l _ ?_
    by_cases m : a ∈ acc
    · rw [if_pos m]; exact h
    · rw [if_neg m, List.nodup_append]
      exact ⟨h, by simp, fun x hx y hy => by rw [List.mem_singleton] at hy; subst hy; exact fun z => m (z ▸ hx)⟩
theorem mem_uniq {x : α} : ∀ (l acc : List α), x ∈ uniq acc l ↔ x ∈ acc ∨ x ∈ l
  | [], acc => by simp [uniq]
  | a :: l, acc => by
    rw [uniq_cons, mem_uniq l]
    by_cases m : a ∈ acc
    · rw [if_pos m]
      simp only [List.mem_cons]
      constructor
      · rintro (h | h)
        · exact .inl h
        · exact .inr (.inr h)
      · rintro (h | rfl | h)
        · exact .inl h
        · exact .inl m
        · exact .inr h
    · rw [if_neg m]
      simp only [List.mem_append, List.mem_cons, List.mem_singleton, List.not_mem_nil, or_false, or_assoc]
theorem uniq_self : ∀ (l acc : List α), (acc ++ l).Nodup → uniq acc l = acc ++ l
  | [], acc, _ => by simp [uniq]
  | a :: l, acc, h => by
    have m : a ∉ acc := by
      rw [List.nodup_append] at h
      exact fun z => h.2.2 a z a (by simp) rfl
    rw [uniq_cons, if_neg m, uniq_self l (acc ++ [a]) (by simpa using h)]
    simp
theorem uniq_len : ∀ (l acc : List α), (uniq acc l).length ≤ acc.length + l.length
  | [], acc => by simp [uniq]
  | a :: l, acc => by
    rw [uniq_cons]
    have := uniq_len l (if a ∈ acc then acc else acc ++ [a])
    by_cases m : a ∈ acc
    · rw [if_pos m] at this ⊢; simp only [List.length_cons]; omega
    · rw [if_neg m] at this ⊢; simp only [List.length_cons, List.length_append, List.length_nil] at *; omega
theorem uniq_lt : ∀ (l acc : List α), acc.Nodup → ¬ (acc ++ l).Nodup → (uniq acc l).length < acc.length + l.length
  | [], acc, h, g => absurd h (by simpa using g)
  | a :: l, acc, h, g => by
    rw [uniq_cons]
    by_cases m : a ∈ acc
    · rw [if_pos m]
      have := uniq_len l acc
      simp only [List.length_cons]; omega
    · rw [if_neg m]
      have := uniq_lt l (acc ++ [a]) (by rw [List.nodup_append]; exact ⟨h, by simp, fun x hx y hy => by rw [List.mem_singleton] at hy; subst hy; exact fun z => m (z ▸ hx)⟩) (by simpa using g)
      simp only [List.length_cons, List.length_append, List.length_nil] at *; omega
/-- as many as are told, if and only if none is told twice -/
theorem uniq_count (l : List α) : (uniq [] l).length = l.length ↔ l.Nodup := by
  constructor
  · intro h
    by_cases g : l.Nodup
    · exact g
    · have := uniq_lt l [] List.nodup_nil (by simpa using g)
      simp at this; omega
  · intro h
    rw [uniq_self l [] (by simpa using h)]; rfl
end
instance memKeyDec (q : Option L2.Key) (l : List (Option L2.Key)) : Decidable (q ∈ l) := @List.instDecidableMemOfLawfulBEq _ instBEqOfDecidableEq _ q l
def keysK (kvs : List (Vl × Vl)) : List (Option L2.Key) := kvs.map fun kv => keyOf kv.1
theorem keysK_put (acc : List (Vl × Vl)) (p : Vl × Vl) {q : L2.Key} (e : keyOf p.1 = some q) : keysK (putV acc p) = if some q ∈ keysK acc then keysK acc else keysK acc ++ [some q] := by
  have hany : (acc.any fun kv => decide (keyOf kv.1 = some q)) = true ↔ some q ∈ keysK acc := by
    unfold keysK
    rw [List.any_eq_true, List.mem_map]
    simp only [decide_eq_true_eq]
  unfold putV
  rw [e]
  dsimp only
  unfold dputF
  by_cases h : some q ∈ keysK acc
  · rw [if_pos (hany.mpr h), if_pos h]
    unfold keysK
    rw [List.map_map]
    refine List.map_congr_left fun kv _ => ?_
    show keyOf (if keyOf kv.1 = some q then (kv.1, p.2) else kv).1 = _
    by_cases h : keyOf kv.1 = some q
    · rw [if_pos h]
    · rw [if_neg h]
  · rw [if_neg (fun z => h (hany.mp z)), if_neg h]
    unfold keysK
    rw [List.map_append]
    simp [e]
theorem keysK_merge : ∀ (ps acc : List (Vl × Vl)), (∀ p ∈ ps, (keyOf p.1).isSome = true) → keysK (mergeV acc ps) = uniq (keysK acc) (ps.map fun p => keyOf p.1)
  | [], acc, _ => rfl
  | p :: ps, acc, h => by
    obtain ⟨q, e⟩ := Option.isSome_iff_exists.mp (h p (by simp))
    show keysK (mergeV (putV acc p) ps) = _
    rw [keysK_merge ps _ fun x hx => h x (by simp [hx]), keysK_put acc p e, List.map_cons, uniq_cons, e]
theorem merge_len (ps : List (Vl × Vl)) (h : ∀ p ∈ ps, (keyOf p.1).isSome = true) : (mergeV [] ps).length = (uniq [] (ps.map fun p => keyOf p.1)).length := by
  have := keysK_merge ps [] h
  have e : (mergeV [] ps).length = (keysK (mergeV [] ps)).length := by simp [keysK]
  rw [e, this]; rfl
/-- keys that differ: the pairs as they are told -/
theorem merge_new : ∀ (ps acc : List (Vl × Vl)), (∀ p ∈ ps, (keyOf p.1).isSome = true) → (keysK acc ++ ps.map fun p => keyOf p.1).Nodup → mergeV acc ps = acc ++ ps
  | [], acc, _, _ => by simp [mergeV]
  | p :: ps, acc, h, g => by
    obtain ⟨q, e⟩ := Option.isSome_iff_exists.mp (h p (by simp))
    have hp : putV acc p = acc ++ [p] := by
      unfold putV
      rw [e]
      dsimp only
      unfold dputF
      rw [if_neg]
      rw [List.any_eq_true]
      rintro ⟨kv, h1, h2⟩
      rw [decide_eq_true_eq] at h2
      rw [List.nodup_append] at g
      exact g.2.2 (keyOf kv.1) (by unfold keysK; exact List.mem_map.mpr ⟨kv, h1, rfl⟩) (keyOf p.1) (by simp) (by rw [h2, e])
    show mergeV (putV acc p) ps = _
    rw [hp, merge_new ps (acc ++ [p]) (fun x hx => h x (by simp [hx])) (by unfold keysK at *; simpa using g)]
    simp
theorem pairsOf_map {α : Type} (f : α → Vl) (k v : α → Vl) : ∀ (l : List α), (∀ a ∈ l, pairOf (f a) = some (k a, v a)) → pairsOf (l.map f) = some (l.map fun a => (k a, v a))
  | [], _ => rfl
  | a :: l, h => by
    rw [List.map_cons]
    unfold pairsOf
    rw [h a (by simp), pairsOf_map f k v l fun b hb => h b (by simp [hb])]; rfl
theorem oPairs_map {α : Type} {G : Gst} (f : α → Vl) (k v : α → Vl) (l : List α) (h : ∀ a ∈ l, pairOf (f a) = some (k a, v a)) : oPairs G [.lst (l.map f)] = some (mergeV [] (l.map fun a => (k a, v a))) := by
  show ((pairsOf (l.map f)).map (mergeV [])) = _
  rw [pairsOf_map f k v l h]; rfl
/-! ### range(0, n, c) -/
theorem ceil_div (n c : Nat) (h : 0 < c) : 0 - (0 - (n : Int)) / (c : Int) = (((n + c - 1) / c : Nat) : Int) := by
  have h1 := Nat.div_add_mod (n + c - 1) c
  have h2 := Nat.mod_lt (n + c - 1) h
  generalize (n + c - 1) / c = q at h1 ⊢
  generalize (n + c - 1) % c = r at h1 h2
  have h3 : (c : Int) * (q : Int) = ((c * q : Nat) : Int) := by push_cast; rfl
  have e : (0 - (n : Int)) / (c : Int) = -(q : Int) := by
    have := (Int.ediv_emod_unique (a := 0 - (n : Int)) (b := c) (q := -(q : Int)) (r := (c : Int) - 1 - r) (by omega)).mpr ⟨by rw [Int.mul_neg, h3]; omega, by omega, by omega⟩
    exact this.1
  rw [e]; omega
theorem rgOf_pos (n c : Nat) (hc : 1 ≤ c) (hc2 : c ≤ 1000000) (hn : n ≤ 1000000) : rgOf [.int 0, .int (n : Int), .int (c : Int)] = some (0, (n : Int), (c : Int), (n + c - 1) / c) := by
  have e : Builtin.Range.rangeSize 0 (n : Int) (c : Int) = (((n + c - 1) / c : Nat) : Int) := by
    rw [rangeSize_pos (by omega) (by omega)]
    have : (n : Int) + c - 1 = ((n + c - 1 : Nat) : Int) := by omega
    rw [this]; rfl
  have hle : (n + c - 1) / c ≤ n + c - 1 := Nat.div_le_self _ _
  have hs : Builtin.Range.small 0 (n : Int) (c : Int) = true := by
    unfold Builtin.Range.small
    rw [e]
    simp only [Builtin.Range.rangeFitsLong, Bool.and_eq_true, Bool.or_eq_true, decide_eq_true_eq, beq_iff_eq, show (c : Int) > 0 by omega, if_true]
    generalize (n + c - 1) / c = q at hle
    omega
  show (if _ then _ else _) = _
  rw [if_pos ⟨by omega, by omega, hs, by rw [e]; exact Int.natCast_nonneg _⟩, e]; rfl
theorem oRgL_pos (n c : Nat) (hc : 1 ≤ c) (hc2 : c ≤ 1000000) (hn : n ≤ 1000000) : oRgL [.int 0, .int (n : Int), .int (c : Int)] = some (.lst (rgC 0 c ((n + c - 1) / c))) := by
  have hle : (n + c - 1) / c ≤ n + c - 1 := Nat.div_le_self _ _
  unfold oRgL
  rw [rgOf_pos n c hc hc2 hn]
  simp only [Option.bind_some]
  rw [if_pos (by omega)]
end CardH
end
section
set_option maxHeartbeats 0
namespace CardH
open PySem PySem.Spec PyProof.Rows L2
def top (i : Nat) : Stmt := PySem.Challenge.pw_cardhall_k11_houses.main.body.getD i (.Pass ⟨0, 0, 0, 0⟩)
abbrev s_House___init__ : Stmt := (inClass (top 11) 0)
def d_House___init__ : He.DefD := ⟨("House", some "__init__"), "__init__", "House.__init__", defArgs s_House___init__, defBody s_House___init__, defScope s_House___init__, [], []⟩
abbrev s_House_lean : Stmt := (inClass (top 11) 1)
def d_House_lean : He.DefD := ⟨("House", some "lean"), "lean", "House.lean", defArgs s_House_lean, defBody s_House_lean, defScope s_House_lean, [], []⟩
abbrev s_House_lay : Stmt := (inClass (top 11) 2)
def d_House_lay : He.DefD := ⟨("House", some "lay"), "lay", "House.lay", defArgs s_House_lay, defBody s_House_lay, defScope s_House_lay, [], []⟩
abbrev s_House_knock : Stmt := (inClass (top 11) 3)
def d_House_knock : He.DefD := ⟨("House", some "knock"), "knock", "House.knock", defArgs s_House_knock, defBody s_House_knock, defScope s_House_knock, [], []⟩
abbrev s_House_card_count : Stmt := (inClass (top 11) 4)
def d_House_card_count : He.DefD := ⟨("House", some "card_count"), "card_count", "House.card_count", defArgs s_House_card_count, defBody s_House_card_count, defScope s_House_card_count, [], []⟩
abbrev s_House_storeys : Stmt := (inClass (top 11) 5)
def d_House_storeys : He.DefD := ⟨("House", some "storeys"), "storeys", "House.storeys", defArgs s_House_storeys, defBody s_House_storeys, defScope s_House_storeys, [], []⟩
abbrev s_House_whole : Stmt := (inClass (top 11) 6)
def d_House_whole : He.DefD := ⟨("House", some "whole"), "whole", "House.whole", defArgs s_House_whole, defBody s_House_whole, defScope s_House_whole, [], []⟩
abbrev s_House_free : Stmt := (inClass (top 11) 7)
def d_House_free : He.DefD := ⟨("House", some "free"), "free", "House.free", defArgs s_House_free, defBody s_House_free, defScope s_House_free, [], []⟩
abbrev s_House_bears : Stmt := (inClass (top 11) 8)
def d_House_bears : He.DefD := ⟨("House", some "bears"), "bears", "House.bears", defArgs s_House_bears, defBody s_House_bears, defScope s_House_bears, [], []⟩
abbrev s_House_shown : Stmt := (inClass (top 11) 9)
def d_House_shown : He.DefD := ⟨("House", some "shown"), "shown", "House.shown", defArgs s_House_shown, defBody s_House_shown, defScope s_House_shown, [], []⟩
abbrev s_cards_for : Stmt := (top 12)
def d_cards_for : He.DefD := ⟨("cards_for", none), "cards_for", "cards_for", defArgs s_cards_for, defBody s_cards_for, defScope s_cards_for, [], []⟩
abbrev s_highest_house : Stmt := (top 13)
def d_highest_house : He.DefD := ⟨("highest_house", none), "highest_house", "highest_house", defArgs s_highest_house, defBody s_highest_house, defScope s_highest_house, [], []⟩
abbrev s_packs_for : Stmt := (top 14)
def d_packs_for : He.DefD := ⟨("packs_for", none), "packs_for", "packs_for", defArgs s_packs_for, defBody s_packs_for, defScope s_packs_for, [], []⟩
abbrev s_built_order : Stmt := (top 15)
def d_built_order : He.DefD := ⟨("built_order", none), "built_order", "built_order", defArgs s_built_order, defBody s_built_order, defScope s_built_order, [], []⟩
abbrev s_steady_to : Stmt := (top 16)
def d_steady_to : He.DefD := ⟨("steady_to", none), "steady_to", "steady_to", defArgs s_steady_to, defBody s_steady_to, defScope s_steady_to, [], []⟩
abbrev s_best_builder : Stmt := (top 17)
def d_best_builder : He.DefD := ⟨("best_builder", none), "best_builder", "best_builder", defArgs s_best_builder, defBody s_best_builder, defScope s_best_builder, [], []⟩
abbrev s_tower_of : Stmt := (top 18)
def d_tower_of : He.DefD := ⟨("tower_of", none), "tower_of", "tower_of", defArgs s_tower_of, defBody s_tower_of, defScope s_tower_of, [], []⟩
abbrev s__law_dice : Stmt := (top 20)
def d__law_dice : He.DefD := ⟨("_law_dice", none), "_law_dice", "_law_dice", defArgs s__law_dice, defBody s__law_dice, defScope s__law_dice, [], []⟩
abbrev s__law_roll : Stmt := (top 21)
def d__law_roll : He.DefD := ⟨("_law_roll", none), "_law_roll", "_law_roll", defArgs s__law_roll, defBody s__law_roll, defScope s__law_roll, [], []⟩
abbrev s__law_rounds : Stmt := (top 22)
def d__law_rounds : He.DefD := ⟨("_law_rounds", none), "_law_rounds", "_law_rounds", defArgs s__law_rounds, defBody s__law_rounds, defScope s__law_rounds, [], []⟩
abbrev s__law_told : Stmt := (top 23)
def d__law_told : He.DefD := ⟨("_law_told", none), "_law_told", "_law_told", defArgs s__law_told, defBody s__law_told, defScope s__law_told, [], []⟩
abbrev s__law_falls : Stmt := (top 24)
def d__law_falls : He.DefD := ⟨("_law_falls", none), "_law_falls", "_law_falls", defArgs s__law_falls, defBody s__law_falls, defScope s__law_falls, [], []⟩
abbrev s__law_cases1 : Stmt := (top 25)
def d__law_cases1 : He.DefD := ⟨("_law_cases1", none), "_law_cases1", "_law_cases1", defArgs s__law_cases1, defBody s__law_cases1, defScope s__law_cases1, [], []⟩
abbrev s__law_rest1 : Stmt := (top 26)
def d__law_rest1 : He.DefD := ⟨("_law_rest1", none), "_law_rest1", "_law_rest1", defArgs s__law_rest1, defBody s__law_rest1, defScope s__law_rest1, [], []⟩
abbrev s_law : Stmt := (top 27)
def d_law : He.DefD := ⟨("law", none), "law", "law", defArgs s_law, defBody s_law, defScope s_law, [], []⟩
def fn : List He.DefD := [d_House___init__, d_House_lean, d_House_lay, d_House_knock, d_House_card_count, d_House_storeys, d_House_whole, d_House_free, d_House_bears, d_House_shown, d_cards_for, d_highest_house, d_packs_for, d_built_order, d_steady_to, d_best_builder, d_tower_of, d__law_dice, d__law_roll, d__law_rounds, d__law_told, d__law_falls, d__law_cases1, d__law_rest1, d_law]
def fa : List He.Fa := [.glo "cards_for", .glo "highest_house", .glo "packs_for", .glo "built_order", .glo "steady_to", .glo "best_builder", .glo "tower_of", .glo "_law_dice", .glo "_law_roll", .glo "_law_rounds", .glo "_law_told", .glo "_law_falls", .glo "_law_cases1", .glo "_law_rest1", .glo "law", .free "abs", .free "dict", .free "int", .free "len", .free "list", .free "max", .free "min", .free "range", .free "sorted", .free "sum", .free "tuple", .free "super", .free "ValueError", .glo "CardFault", .glo "BadCard", .glo "BadPlan", .glo "BadSize", .glo "NoSuch", .glo "NoRoom", .glo "NoWay", .glo "BadText", .glo "BadDeed", .glo "House", .cls "House", .mkr "House", .noat "House" "wide", .noat "House" "tents", .noat "House" "flats", .meth "House" "lean", .meth "House" "lay", .meth "House" "knock", .meth "House" "card_count", .meth "House" "storeys", .meth "House" "whole", .meth "House" "free", .meth "House" "bears", .meth "House" "shown", .exc "BadPlan", .exc "BadSize", .exc "NoSuch", .exc "NoRoom", .exc "NoWay", .exc "BadDeed", .exm "BadPlan" "BadSize" false, .exm "BadPlan" "BadCard" false, .exm "BadPlan" "BadPlan" true, .exm "BadPlan" "NoSuch" false, .exm "BadPlan" "NoRoom" false, .exm "BadPlan" "NoWay" false, .exm "BadPlan" "BadText" false, .exm "BadPlan" "BadDeed" false, .exm "BadSize" "BadSize" true, .exm "BadSize" "BadCard" false, .exm "BadSize" "BadPlan" false, .exm "BadSize" "NoSuch" false, .exm "BadSize" "NoRoom" false, .exm "BadSize" "NoWay" false, .exm "BadSize" "BadText" false, .exm "BadSize" "BadDeed" false, .exm "NoSuch" "BadSize" false, .exm "NoSuch" "BadCard" false, .exm "NoSuch" "BadPlan" false, .exm "NoSuch" "NoSuch" true, .exm "NoSuch" "NoRoom" false, .exm "NoSuch" "NoWay" false, .exm "NoSuch" "BadText" false, .exm "NoSuch" "BadDeed" false, .exm "NoRoom" "BadSize" false, .exm "NoRoom" "BadCard" false, .exm "NoRoom" "BadPlan" false, .exm "NoRoom" "NoSuch" false, .exm "NoRoom" "NoRoom" true, .exm "NoRoom" "NoWay" false, .exm "NoRoom" "BadText" false, .exm "NoRoom" "BadDeed" false, .exm "NoWay" "BadSize" false, .exm "NoWay" "BadCard" false, .exm "NoWay" "BadPlan" false, .exm "NoWay" "NoSuch" false, .exm "NoWay" "NoRoom" false, .exm "NoWay" "NoWay" true, .exm "NoWay" "BadText" false, .exm "NoWay" "BadDeed" false, .exm "BadDeed" "BadSize" false, .exm "BadDeed" "BadCard" false, .exm "BadDeed" "BadPlan" false, .exm "BadDeed" "NoSuch" false, .exm "BadDeed" "NoRoom" false, .exm "BadDeed" "NoWay" false, .exm "BadDeed" "BadText" false, .exm "BadDeed" "BadDeed" true]
def tf : List He.Defn := [("_law_cases1", none), ("_law_rest1", none), ("law", none)]
def loose0 : List PySem.Str := ["CardFault", "BadCard", "BadPlan", "BadSize", "NoSuch", "NoRoom", "NoWay", "BadText", "BadDeed", "House", "cards_for", "highest_house", "packs_for", "built_order", "steady_to", "best_builder", "tower_of", "_law_dice", "_law_roll", "_law_rounds", "_law_told", "_law_falls", "_law_cases1", "_law_rest1"]
def loose : List PySem.Str := loose0
def apB (K : PySem.W.Frag) : Bool := decide ((tf.map fun p => (He.cT K p).2).Nodup)
abbrev rowO : PySem.W.OpenRow := PySem.W.OpenLaw.row PySem.Challenge.rw_cardhall_k11_houses
abbrev hk : PySem.W.Hook := He.hookX 5 fa fn [] tf apB
def ob (s : PySem.W.SharedT) : He.AlX := He.obsX 5 fa fn [] tf apB (HandSHeadRun.getT s)
theorem ob_eq (s : PySem.W.SharedT) : ob s = hk.obs s.abs := He.obsX_eq (HandSHeadRun.getT_eq s)
theorem run (w : World) : HandSHeadRun.RunEq rowO (PySem.W.view rowO.prog [27]) hk ob 1000000 loose w := by
  intro os
  kernel_rfl
end CardH
end
section
set_option maxHeartbeats 0
namespace CardH
open PySem PySem.Spec PyProof.Rows L2 LamX

def fldN : List PySem.Str := ["wide", "tents", "flats"]
def clsN : List PySem.Str := ["House"]
def excN : List PySem.Str := ["BadPlan", "BadSize", "NoSuch", "NoRoom", "NoWay", "BadDeed"]
def tbN : List (He.Defn × PySem.Str) := [(("_law_cases1", none), "_law_cases1.<locals>.<lambda>"), (("_law_rest1", none), "_law_rest1.<locals>.<lambda>"), (("law", none), "law.<locals>.<lambda>")]
def tblL (K : PySem.W.Frag) : List (Addr × PySem.Str) := tbN.map fun p => ((He.cT K p.1).2, p.2)
@[reducible] def ktD (K : PySem.W.Frag) (mg : PySem.Str → Option Value) : Kt := ⟨K, mg, fun i => He.ga K (clsN.getD i ""), fun i => .ref (He.ga K (excN.getD i "")), fldN, tabsOf (tblL K)⟩
structure Kn (K : PySem.W.Frag) (mg : PySem.Str → Option Value) (base : Heap) : Prop where
  c : He.SaysD fa fn K
  gl : ∀ x, He.Fa.glo x ∈ fa → mg x = some (.ref (He.ga K x))
  fr : ∀ x, He.Fa.free x ∈ fa → mg x = none
  st : ∀ x z, He.Fa.str x z ∈ fa → ∃ t, mg x = some (.str z t)
  nt : ∀ x i, He.Fa.int x i ∈ fa → ∃ t, mg x = some (.int i t)
  tb : ∀ p ∈ tf, TabB base mg (He.cT K p).1 (He.cT K p).2
  ap : apB K = true
theorem ndN : fldN.Nodup := by decide +kernel
section
variable {P : Program} {w : World} {K : PySem.W.Frag} {mg : PySem.Str → Option Value} {base : Heap}
theorem Kn.mem {f : He.Fa} {i : Nat} (h : fa[i]? = some f) : f ∈ fa := List.mem_of_getElem? h

theorem g_cards_for (kn : Kn K mg base) : mg "cards_for" = some (.ref (He.ga K "cards_for")) := kn.gl _ (Kn.mem (i := 0) rfl)
theorem g_highest_house (kn : Kn K mg base) : mg "highest_house" = some (.ref (He.ga K "highest_house")) := kn.gl _ (Kn.mem (i := 1) rfl)
theorem g_packs_for (kn : Kn K mg base) : mg "packs_for" = some (.ref (He.ga K "packs_for")) := kn.gl _ (Kn.mem (i := 2) rfl)
theorem g_built_order (kn : Kn K mg base) : mg "built_order" = some (.ref (He.ga K "built_order")) := kn.gl _ (Kn.mem (i := 3) rfl)
theorem g_steady_to (kn : Kn K mg base) : mg "steady_to" = some (.ref (He.ga K "steady_to")) := kn.gl _ (Kn.mem (i := 4) rfl)
theorem g_best_builder (kn : Kn K mg base) : mg "best_builder" = some (.ref (He.ga K "best_builder")) := kn.gl _ (Kn.mem (i := 5) rfl)
theorem g_tower_of (kn : Kn K mg base) : mg "tower_of" = some (.ref (He.ga K "tower_of")) := kn.gl _ (Kn.mem (i := 6) rfl)
theorem g__law_dice (kn : Kn K mg base) : mg "_law_dice" = some (.ref (He.ga K "_law_dice")) := kn.gl _ (Kn.mem (i := 7) rfl)
theorem g__law_roll (kn : Kn K mg base) : mg "_law_roll" = some (.ref (He.ga K "_law_roll")) := kn.gl _ (Kn.mem (i := 8) rfl)
theorem g__law_rounds (kn : Kn K mg base) : mg "_law_rounds" = some (.ref (He.ga K "_law_rounds")) := kn.gl _ (Kn.mem (i := 9) rfl)
theorem g__law_told (kn : Kn K mg base) : mg "_law_told" = some (.ref (He.ga K "_law_told")) := kn.gl _ (Kn.mem (i := 10) rfl)
theorem g__law_falls (kn : Kn K mg base) : mg "_law_falls" = some (.ref (He.ga K "_law_falls")) := kn.gl _ (Kn.mem (i := 11) rfl)
theorem g__law_cases1 (kn : Kn K mg base) : mg "_law_cases1" = some (.ref (He.ga K "_law_cases1")) := kn.gl _ (Kn.mem (i := 12) rfl)
theorem g__law_rest1 (kn : Kn K mg base) : mg "_law_rest1" = some (.ref (He.ga K "_law_rest1")) := kn.gl _ (Kn.mem (i := 13) rfl)
theorem g_law (kn : Kn K mg base) : mg "law" = some (.ref (He.ga K "law")) := kn.gl _ (Kn.mem (i := 14) rfl)
theorem m_abs (kn : Kn K mg base) : mg "abs" = none := kn.fr _ (Kn.mem (i := 15) rfl)
theorem m_dict (kn : Kn K mg base) : mg "dict" = none := kn.fr _ (Kn.mem (i := 16) rfl)
theorem m_int (kn : Kn K mg base) : mg "int" = none := kn.fr _ (Kn.mem (i := 17) rfl)
theorem m_len (kn : Kn K mg base) : mg "len" = none := kn.fr _ (Kn.mem (i := 18) rfl)
theorem m_list (kn : Kn K mg base) : mg "list" = none := kn.fr _ (Kn.mem (i := 19) rfl)
theorem m_max (kn : Kn K mg base) : mg "max" = none := kn.fr _ (Kn.mem (i := 20) rfl)
theorem m_min (kn : Kn K mg base) : mg "min" = none := kn.fr _ (Kn.mem (i := 21) rfl)
theorem m_range (kn : Kn K mg base) : mg "range" = none := kn.fr _ (Kn.mem (i := 22) rfl)
theorem m_sorted (kn : Kn K mg base) : mg "sorted" = none := kn.fr _ (Kn.mem (i := 23) rfl)
theorem m_sum (kn : Kn K mg base) : mg "sum" = none := kn.fr _ (Kn.mem (i := 24) rfl)
theorem m_tuple (kn : Kn K mg base) : mg "tuple" = none := kn.fr _ (Kn.mem (i := 25) rfl)
theorem m_super (kn : Kn K mg base) : mg "super" = none := kn.fr _ (Kn.mem (i := 26) rfl)
theorem m_ValueError (kn : Kn K mg base) : mg "ValueError" = none := kn.fr _ (Kn.mem (i := 27) rfl)
theorem g_CardFault (kn : Kn K mg base) : mg "CardFault" = some (.ref (He.ga K "CardFault")) := kn.gl _ (Kn.mem (i := 28) rfl)
theorem g_BadCard (kn : Kn K mg base) : mg "BadCard" = some (.ref (He.ga K "BadCard")) := kn.gl _ (Kn.mem (i := 29) rfl)
theorem g_BadPlan (kn : Kn K mg base) : mg "BadPlan" = some (.ref (He.ga K "BadPlan")) := kn.gl _ (Kn.mem (i := 30) rfl)
theorem g_BadSize (kn : Kn K mg base) : mg "BadSize" = some (.ref (He.ga K "BadSize")) := kn.gl _ (Kn.mem (i := 31) rfl)
theorem g_NoSuch (kn : Kn K mg base) : mg "NoSuch" = some (.ref (He.ga K "NoSuch")) := kn.gl _ (Kn.mem (i := 32) rfl)
theorem g_NoRoom (kn : Kn K mg base) : mg "NoRoom" = some (.ref (He.ga K "NoRoom")) := kn.gl _ (Kn.mem (i := 33) rfl)
theorem g_NoWay (kn : Kn K mg base) : mg "NoWay" = some (.ref (He.ga K "NoWay")) := kn.gl _ (Kn.mem (i := 34) rfl)
theorem g_BadText (kn : Kn K mg base) : mg "BadText" = some (.ref (He.ga K "BadText")) := kn.gl _ (Kn.mem (i := 35) rfl)
theorem g_BadDeed (kn : Kn K mg base) : mg "BadDeed" = some (.ref (He.ga K "BadDeed")) := kn.gl _ (Kn.mem (i := 36) rfl)
theorem g_House (kn : Kn K mg base) : mg "House" = some (.ref (He.ga K "House")) := kn.gl _ (Kn.mem (i := 37) rfl)
theorem cls_House (kn : Kn K mg base) : Cls K (He.ga K "House") := He.cls_ok (kn.c.fact 38 (f := .cls "House") rfl)
theorem mk_House (kn : Kn K mg base) : Mk K (He.ga K "House") (He.ma K (He.ga K "House") "__init__") := He.mkr_ok (kn.c.fact 39 (f := .mkr "House") rfl)
theorem na_House_wide (kn : Kn K mg base) : NoAttr K (He.ga K "House") "wide" := He.noat_ok (kn.c.fact 40 (f := .noat "House" "wide") rfl)
theorem na_House_tents (kn : Kn K mg base) : NoAttr K (He.ga K "House") "tents" := He.noat_ok (kn.c.fact 41 (f := .noat "House" "tents") rfl)
theorem na_House_flats (kn : Kn K mg base) : NoAttr K (He.ga K "House") "flats" := He.noat_ok (kn.c.fact 42 (f := .noat "House" "flats") rfl)
theorem mt_House_lean (kn : Kn K mg base) : Meth K (He.ga K "House") "lean" (He.ma K (He.ga K "House") "lean") := He.meth_ok (kn.c.fact 43 (f := .meth "House" "lean") rfl)
theorem mt_House_lay (kn : Kn K mg base) : Meth K (He.ga K "House") "lay" (He.ma K (He.ga K "House") "lay") := He.meth_ok (kn.c.fact 44 (f := .meth "House" "lay") rfl)
theorem mt_House_knock (kn : Kn K mg base) : Meth K (He.ga K "House") "knock" (He.ma K (He.ga K "House") "knock") := He.meth_ok (kn.c.fact 45 (f := .meth "House" "knock") rfl)
theorem mt_House_card_count (kn : Kn K mg base) : Meth K (He.ga K "House") "card_count" (He.ma K (He.ga K "House") "card_count") := He.meth_ok (kn.c.fact 46 (f := .meth "House" "card_count") rfl)
theorem mt_House_storeys (kn : Kn K mg base) : Meth K (He.ga K "House") "storeys" (He.ma K (He.ga K "House") "storeys") := He.meth_ok (kn.c.fact 47 (f := .meth "House" "storeys") rfl)
theorem mt_House_whole (kn : Kn K mg base) : Meth K (He.ga K "House") "whole" (He.ma K (He.ga K "House") "whole") := He.meth_ok (kn.c.fact 48 (f := .meth "House" "whole") rfl)
theorem mt_House_free (kn : Kn K mg base) : Meth K (He.ga K "House") "free" (He.ma K (He.ga K "House") "free") := He.meth_ok (kn.c.fact 49 (f := .meth "House" "free") rfl)
theorem mt_House_bears (kn : Kn K mg base) : Meth K (He.ga K "House") "bears" (He.ma K (He.ga K "House") "bears") := He.meth_ok (kn.c.fact 50 (f := .meth "House" "bears") rfl)
theorem mt_House_shown (kn : Kn K mg base) : Meth K (He.ga K "House") "shown" (He.ma K (He.ga K "House") "shown") := He.meth_ok (kn.c.fact 51 (f := .meth "House" "shown") rfl)
theorem ex_BadPlan (kn : Kn K mg base) {X : Cx} (hK : X.K = K) (hm : X.mg = mg) : ExcCls (ktD K mg) X 0 "BadPlan" := by
  obtain ⟨c1, c2, c3, c4⟩ := He.exc_ok (kn.c.fact 52 (f := .exc "BadPlan") rfl)
  exact ⟨_, _, _, _, _, PySem.F.excBase_ValueError, by rw [hK]; exact c1, by rw [hm]; exact g_BadPlan kn, by rw [hK]; exact c2, raises_own (by rw [hK]; exact c3) (by rw [hK]; exact c4), rfl⟩
theorem ex_BadSize (kn : Kn K mg base) {X : Cx} (hK : X.K = K) (hm : X.mg = mg) : ExcCls (ktD K mg) X 1 "BadSize" := by
  obtain ⟨c1, c2, c3, c4⟩ := He.exc_ok (kn.c.fact 53 (f := .exc "BadSize") rfl)
  exact ⟨_, _, _, _, _, PySem.F.excBase_ValueError, by rw [hK]; exact c1, by rw [hm]; exact g_BadSize kn, by rw [hK]; exact c2, raises_own (by rw [hK]; exact c3) (by rw [hK]; exact c4), rfl⟩
theorem ex_NoSuch (kn : Kn K mg base) {X : Cx} (hK : X.K = K) (hm : X.mg = mg) : ExcCls (ktD K mg) X 2 "NoSuch" := by
  obtain ⟨c1, c2, c3, c4⟩ := He.exc_ok (kn.c.fact 54 (f := .exc "NoSuch") rfl)
  exact ⟨_, _, _, _, _, PySem.F.excBase_ValueError, by rw [hK]; exact c1, by rw [hm]; exact g_NoSuch kn, by rw [hK]; exact c2, raises_own (by rw [hK]; exact c3) (by rw [hK]; exact c4), rfl⟩
theorem ex_NoRoom (kn : Kn K mg base) {X : Cx} (hK : X.K = K) (hm : X.mg = mg) : ExcCls (ktD K mg) X 3 "NoRoom" := by
  obtain ⟨c1, c2, c3, c4⟩ := He.exc_ok (kn.c.fact 55 (f := .exc "NoRoom") rfl)
  exact ⟨_, _, _, _, _, PySem.F.excBase_ValueError, by rw [hK]; exact c1, by rw [hm]; exact g_NoRoom kn, by rw [hK]; exact c2, raises_own (by rw [hK]; exact c3) (by rw [hK]; exact c4), rfl⟩
theorem ex_NoWay (kn : Kn K mg base) {X : Cx} (hK : X.K = K) (hm : X.mg = mg) : ExcCls (ktD K mg) X 4 "NoWay" := by
  obtain ⟨c1, c2, c3, c4⟩ := He.exc_ok (kn.c.fact 56 (f := .exc "NoWay") rfl)
  exact ⟨_, _, _, _, _, PySem.F.excBase_ValueError, by rw [hK]; exact c1, by rw [hm]; exact g_NoWay kn, by rw [hK]; exact c2, raises_own (by rw [hK]; exact c3) (by rw [hK]; exact c4), rfl⟩
theorem ex_BadDeed (kn : Kn K mg base) {X : Cx} (hK : X.K = K) (hm : X.mg = mg) : ExcCls (ktD K mg) X 5 "BadDeed" := by
  obtain ⟨c1, c2, c3, c4⟩ := He.exc_ok (kn.c.fact 57 (f := .exc "BadDeed") rfl)
  exact ⟨_, _, _, _, _, PySem.F.excBase_ValueError, by rw [hK]; exact c1, by rw [hm]; exact g_BadDeed kn, by rw [hK]; exact c2, raises_own (by rw [hK]; exact c3) (by rw [hK]; exact c4), rfl⟩
abbrev toldL (K : PySem.W.Frag) : List (Addr × PySem.Str) := [(He.ga K "BadSize", "size"), (He.ga K "BadCard", "card"), (He.ga K "BadPlan", "plan"), (He.ga K "NoSuch", "no such"), (He.ga K "NoRoom", "no room"), (He.ga K "NoWay", "no way"), (He.ga K "BadText", "text"), (He.ga K "BadDeed", "deed")]
def toldF (c : Ex) : Option PySem.Str := match c.cls with
  | 0 => some "plan"
  | 1 => some "size"
  | 2 => some "no such"
  | 3 => some "no room"
  | 4 => some "no way"
  | 5 => some "deed"
  | _ => none
theorem toldF_ok (kn : Kn K mg base) : ∀ c r, toldF c = some r → toldAt K ((ktD K mg).exc c.cls) (toldL K) = some r ∧ okStr r = true := by
  rintro ⟨i, row⟩ r h
  unfold toldF at h
  dsimp only at h
  split at h
  · cases h
    refine ⟨?_, by decide +kernel⟩
    show toldAt K (.ref (He.ga K "BadPlan")) _ = _
    simp only [toldAt, He.exm_ok (kn.c.fact 58 (f := .exm "BadPlan" "BadSize" false) rfl), He.exm_ok (kn.c.fact 59 (f := .exm "BadPlan" "BadCard" false) rfl), He.exm_ok (kn.c.fact 60 (f := .exm "BadPlan" "BadPlan" true) rfl)]
  · cases h
    refine ⟨?_, by decide +kernel⟩
    show toldAt K (.ref (He.ga K "BadSize")) _ = _
    simp only [toldAt, He.exm_ok (kn.c.fact 66 (f := .exm "BadSize" "BadSize" true) rfl)]
  · cases h
    refine ⟨?_, by decide +kernel⟩
    show toldAt K (.ref (He.ga K "NoSuch")) _ = _
    simp only [toldAt, He.exm_ok (kn.c.fact 74 (f := .exm "NoSuch" "BadSize" false) rfl), He.exm_ok (kn.c.fact 75 (f := .exm "NoSuch" "BadCard" false) rfl), He.exm_ok (kn.c.fact 76 (f := .exm "NoSuch" "BadPlan" false) rfl), He.exm_ok (kn.c.fact 77 (f := .exm "NoSuch" "NoSuch" true) rfl)]
  · cases h
    refine ⟨?_, by decide +kernel⟩
    show toldAt K (.ref (He.ga K "NoRoom")) _ = _
    simp only [toldAt, He.exm_ok (kn.c.fact 82 (f := .exm "NoRoom" "BadSize" false) rfl), He.exm_ok (kn.c.fact 83 (f := .exm "NoRoom" "BadCard" false) rfl), He.exm_ok (kn.c.fact 84 (f := .exm "NoRoom" "BadPlan" false) rfl), He.exm_ok (kn.c.fact 85 (f := .exm "NoRoom" "NoSuch" false) rfl), He.exm_ok (kn.c.fact 86 (f := .exm "NoRoom" "NoRoom" true) rfl)]
  · cases h
    refine ⟨?_, by decide +kernel⟩
    show toldAt K (.ref (He.ga K "NoWay")) _ = _
    simp only [toldAt, He.exm_ok (kn.c.fact 90 (f := .exm "NoWay" "BadSize" false) rfl), He.exm_ok (kn.c.fact 91 (f := .exm "NoWay" "BadCard" false) rfl), He.exm_ok (kn.c.fact 92 (f := .exm "NoWay" "BadPlan" false) rfl), He.exm_ok (kn.c.fact 93 (f := .exm "NoWay" "NoSuch" false) rfl), He.exm_ok (kn.c.fact 94 (f := .exm "NoWay" "NoRoom" false) rfl), He.exm_ok (kn.c.fact 95 (f := .exm "NoWay" "NoWay" true) rfl)]
  · cases h
    refine ⟨?_, by decide +kernel⟩
    show toldAt K (.ref (He.ga K "BadDeed")) _ = _
    simp only [toldAt, He.exm_ok (kn.c.fact 98 (f := .exm "BadDeed" "BadSize" false) rfl), He.exm_ok (kn.c.fact 99 (f := .exm "BadDeed" "BadCard" false) rfl), He.exm_ok (kn.c.fact 100 (f := .exm "BadDeed" "BadPlan" false) rfl), He.exm_ok (kn.c.fact 101 (f := .exm "BadDeed" "NoSuch" false) rfl), He.exm_ok (kn.c.fact 102 (f := .exm "BadDeed" "NoRoom" false) rfl), He.exm_ok (kn.c.fact 103 (f := .exm "BadDeed" "NoWay" false) rfl), He.exm_ok (kn.c.fact 104 (f := .exm "BadDeed" "BadText" false) rfl), He.exm_ok (kn.c.fact 105 (f := .exm "BadDeed" "BadDeed" true) rfl)]
  · cases h
def toldNg : List PySem.Str := ["what"]
theorem sc_told : FnScope toldNg ["what"] (defScope s__law_told) := ⟨rfl, rfl, rfl, by decide +kernel, rfl, by decide +kernel, by decide +kernel⟩
theorem toldD (kn : Kn K mg base) : ToldD (ktD K mg) "_law_told" "what" (He.ga K "_law_told") toldNg (defScope s__law_told) (defBody s__law_told) (toldL K) := by
  obtain ⟨fd, ⟨oc, od, dV, kV, doc, pm, an, cdv, ct, osl, rfl, lk, hcd, hdv, hkw⟩, kp⟩ := kn.c.def_ 20 (d := d__law_told) rfl
  refine ⟨⟨oc, od, _, dV, kV, doc, pm, an, cdv, ct, osl, lk, hcd, ?_⟩, kp, g__law_told kn, sc_told, rfl, .inl rfl⟩
  have hd : dV = .none := by
    rcases hdv with ⟨_, e⟩ | ⟨e, _⟩
    · exact e
    · exact absurd rfl e
  subst hd
  exact .all fun us hl => match us, hl with | [_], _ => rfl
theorem toldH (kn : Kn K mg base) {X : Cx} (hK : X.K = K) (hm : X.mg = mg) (hb : X.base = base) (cdv : Value) (s : Shared) (H : Hp) :
    HdsOk (cxOf C8.CX0 X.prog X.w X.K X.mg X.base toldNg "_law_told" (defScope s__law_told) (He.ga K "_law_told") cdv X.A X.stack s H C8.E0).nox
      ((match defBody s__law_told with | [.Try _ hs _ _ _] => hs | _ => []) ) (hdsL (toldL K)) := by
  have hmg : ∀ x, X.mg x = mg x := fun x => by rw [hm]
  exact (.cons ⟨rfl, by decide, .inl ((hmg _).trans (g_BadSize kn))⟩ (fun a oe cls d pn _ _ => pss_one (ps_ret pe_str))
    (.cons ⟨rfl, by decide, .inl ((hmg _).trans (g_BadCard kn))⟩ (fun a oe cls d pn _ _ => pss_one (ps_ret pe_str))
    (.cons ⟨rfl, by decide, .inl ((hmg _).trans (g_BadPlan kn))⟩ (fun a oe cls d pn _ _ => pss_one (ps_ret pe_str))
    (.cons ⟨rfl, by decide, .inl ((hmg _).trans (g_NoSuch kn))⟩ (fun a oe cls d pn _ _ => pss_one (ps_ret pe_str))
    (.cons ⟨rfl, by decide, .inl ((hmg _).trans (g_NoRoom kn))⟩ (fun a oe cls d pn _ _ => pss_one (ps_ret pe_str))
    (.cons ⟨rfl, by decide, .inl ((hmg _).trans (g_NoWay kn))⟩ (fun a oe cls d pn _ _ => pss_one (ps_ret pe_str))
    (.cons ⟨rfl, by decide, .inl ((hmg _).trans (g_BadText kn))⟩ (fun a oe cls d pn _ _ => pss_one (ps_ret pe_str))
    (.cons ⟨rfl, by decide, .inl ((hmg _).trans (g_BadDeed kn))⟩ (fun a oe cls d pn _ _ => pss_one (ps_ret pe_str))
    .nil))))))))
theorem tabB (kn : Kn K mg base) (i : Nat) {p : He.Defn} (h : tf[i]? = some p) : TabB base mg (He.cT K p).1 (He.cT K p).2 := kn.tb p (List.mem_of_getElem? h)
theorem memT (i : Nat) {p : He.Defn × PySem.Str} (h : tbN[i]? = some p := by rfl) : ((He.cT K p.1).2, p.2) ∈ tblL K := List.mem_map.mpr ⟨p, List.mem_of_getElem? h, rfl⟩
theorem uniqT (kn : Kn K mg base) (i : Nat) {p : He.Defn × PySem.Str} (h : tbN[i]? = some p := by rfl) : ∀ q ∈ tblL K, q.1 = (He.cT K p.1).2 → q.2 = p.2 := by
  intro q hq e
  have nd : (tbN.map fun p => (He.cT K p.1).2).Nodup := of_decide_eq_true kn.ap
  obtain ⟨q', hq', rfl⟩ := List.mem_map.mp hq
  obtain ⟨j, hj, ej⟩ := List.mem_iff_getElem.mp hq'
  have hi := (List.getElem?_eq_some_iff.mp h)
  obtain ⟨hi1, hi2⟩ := hi
  have e2 : (He.cT K tbN[i].1).2 = (He.cT K tbN[j].1).2 := by
    rw [hi2, ej]; exact e.symm
  have pw := List.pairwise_iff_getElem.mp nd
  rcases Nat.lt_trichotomy i j with z | z | z
  · exact absurd (by rw [List.getElem_map, List.getElem_map]; exact e2) (pw i j (by rw [List.length_map]; exact hi1) (by rw [List.length_map]; exact hj) z)
  · subst z
    rw [← ej, hi2]
  · exact absurd (by rw [List.getElem_map, List.getElem_map]; exact e2.symm) (pw j i (by rw [List.length_map]; exact hj) (by rw [List.length_map]; exact hi1) z)

end
def isi_str (n : String) : Option Bool := kitB n "str"
theorem isi_str_ok {K : PySem.W.Frag} : ∀ n b, isi_str n = some b → PySem.W.kitOne K (.type n) (.type "str") = some b := fun n b h => kit_ty h
def isi_int (n : String) : Option Bool := kitB n "int"
theorem isi_int_ok {K : PySem.W.Frag} : ∀ n b, isi_int n = some b → PySem.W.kitOne K (.type n) (.type "int") = some b := fun n b h => kit_ty h
theorem boot_str : bootBuiltins "str" = some (.type "str") := by kernel_rfl
theorem boot_int : bootBuiltins "int" = some (.type "int") := by kernel_rfl
abbrev fuelN : Nat := 4096
end CardH
end
section
set_option maxHeartbeats 0
namespace CardH
open PySem PySem.Spec PyProof.Rows L2 LamX

section
variable {P : Program} {w : World} {K : PySem.W.Frag} {mg : PySem.Str → Option Value} {base : Heap}
def N_House___init__ : List PySem.Str := ["self", "wide"]
def D_House___init__ : DS := (dSeq (dIfS (dTB (dBin vLt (dVar 1) (dC (.int 1))))
    (dRaise (dxC 0))
    dNext)
    (dSeq (dSetF 0 0 (dVar 1) (dVar 0))
    (dSeq (dSetF 0 1 (dTup daNil) (dVar 0))
    (dSetF 0 2 (dTup daNil) (dVar 0)))))
def M_House___init__ : FT := runF 2 D_House___init__
theorem sc_House___init__ : FnScope N_House___init__ ["self", "wide"] (defScope s_House___init__) := ⟨rfl, rfl, rfl, by decide +kernel, rfl, by decide +kernel, by decide +kernel⟩
theorem F_House___init__ (kn : Kn K mg base) : DFn P w base (ktD K mg) 1 (He.ma K (He.ga K "House") "__init__") 2 M_House___init__ := by
  refine DFn.ofD (kt := ktD K mg) (pp := ("House", some "__init__")) (kn.c.def_ 0 (d := d_House___init__) rfl) sc_House___init__ (fun _ _ _ _ _ _ _ us hl => match us, hl with | [_, _], _ => rfl) D_House___init__ (fun A outer s H E W0 hr => ?_)
  have nd : N_House___init__.Nodup := sc_House___init__.nd
  exact (sss_cons (ss_if (st_cmp (ops_lt (room_hu hr).1) (sx_var 1) sx_int)
    (sss_one (ss_raise rfl (smk_own 0 (ex_BadPlan kn rfl rfl))))
    sss_nil)
    (sss_cons (ss_setF 0 0 ndN rfl (na_House_wide kn) (sx_var 1) (sx_var 0))
    (sss_cons (ss_setF 0 1 ndN rfl (na_House_tents kn) (sx_tup sa_nil) (sx_var 0))
    (sss_one (ss_setF 0 2 ndN rfl (na_House_flats kn) (sx_tup sa_nil) (sx_var 0))))))
def N_House_lean : List PySem.Str := ["self", "storey", "place"]
def D_House_lean : DS := (dSeq (dIfS (dOr (dNot (dTB (dChain vLe vLt (dC (.int 0)) (dVar 1) (dFld 0 (dVar 0))))) (dNot (dTB (dChain vLe vLt (dC (.int 0)) (dVar 2) (dBin vSub (dFld 0 (dVar 0)) (dVar 1))))))
    (dRaise (dxC 2))
    dNext)
    (dSeq (dIfS (dTB (dBin vInV (dTup (daCons (dVar 1) (daCons (dVar 2) daNil))) (dFld 1 (dVar 0))))
    (dRaise (dxC 5))
    dNext)
    (dSeq (dIfS (dAnd (dTB (dBin vGt (dVar 1) (dC (.int 0)))) (dTB (dBin vNotInV (dTup (daCons (dBin vSub (dVar 1) (dC (.int 1))) (daCons (dVar 2) daNil))) (dFld 2 (dVar 0)))))
    (dRaise (dxC 3))
    dNext)
    (dSetF 0 1 (dFn oTuple (daCons (dFn oSortV (daCons (dBin vAdd (dFld 1 (dVar 0)) (dTup (daCons (dTup (daCons (dVar 1) (daCons (dVar 2) daNil))) daNil))) daNil)) daNil)) (dVar 0)))))
def M_House_lean : FT := runF 3 D_House_lean
theorem sc_House_lean : FnScope N_House_lean ["self", "storey", "place"] (defScope s_House_lean) := ⟨rfl, rfl, rfl, by decide +kernel, rfl, by decide +kernel, by decide +kernel⟩
theorem F_House_lean (kn : Kn K mg base) : DFn P w base (ktD K mg) 1 (He.ma K (He.ga K "House") "lean") 3 M_House_lean := by
  refine DFn.ofD (kt := ktD K mg) (pp := ("House", some "lean")) (kn.c.def_ 1 (d := d_House_lean) rfl) sc_House_lean (fun _ _ _ _ _ _ _ us hl => match us, hl with | [_, _, _], _ => rfl) D_House_lean (fun A outer s H E W0 hr => ?_)
  have nd : N_House_lean.Nodup := sc_House_lean.nd
  exact (sss_cons (ss_if (st_w (sw_or (st_not (st_chain (ops_le (room_hu hr).1) (ops_lt (room_hu hr).1) sx_int (sx_var 1) (sx_fld 0 ndN (sx_var 0)))) (sw_or1 (st_not (st_chain (ops_le (room_hu hr).1) (ops_lt (room_hu hr).1) sx_int (sx_var 2) (sx_bin ops_sub (sx_fld 0 ndN (sx_var 0)) (sx_var 1)))))))
    (sss_one (ss_raise rfl (smk_own 2 (ex_NoSuch kn rfl rfl))))
    sss_nil)
    (sss_cons (ss_if (st_cmp (ops_in (room_hu hr).2.1) (sx_tup (sa_cons (sx_var 1) (sa_cons (sx_var 2) sa_nil))) (sx_fld 1 ndN (sx_var 0)))
    (sss_one (ss_raise rfl (smk_own 5 (ex_BadDeed kn rfl rfl))))
    sss_nil)
    (sss_cons (ss_if (st_w (sw_and (st_cmp (ops_gt (room_hu hr).1) (sx_var 1) sx_int) (sw_and1 (st_cmp (ops_notIn (room_hu hr).2.1) (sx_tup (sa_cons (sx_bin ops_sub (sx_var 1) sx_int) (sa_cons (sx_var 2) sa_nil))) (sx_fld 2 ndN (sx_var 0))))))
    (sss_one (ss_raise rfl (smk_own 3 (ex_NoRoom kn rfl rfl))))
    sss_nil)
    (sss_one (ss_setF 0 1 ndN rfl (na_House_tents kn) (sx_ty fn_tuple (sa_cons (sx_fn (fn_sortV (room_hu hr).1) (sa_cons (sx_bin ops_add (sx_fld 1 ndN (sx_var 0)) (sx_tup (sa_cons (sx_tup (sa_cons (sx_var 1) (sa_cons (sx_var 2) sa_nil))) sa_nil))) sa_nil) (hm := m_sorted kn)) sa_nil) (hm := m_tuple kn)) (sx_var 0))))))
def N_House_lay : List PySem.Str := ["self", "storey", "place"]
def D_House_lay : DS := (dSeq (dIfS (dOr (dNot (dTB (dChain vLe vLt (dC (.int 0)) (dVar 1) (dFld 0 (dVar 0))))) (dNot (dTB (dChain vLe vLt (dC (.int 0)) (dVar 2) (dBin vSub (dBin vSub (dFld 0 (dVar 0)) (dVar 1)) (dC (.int 1)))))))
    (dRaise (dxC 2))
    dNext)
    (dSeq (dIfS (dTB (dBin vInV (dTup (daCons (dVar 1) (daCons (dVar 2) daNil))) (dFld 2 (dVar 0))))
    (dRaise (dxC 5))
    dNext)
    (dSeq (dIfS (dOr (dTB (dBin vNotInV (dTup (daCons (dVar 1) (daCons (dVar 2) daNil))) (dFld 1 (dVar 0)))) (dTB (dBin vNotInV (dTup (daCons (dVar 1) (daCons (dBin vAdd (dVar 2) (dC (.int 1))) daNil))) (dFld 1 (dVar 0)))))
    (dRaise (dxC 3))
    dNext)
    (dSetF 0 2 (dFn oTuple (daCons (dFn oSortV (daCons (dBin vAdd (dFld 2 (dVar 0)) (dTup (daCons (dTup (daCons (dVar 1) (daCons (dVar 2) daNil))) daNil))) daNil)) daNil)) (dVar 0)))))
def M_House_lay : FT := runF 3 D_House_lay
theorem sc_House_lay : FnScope N_House_lay ["self", "storey", "place"] (defScope s_House_lay) := ⟨rfl, rfl, rfl, by decide +kernel, rfl, by decide +kernel, by decide +kernel⟩
theorem F_House_lay (kn : Kn K mg base) : DFn P w base (ktD K mg) 1 (He.ma K (He.ga K "House") "lay") 3 M_House_lay := by
  refine DFn.ofD (kt := ktD K mg) (pp := ("House", some "lay")) (kn.c.def_ 2 (d := d_House_lay) rfl) sc_House_lay (fun _ _ _ _ _ _ _ us hl => match us, hl with | [_, _, _], _ => rfl) D_House_lay (fun A outer s H E W0 hr => ?_)
  have nd : N_House_lay.Nodup := sc_House_lay.nd
  exact (sss_cons (ss_if (st_w (sw_or (st_not (st_chain (ops_le (room_hu hr).1) (ops_lt (room_hu hr).1) sx_int (sx_var 1) (sx_fld 0 ndN (sx_var 0)))) (sw_or1 (st_not (st_chain (ops_le (room_hu hr).1) (ops_lt (room_hu hr).1) sx_int (sx_var 2) (sx_bin ops_sub (sx_bin ops_sub (sx_fld 0 ndN (sx_var 0)) (sx_var 1)) sx_int))))))
    (sss_one (ss_raise rfl (smk_own 2 (ex_NoSuch kn rfl rfl))))
    sss_nil)
    (sss_cons (ss_if (st_cmp (ops_in (room_hu hr).2.1) (sx_tup (sa_cons (sx_var 1) (sa_cons (sx_var 2) sa_nil))) (sx_fld 2 ndN (sx_var 0)))
    (sss_one (ss_raise rfl (smk_own 5 (ex_BadDeed kn rfl rfl))))
    sss_nil)
    (sss_cons (ss_if (st_w (sw_or (st_cmp (ops_notIn (room_hu hr).2.1) (sx_tup (sa_cons (sx_var 1) (sa_cons (sx_var 2) sa_nil))) (sx_fld 1 ndN (sx_var 0))) (sw_or1 (st_cmp (ops_notIn (room_hu hr).2.1) (sx_tup (sa_cons (sx_var 1) (sa_cons (sx_bin ops_add (sx_var 2) sx_int) sa_nil))) (sx_fld 1 ndN (sx_var 0))))))
    (sss_one (ss_raise rfl (smk_own 3 (ex_NoRoom kn rfl rfl))))
    sss_nil)
    (sss_one (ss_setF 0 2 ndN rfl (na_House_flats kn) (sx_ty fn_tuple (sa_cons (sx_fn (fn_sortV (room_hu hr).1) (sa_cons (sx_bin ops_add (sx_fld 2 ndN (sx_var 0)) (sx_tup (sa_cons (sx_tup (sa_cons (sx_var 1) (sa_cons (sx_var 2) sa_nil))) sa_nil))) sa_nil) (hm := m_sorted kn)) sa_nil) (hm := m_tuple kn)) (sx_var 0))))))
def N_House_card_count : List PySem.Str := ["self"]
def D_House_card_count : DS := (dRet (dBin vAdd (dBin vMul (dC (.int 2)) (dFn oLen (daCons (dFld 1 (dVar 0)) daNil))) (dFn oLen (daCons (dFld 2 (dVar 0)) daNil))))
def M_House_card_count : FT := runF 1 D_House_card_count
theorem sc_House_card_count : FnScope N_House_card_count ["self"] (defScope s_House_card_count) := ⟨rfl, rfl, rfl, by decide +kernel, rfl, by decide +kernel, by decide +kernel⟩
theorem F_House_card_count (kn : Kn K mg base) : DFn P w base (ktD K mg) 1 (He.ma K (He.ga K "House") "card_count") 1 M_House_card_count := by
  refine DFn.ofD (kt := ktD K mg) (pp := ("House", some "card_count")) (kn.c.def_ 4 (d := d_House_card_count) rfl) sc_House_card_count (fun _ _ _ _ _ _ _ us hl => match us, hl with | [_], _ => rfl) D_House_card_count (fun A outer s H E W0 hr => ?_)
  have nd : N_House_card_count.Nodup := sc_House_card_count.nd
  exact (sss_one (ss_ret (sx_bin ops_add (sx_bin ops_mul sx_int (sx_fn fn_len (sa_cons (sx_fld 1 ndN (sx_var 0)) sa_nil) (hm := m_len kn))) (sx_fn fn_len (sa_cons (sx_fld 2 ndN (sx_var 0)) sa_nil) (hm := m_len kn)))))
def C1_House_knock : DE := (dLc [9] (diVal (dFld 1 (dVar 0))) (gSet 9) (dTB (dBin vNe (dVar 9) (dTup (daCons (dVar 1) (daCons (dVar 2) daNil))))) (dVar 9))
def T4_1_House_knock : DS := (dIfS (dOr (dTB (dBin vNe (dIx (dVar 6) (dC (.int 0))) (dVar 4))) (dTest (dVar 8)))
    (dApp 5 (dVar 6))
    dNext)
def T4_0_House_knock : DS := (dSeq (dAsg (dAndV (dBin vInV (dVar 6) (dFld 1 (dVar 0))) (dBin vInV (dTup (daCons (dIx (dVar 6) (dC (.int 0))) (daCons (dBin vAdd (dIx (dVar 6) (dC (.int 1))) (dC (.int 1))) daNil))) (dFld 1 (dVar 0)))) (gSet 8))
    T4_1_House_knock)
def C2_House_knock : DE := (dLc [10] (diVal (dVar 7)) (gSet 10) (dOr (dTB (dBin vNe (dIx (dVar 10) (dC (.int 0))) (dBin vAdd (dVar 4) (dC (.int 1))))) (dTB (dBin vInV (dTup (daCons (dVar 4) (daCons (dIx (dVar 10) (dC (.int 1))) daNil))) (dFld 2 (dVar 0))))) (dVar 10))
def T3_4_House_knock : DS := (dSetF 0 1 (dFn oTuple (daCons C2_House_knock daNil)) (dVar 0))
def T3_3_House_knock : DS := (dSeq (dAsg (dFld 1 (dVar 0)) (gSet 7))
    T3_4_House_knock)
def T3_2_House_knock : DS := (dSeq (dSetF 0 2 (dFn oTuple (daCons (dPk 5) daNil)) (dVar 0))
    T3_3_House_knock)
def T3_1_House_knock : DS := (dSeq (dFor (diVal (dFld 2 (dVar 0))) (gSet 6)
    T4_0_House_knock)
    T3_2_House_knock)
def T3_0_House_knock : DS := (dSeq (dOwnL 5 daNil)
    T3_1_House_knock)
def T1_4_House_knock : DS := (dRet (dBin vSub (dVar 3) (dMeth 0 1 M_House_card_count (dVar 0) daNil)))
def T1_3_House_knock : DS := (dSeq (dFor (diRng rng2 (daCons (dVar 1) (daCons (dFld 0 (dVar 0)) daNil))) (gSet 4)
    T3_0_House_knock)
    T1_4_House_knock)
def T1_2_House_knock : DS := (dSeq (dSetF 0 1 (dFn oTuple (daCons C1_House_knock daNil)) (dVar 0))
    T1_3_House_knock)
def T1_1_House_knock : DS := (dSeq (dAsg (dMeth 0 1 M_House_card_count (dVar 0) daNil) (gSet 3))
    T1_2_House_knock)
def N_House_knock : List PySem.Str := ["self", "storey", "place", "before", "level", "kept", "flat", "rows", "held", "tent", "one"]
def D_House_knock : DS := (dSeq (dIfS (dTB (dBin vNotInV (dTup (daCons (dVar 1) (daCons (dVar 2) daNil))) (dFld 1 (dVar 0))))
    (dRaise (dxC 5))
    dNext)
    T1_1_House_knock)
def M_House_knock : FT := runF 11 D_House_knock
theorem sc_House_knock : FnScope N_House_knock ["self", "storey", "place"] (defScope s_House_knock) := ⟨rfl, rfl, rfl, by decide +kernel, rfl, by decide +kernel, by decide +kernel⟩
theorem F_House_knock (kn : Kn K mg base) : DFn P w base (ktD K mg) 2 (He.ma K (He.ga K "House") "knock") 3 M_House_knock := by
  refine DFn.ofD (kt := ktD K mg) (pp := ("House", some "knock")) (kn.c.def_ 3 (d := d_House_knock) rfl) sc_House_knock (fun _ _ _ _ _ _ _ us hl => match us, hl with | [_, _, _], _ => rfl) D_House_knock (fun A outer s H E W0 hr => ?_)
  have nd : N_House_knock.Nodup := sc_House_knock.nd
  exact (sss_cons (ss_if (st_cmp (ops_notIn (room_hu hr).2.1) (sx_tup (sa_cons (sx_var 1) (sa_cons (sx_var 2) sa_nil))) (sx_fld 1 ndN (sx_var 0)))
    (sss_one (ss_raise rfl (smk_own 5 (ex_BadDeed kn rfl rfl))))
    sss_nil)
    (sss_cons (ss_set 3 nd (sx_meth0 0 (mt_House_card_count kn) (F_House_card_count kn) (hr.mono (by decide)) rfl rfl (sx_var 0)))
    (sss_cons (ss_setF 0 1 ndN rfl (na_House_tents kn) (sx_ty fn_tuple (sa_cons (sx_lc (own := [("tent", 9)]) rfl nd (si_val (sx_fld 1 ndN (sx_var 0))) (by kernel_rfl) (fun _ _ _ _ _ => (sg_name 9 nd)) (fun _ _ _ _ _ => (sts_one (st_cmp (ops_ne (room_hu hr).1) (sx_var 9) (sx_tup (sa_cons (sx_var 1) (sa_cons (sx_var 2) sa_nil)))))) (fun _ _ _ _ _ => (sx_var 9))) sa_nil) (hm := m_tuple kn)) (sx_var 0))
    (sss_cons (ss_for passes_cx rfl (si_r2 (sa_cons (sx_var 1) (sa_cons (sx_fld 0 ndN (sx_var 0)) sa_nil)) (hm := m_range kn)) (sg_name 4 nd)
    (sss_cons (ss_ownL 5 nd sa_nil)
    (sss_cons (ss_for passes_cx rfl (si_val (sx_fld 2 ndN (sx_var 0))) (sg_name 6 nd)
    (sss_cons (ss_set 8 nd (sx_and (sx_cmp (ops_in (room_hu hr).2.1) (sx_var 6) (sx_fld 1 ndN (sx_var 0))) (sx_one (sx_cmp (ops_in (room_hu hr).2.1) (sx_tup (sa_cons (sx_ix (room_hu hr).2.2 (sx_var 6) sx_int) (sa_cons (sx_bin ops_add (sx_ix (room_hu hr).2.2 (sx_var 6) sx_int) sx_int) sa_nil))) (sx_fld 1 ndN (sx_var 0))))))
    (sss_one (ss_if (st_w (sw_or (st_cmp (ops_ne (room_hu hr).1) (sx_ix (room_hu hr).2.2 (sx_var 6) sx_int) (sx_var 4)) (sw_or1 (st_val (sx_var 8)))))
    (sss_one (ss_app 5 (sx_var 6)))
    sss_nil))))
    (sss_cons (ss_setF 0 2 ndN rfl (na_House_flats kn) (sx_ty fn_tuple (sa_cons (sx_peek 5) sa_nil) (hm := m_tuple kn)) (sx_var 0))
    (sss_cons (ss_set 7 nd (sx_fld 1 ndN (sx_var 0)))
    (sss_one (ss_setF 0 1 ndN rfl (na_House_tents kn) (sx_ty fn_tuple (sa_cons (sx_lc (own := [("one", 10)]) rfl nd (si_val (sx_var 7)) (by kernel_rfl) (fun _ _ _ _ _ => (sg_name 10 nd)) (fun _ _ _ _ _ => (sts_one (st_w (sw_or (st_cmp (ops_ne (room_hu hr).1) (sx_ix (room_hu hr).2.2 (sx_var 10) sx_int) (sx_bin ops_add (sx_var 4) sx_int)) (sw_or1 (st_cmp (ops_in (room_hu hr).2.1) (sx_tup (sa_cons (sx_var 4) (sa_cons (sx_ix (room_hu hr).2.2 (sx_var 10) sx_int) sa_nil))) (sx_fld 2 ndN (sx_var 0)))))))) (fun _ _ _ _ _ => (sx_var 10))) sa_nil) (hm := m_tuple kn)) (sx_var 0))))))))
    (sss_one (ss_ret (sx_bin ops_sub (sx_var 3) (sx_meth0 0 (mt_House_card_count kn) (F_House_card_count kn) (hr.mono (by decide)) rfl rfl (sx_var 0)))))))))
def N_House_storeys : List PySem.Str := ["self", "storey", "place"]
def D_House_storeys : DS := (dRet (dFn oLen (daCons (dDictV (daCons (dLc [1, 2] (diVal (dFld 1 (dVar 0))) (gUn 2 (gsCons (gSet 1) (gsCons (gSet 2) gsNil))) dYes (dTup (daCons (dVar 1) (daCons (dC (.int 1)) daNil)))) daNil)) daNil)))
def M_House_storeys : FT := runF 3 D_House_storeys
theorem sc_House_storeys : FnScope N_House_storeys ["self"] (defScope s_House_storeys) := ⟨rfl, rfl, rfl, by decide +kernel, rfl, by decide +kernel, by decide +kernel⟩
theorem F_House_storeys (kn : Kn K mg base) : DFn P w base (ktD K mg) 1 (He.ma K (He.ga K "House") "storeys") 1 M_House_storeys := by
  refine DFn.ofD (kt := ktD K mg) (pp := ("House", some "storeys")) (kn.c.def_ 5 (d := d_House_storeys) rfl) sc_House_storeys (fun _ _ _ _ _ _ _ us hl => match us, hl with | [_], _ => rfl) D_House_storeys (fun A outer s H E W0 hr => ?_)
  have nd : N_House_storeys.Nodup := sc_House_storeys.nd
  exact (sss_one (ss_ret (sx_fn fn_len (sa_cons (sx_dictV rfl (sa_cons (sx_lc (own := [("storey", 1), ("place", 2)]) rfl nd (si_val (sx_fld 1 ndN (sx_var 0))) (by kernel_rfl) (fun _ _ _ _ _ => (sg_tup rfl (sgs_cons (sg_name 1 nd) (sgs_cons (sg_name 2 nd) sgs_nil)))) (fun _ _ _ _ _ => sts_nil) (fun _ _ _ _ _ => (sx_tup (sa_cons (sx_var 1) (sa_cons sx_int sa_nil))))) sa_nil) (hm := m_dict kn)) sa_nil) (hm := m_len kn))))
def N_cards_for : List PySem.Str := ["storeys"]
def D_cards_for : DS := (dSeq (dIfS (dTB (dBin vLt (dVar 0) (dC (.int 1))))
    (dRaise (dxC 1))
    dNext)
    (dRet (dBin vAdd (dBin vMul (dVar 0) (dBin vAdd (dVar 0) (dC (.int 1)))) (dBin vFdiv (dBin vMul (dVar 0) (dBin vSub (dVar 0) (dC (.int 1)))) (dC (.int 2))))))
def M_cards_for : FT := runF 1 D_cards_for
theorem sc_cards_for : FnScope N_cards_for ["storeys"] (defScope s_cards_for) := ⟨rfl, rfl, rfl, by decide +kernel, rfl, by decide +kernel, by decide +kernel⟩
theorem F_cards_for (kn : Kn K mg base) : DFn P w base (ktD K mg) 1 (He.ga K "cards_for") 1 M_cards_for := by
  refine DFn.ofD (kt := ktD K mg) (pp := ("cards_for", none)) (kn.c.def_ 10 (d := d_cards_for) rfl) sc_cards_for (fun _ _ _ _ _ _ _ us hl => match us, hl with | [_], _ => rfl) D_cards_for (fun A outer s H E W0 hr => ?_)
  have nd : N_cards_for.Nodup := sc_cards_for.nd
  exact (sss_cons (ss_if (st_cmp (ops_lt (room_hu hr).1) (sx_var 0) sx_int)
    (sss_one (ss_raise rfl (smk_own 1 (ex_BadSize kn rfl rfl))))
    sss_nil)
    (sss_one (ss_ret (sx_bin ops_add (sx_bin ops_mul (sx_var 0) (sx_bin ops_add (sx_var 0) sx_int)) (sx_bin ops_fdiv (sx_bin ops_mul (sx_var 0) (sx_bin ops_sub (sx_var 0) sx_int)) sx_int)))))
def N_House_whole : List PySem.Str := ["self"]
def D_House_whole : DS := (dRet (dBin vEq (dMeth 0 1 M_House_card_count (dVar 0) daNil) (dCall 1 M_cards_for (daCons (dFld 0 (dVar 0)) daNil))))
def M_House_whole : FT := runF 1 D_House_whole
theorem sc_House_whole : FnScope N_House_whole ["self"] (defScope s_House_whole) := ⟨rfl, rfl, rfl, by decide +kernel, rfl, by decide +kernel, by decide +kernel⟩
theorem F_House_whole (kn : Kn K mg base) : DFn P w base (ktD K mg) 2 (He.ma K (He.ga K "House") "whole") 1 M_House_whole := by
  refine DFn.ofD (kt := ktD K mg) (pp := ("House", some "whole")) (kn.c.def_ 6 (d := d_House_whole) rfl) sc_House_whole (fun _ _ _ _ _ _ _ us hl => match us, hl with | [_], _ => rfl) D_House_whole (fun A outer s H E W0 hr => ?_)
  have nd : N_House_whole.Nodup := sc_House_whole.nd
  exact (sss_one (ss_ret (sx_cmp (ops_eq (room_hu hr).1) (sx_meth0 0 (mt_House_card_count kn) (F_House_card_count kn) (hr.mono (by decide)) rfl rfl (sx_var 0)) (sx_call (F_cards_for kn) (hr.mono (by decide)) (g_cards_for kn) rfl rfl (sa_cons (sx_fld 0 ndN (sx_var 0)) sa_nil)))))
def N_House_free : List PySem.Str := ["self", "found", "storey", "place", "held"]
def D_House_free : DS := (dSeq (dOwnL 1 daNil)
    (dSeq (dFor (diRng rng1 (daCons (dFld 0 (dVar 0)) daNil)) (gSet 2)
    (dFor (diRng rng1 (daCons (dBin vSub (dFld 0 (dVar 0)) (dVar 2)) daNil)) (gSet 3)
    (dSeq (dAsg (dOrV (dBin vEq (dVar 2) (dC (.int 0))) (dBin vInV (dTup (daCons (dBin vSub (dVar 2) (dC (.int 1))) (daCons (dVar 3) daNil))) (dFld 2 (dVar 0)))) (gSet 4))
    (dIfS (dAnd (dTest (dVar 4)) (dTB (dBin vNotInV (dTup (daCons (dVar 2) (daCons (dVar 3) daNil))) (dFld 1 (dVar 0)))))
    (dApp 1 (dTup (daCons (dVar 2) (daCons (dVar 3) daNil))))
    dNext))))
    (dRet (dFn oTuple (daCons (dPk 1) daNil)))))
def M_House_free : FT := runF 5 D_House_free
theorem sc_House_free : FnScope N_House_free ["self"] (defScope s_House_free) := ⟨rfl, rfl, rfl, by decide +kernel, rfl, by decide +kernel, by decide +kernel⟩
theorem F_House_free (kn : Kn K mg base) : DFn P w base (ktD K mg) 1 (He.ma K (He.ga K "House") "free") 1 M_House_free := by
  refine DFn.ofD (kt := ktD K mg) (pp := ("House", some "free")) (kn.c.def_ 7 (d := d_House_free) rfl) sc_House_free (fun _ _ _ _ _ _ _ us hl => match us, hl with | [_], _ => rfl) D_House_free (fun A outer s H E W0 hr => ?_)
  have nd : N_House_free.Nodup := sc_House_free.nd
  exact (sss_cons (ss_ownL 1 nd sa_nil)
    (sss_cons (ss_for passes_cx rfl (si_r1 (sa_cons (sx_fld 0 ndN (sx_var 0)) sa_nil) (hm := m_range kn)) (sg_name 2 nd)
    (sss_one (ss_for passes_cx rfl (si_r1 (sa_cons (sx_bin ops_sub (sx_fld 0 ndN (sx_var 0)) (sx_var 2)) sa_nil) (hm := m_range kn)) (sg_name 3 nd)
    (sss_cons (ss_set 4 nd (sx_or (sx_cmp (ops_eq (room_hu hr).1) (sx_var 2) sx_int) (sx_one (sx_cmp (ops_in (room_hu hr).2.1) (sx_tup (sa_cons (sx_bin ops_sub (sx_var 2) sx_int) (sa_cons (sx_var 3) sa_nil))) (sx_fld 2 ndN (sx_var 0))))))
    (sss_one (ss_if (st_w (sw_and (st_val (sx_var 4)) (sw_and1 (st_cmp (ops_notIn (room_hu hr).2.1) (sx_tup (sa_cons (sx_var 2) (sa_cons (sx_var 3) sa_nil))) (sx_fld 1 ndN (sx_var 0))))))
    (sss_one (ss_app 1 (sx_tup (sa_cons (sx_var 2) (sa_cons (sx_var 3) sa_nil)))))
    sss_nil))))))
    (sss_one (ss_ret (sx_ty fn_tuple (sa_cons (sx_peek 1) sa_nil) (hm := m_tuple kn))))))
def N_House_bears : List PySem.Str := ["self", "storey", "place", "many", "level", "at"]
def D_House_bears : DS := (dSeq (dIfS (dTB (dBin vNotInV (dTup (daCons (dVar 1) (daCons (dVar 2) daNil))) (dFld 1 (dVar 0))))
    (dRaise (dxC 5))
    dNext)
    (dSeq (dAsg (dC (.int 0)) (gSet 3))
    (dSeq (dFor (diVal (dFld 1 (dVar 0))) (gUn 2 (gsCons (gSet 4) (gsCons (gSet 5) gsNil)))
    (dIfS (dAnd (dTB (dBin vGt (dVar 4) (dVar 1))) (dTB (dChain vLe vLe (dBin vSub (dVar 2) (dBin vSub (dVar 4) (dVar 1))) (dVar 5) (dVar 2))))
    (dAug 3 vAddI (dC (.int 2)))
    dNext))
    (dSeq (dFor (diVal (dFld 2 (dVar 0))) (gUn 2 (gsCons (gSet 4) (gsCons (gSet 5) gsNil)))
    (dIfS (dAnd (dTB (dBin vGe (dVar 4) (dVar 1))) (dTB (dChain vLe vLe (dBin vSub (dBin vSub (dVar 2) (dBin vSub (dVar 4) (dVar 1))) (dC (.int 1))) (dVar 5) (dVar 2))))
    (dAug 3 vAddI (dC (.int 1)))
    dNext))
    (dRet (dVar 3))))))
def M_House_bears : FT := runF 6 D_House_bears
theorem sc_House_bears : FnScope N_House_bears ["self", "storey", "place"] (defScope s_House_bears) := ⟨rfl, rfl, rfl, by decide +kernel, rfl, by decide +kernel, by decide +kernel⟩
theorem F_House_bears (kn : Kn K mg base) : DFn P w base (ktD K mg) 1 (He.ma K (He.ga K "House") "bears") 3 M_House_bears := by
  refine DFn.ofD (kt := ktD K mg) (pp := ("House", some "bears")) (kn.c.def_ 8 (d := d_House_bears) rfl) sc_House_bears (fun _ _ _ _ _ _ _ us hl => match us, hl with | [_, _, _], _ => rfl) D_House_bears (fun A outer s H E W0 hr => ?_)
  have nd : N_House_bears.Nodup := sc_House_bears.nd
  exact (sss_cons (ss_if (st_cmp (ops_notIn (room_hu hr).2.1) (sx_tup (sa_cons (sx_var 1) (sa_cons (sx_var 2) sa_nil))) (sx_fld 1 ndN (sx_var 0)))
    (sss_one (ss_raise rfl (smk_own 5 (ex_BadDeed kn rfl rfl))))
    sss_nil)
    (sss_cons (ss_set 3 nd sx_int)
    (sss_cons (ss_for passes_cx rfl (si_val (sx_fld 1 ndN (sx_var 0))) (sg_tup rfl (sgs_cons (sg_name 4 nd) (sgs_cons (sg_name 5 nd) sgs_nil)))
    (sss_one (ss_if (st_w (sw_and (st_cmp (ops_gt (room_hu hr).1) (sx_var 4) (sx_var 1)) (sw_and1 (st_chain (ops_le (room_hu hr).1) (ops_le (room_hu hr).1) (sx_bin ops_sub (sx_var 2) (sx_bin ops_sub (sx_var 4) (sx_var 1))) (sx_var 5) (sx_var 2)))))
    (sss_one (ss_aug 3 nd ins_add sx_int))
    sss_nil)))
    (sss_cons (ss_for passes_cx rfl (si_val (sx_fld 2 ndN (sx_var 0))) (sg_tup rfl (sgs_cons (sg_name 4 nd) (sgs_cons (sg_name 5 nd) sgs_nil)))
    (sss_one (ss_if (st_w (sw_and (st_cmp (ops_ge (room_hu hr).1) (sx_var 4) (sx_var 1)) (sw_and1 (st_chain (ops_le (room_hu hr).1) (ops_le (room_hu hr).1) (sx_bin ops_sub (sx_bin ops_sub (sx_var 2) (sx_bin ops_sub (sx_var 4) (sx_var 1))) sx_int) (sx_var 5) (sx_var 2)))))
    (sss_one (ss_aug 3 nd ins_add sx_int))
    sss_nil)))
    (sss_one (ss_ret (sx_var 3)))))))
def N_House_shown : List PySem.Str := ["self"]
def D_House_shown : DS := (dRet (dTup (daCons (dFld 1 (dVar 0)) (daCons (dFld 2 (dVar 0)) daNil))))
def M_House_shown : FT := runF 1 D_House_shown
theorem sc_House_shown : FnScope N_House_shown ["self"] (defScope s_House_shown) := ⟨rfl, rfl, rfl, by decide +kernel, rfl, by decide +kernel, by decide +kernel⟩
theorem F_House_shown (kn : Kn K mg base) : DFn P w base (ktD K mg) 1 (He.ma K (He.ga K "House") "shown") 1 M_House_shown := by
  refine DFn.ofD (kt := ktD K mg) (pp := ("House", some "shown")) (kn.c.def_ 9 (d := d_House_shown) rfl) sc_House_shown (fun _ _ _ _ _ _ _ us hl => match us, hl with | [_], _ => rfl) D_House_shown (fun A outer s H E W0 hr => ?_)
  have nd : N_House_shown.Nodup := sc_House_shown.nd
  exact (sss_one (ss_ret (sx_tup (sa_cons (sx_fld 1 ndN (sx_var 0)) (sa_cons (sx_fld 2 ndN (sx_var 0)) sa_nil)))))
def N_highest_house : List PySem.Str := ["cards", "storeys"]
def D_highest_house : DS := (dSeq (dIfS (dTB (dBin vLt (dVar 0) (dC (.int 2))))
    (dRaise (dxC 4))
    dNext)
    (dSeq (dAsg (dC (.int 1)) (gSet 1))
    (dSeq (dWhile fuelN (dTB (dBin vLe (dCall 1 M_cards_for (daCons (dBin vAdd (dVar 1) (dC (.int 1))) daNil)) (dVar 0)))
    (dAug 1 vAddI (dC (.int 1))))
    (dRet (dTup (daCons (dVar 1) (daCons (dBin vSub (dVar 0) (dCall 1 M_cards_for (daCons (dVar 1) daNil))) daNil)))))))
def M_highest_house : FT := runF 2 D_highest_house
theorem sc_highest_house : FnScope N_highest_house ["cards"] (defScope s_highest_house) := ⟨rfl, rfl, rfl, by decide +kernel, rfl, by decide +kernel, by decide +kernel⟩
theorem F_highest_house (kn : Kn K mg base) : DFn P w base (ktD K mg) 2 (He.ga K "highest_house") 1 M_highest_house := by
  refine DFn.ofD (kt := ktD K mg) (pp := ("highest_house", none)) (kn.c.def_ 11 (d := d_highest_house) rfl) sc_highest_house (fun _ _ _ _ _ _ _ us hl => match us, hl with | [_], _ => rfl) D_highest_house (fun A outer s H E W0 hr => ?_)
  have nd : N_highest_house.Nodup := sc_highest_house.nd
  exact (sss_cons (ss_if (st_cmp (ops_lt (room_hu hr).1) (sx_var 0) sx_int)
    (sss_one (ss_raise rfl (smk_own 4 (ex_NoWay kn rfl rfl))))
    sss_nil)
    (sss_cons (ss_set 1 nd sx_int)
    (sss_cons (ss_while fuelN passes_cx (st_cmp (ops_le (room_hu hr).1) (sx_call (F_cards_for kn) (hr.mono (by decide)) (g_cards_for kn) rfl rfl (sa_cons (sx_bin ops_add (sx_var 1) sx_int) sa_nil)) (sx_var 0))
    (sss_one (ss_aug 1 nd ins_add sx_int)))
    (sss_one (ss_ret (sx_tup (sa_cons (sx_var 1) (sa_cons (sx_bin ops_sub (sx_var 0) (sx_call (F_cards_for kn) (hr.mono (by decide)) (g_cards_for kn) rfl rfl (sa_cons (sx_var 1) sa_nil))) sa_nil))))))))
def N_packs_for : List PySem.Str := ["storeys", "pack"]
def D_packs_for : DS := (dSeq (dIfS (dTB (dBin vLt (dVar 1) (dC (.int 1))))
    (dRaise (dxC 1))
    dNext)
    (dRet (dBin vSub (dC (.int 0)) (dBin vFdiv (dBin vSub (dC (.int 0)) (dCall 1 M_cards_for (daCons (dVar 0) daNil))) (dVar 1)))))
def M_packs_for : FT := runF 2 D_packs_for
theorem sc_packs_for : FnScope N_packs_for ["storeys", "pack"] (defScope s_packs_for) := ⟨rfl, rfl, rfl, by decide +kernel, rfl, by decide +kernel, by decide +kernel⟩
theorem F_packs_for (kn : Kn K mg base) : DFn P w base (ktD K mg) 2 (He.ga K "packs_for") 2 M_packs_for := by
  refine DFn.ofD (kt := ktD K mg) (pp := ("packs_for", none)) (kn.c.def_ 12 (d := d_packs_for) rfl) sc_packs_for (fun _ _ _ _ _ _ _ us hl => match us, hl with | [_, _], _ => rfl) D_packs_for (fun A outer s H E W0 hr => ?_)
  have nd : N_packs_for.Nodup := sc_packs_for.nd
  exact (sss_cons (ss_if (st_cmp (ops_lt (room_hu hr).1) (sx_var 1) sx_int)
    (sss_one (ss_raise rfl (smk_own 1 (ex_BadSize kn rfl rfl))))
    sss_nil)
    (sss_one (ss_ret (sx_bin ops_sub sx_int (sx_bin ops_fdiv (sx_bin ops_sub sx_int (sx_call (F_cards_for kn) (hr.mono (by decide)) (g_cards_for kn) rfl rfl (sa_cons (sx_var 0) sa_nil))) (sx_var 1))))))
def N_built_order : List PySem.Str := ["wide", "found", "storey", "place"]
def D_built_order : DS := (dSeq (dIfS (dTB (dBin vLt (dVar 0) (dC (.int 1))))
    (dRaise (dxC 1))
    dNext)
    (dSeq (dAsg (dLstO daNil) (gSet 1))
    (dSeq (dFor (diRng rng1 (daCons (dVar 0) daNil)) (gSet 2)
    (dSeq (dAugO 1 (dLc [3] (diRng rng1 (daCons (dBin vSub (dVar 0) (dVar 2)) daNil)) (gSet 3) dYes (dTup (daCons (dVar 2) (daCons (dVar 3) (daCons (dC (.str "tent")) daNil))))))
    (dAugO 1 (dLc [3] (diRng rng1 (daCons (dBin vSub (dBin vSub (dVar 0) (dVar 2)) (dC (.int 1))) daNil)) (gSet 3) dYes (dTup (daCons (dVar 2) (daCons (dVar 3) (daCons (dC (.str "flat")) daNil))))))))
    (dRet (dFn oTuple (daCons (dVar 1) daNil))))))
def M_built_order : FT := runF 4 D_built_order
theorem sc_built_order : FnScope N_built_order ["wide"] (defScope s_built_order) := ⟨rfl, rfl, rfl, by decide +kernel, rfl, by decide +kernel, by decide +kernel⟩
theorem F_built_order (kn : Kn K mg base) : DFn P w base (ktD K mg) 1 (He.ga K "built_order") 1 M_built_order := by
  refine DFn.ofD (kt := ktD K mg) (pp := ("built_order", none)) (kn.c.def_ 13 (d := d_built_order) rfl) sc_built_order (fun _ _ _ _ _ _ _ us hl => match us, hl with | [_], _ => rfl) D_built_order (fun A outer s H E W0 hr => ?_)
  have nd : N_built_order.Nodup := sc_built_order.nd
  exact (sss_cons (ss_if (st_cmp (ops_lt (room_hu hr).1) (sx_var 0) sx_int)
    (sss_one (ss_raise rfl (smk_own 1 (ex_BadSize kn rfl rfl))))
    sss_nil)
    (sss_cons (ss_set 1 nd (sx_lstO sa_nil))
    (sss_cons (ss_for passes_cx rfl (si_r1 (sa_cons (sx_var 0) sa_nil) (hm := m_range kn)) (sg_name 2 nd)
    (sss_cons (ss_augO 1 nd rfl (sx_lc (own := [("place", 3)]) rfl nd (si_r1 (sa_cons (sx_bin ops_sub (sx_var 0) (sx_var 2)) sa_nil) (hm := m_range kn)) (by kernel_rfl) (fun _ _ _ _ _ => (sg_name 3 nd)) (fun _ _ _ _ _ => sts_nil) (fun _ _ _ _ _ => (sx_tup (sa_cons (sx_var 2) (sa_cons (sx_var 3) (sa_cons sx_str sa_nil)))))))
    (sss_one (ss_augO 1 nd rfl (sx_lc (own := [("place", 3)]) rfl nd (si_r1 (sa_cons (sx_bin ops_sub (sx_bin ops_sub (sx_var 0) (sx_var 2)) sx_int) sa_nil) (hm := m_range kn)) (by kernel_rfl) (fun _ _ _ _ _ => (sg_name 3 nd)) (fun _ _ _ _ _ => sts_nil) (fun _ _ _ _ _ => (sx_tup (sa_cons (sx_var 2) (sa_cons (sx_var 3) (sa_cons sx_str sa_nil))))))))))
    (sss_one (ss_ret (sx_ty fn_tuple (sa_cons (sx_var 1) sa_nil) (hm := m_tuple kn)))))))
def N_steady_to : List PySem.Str := ["hand", "storeys", "breath", "storey"]
def D_steady_to : DS := (dSeq (dIfS (dTB (dBin vLt (dFn oMin3 (daCons (dVar 0) (daCons (dVar 1) (daCons (dVar 2) daNil)))) (dC (.int 0))))
    (dRaise (dxC 1))
    dNext)
    (dSeq (dFor (diRng rng1 (daCons (dVar 1) daNil)) (gSet 3)
    (dIfS (dTB (dBin vGt (dBin vAdd (dVar 0) (dVar 3)) (dBin vSub (dVar 2) (dVar 3))))
    (dRet (dVar 3))
    dNext))
    (dRet (dVar 1))))
def M_steady_to : FT := runF 4 D_steady_to
theorem sc_steady_to : FnScope N_steady_to ["hand", "storeys", "breath"] (defScope s_steady_to) := ⟨rfl, rfl, rfl, by decide +kernel, rfl, by decide +kernel, by decide +kernel⟩
theorem F_steady_to (kn : Kn K mg base) : DFn P w base (ktD K mg) 1 (He.ga K "steady_to") 3 M_steady_to := by
  refine DFn.ofD (kt := ktD K mg) (pp := ("steady_to", none)) (kn.c.def_ 14 (d := d_steady_to) rfl) sc_steady_to (fun _ _ _ _ _ _ _ us hl => match us, hl with | [_, _, _], _ => rfl) D_steady_to (fun A outer s H E W0 hr => ?_)
  have nd : N_steady_to.Nodup := sc_steady_to.nd
  exact (sss_cons (ss_if (st_cmp (ops_lt (room_hu hr).1) (sx_fn (fn_min3 rfl) (sa_cons (sx_var 0) (sa_cons (sx_var 1) (sa_cons (sx_var 2) sa_nil))) (hm := m_min kn)) sx_int)
    (sss_one (ss_raise rfl (smk_own 1 (ex_BadSize kn rfl rfl))))
    sss_nil)
    (sss_cons (ss_for passes_cx rfl (si_r1 (sa_cons (sx_var 1) sa_nil) (hm := m_range kn)) (sg_name 3 nd)
    (sss_one (ss_if (st_cmp (ops_gt (room_hu hr).1) (sx_bin ops_add (sx_var 0) (sx_var 3)) (sx_bin ops_sub (sx_var 2) (sx_var 3)))
    (sss_one (ss_ret (sx_var 3)))
    sss_nil)))
    (sss_one (ss_ret (sx_var 1)))))
def N_best_builder : List PySem.Str := ["tries", "rows", "name", "row"]
def D_best_builder : DS := (dSeq (dOwnL 1 daNil)
    (dSeq (dFor (diItems (dVar 0)) (gUn 2 (gsCons (gSet 2) (gsCons (gSet 3) gsNil)))
    (dIfS (dTB (dBin vGt (dFn oLen (daCons (dVar 3) daNil)) (dC (.int 0))))
    (dApp 1 (dTup (daCons (dBin vSub (dC (.int 0)) (dFn oMaxA (daCons (dVar 3) daNil))) (daCons (dBin vSub (dC (.int 0)) (dBm tLst oLCnt (dVar 3) (daCons (dFn oMaxA (daCons (dVar 3) daNil)) daNil))) (daCons (dVar 2) daNil)))))
    dNext))
    (dSeq (dIfS (dTB (dBin vEq (dPk 1) (dLst daNil)))
    (dRaise (dxC 4))
    dNext)
    (dRet (dIx (dFn oMinA (daCons (dPk 1) daNil)) (dC (.int 2)))))))
def M_best_builder : FT := runF 4 D_best_builder
theorem sc_best_builder : FnScope N_best_builder ["tries"] (defScope s_best_builder) := ⟨rfl, rfl, rfl, by decide +kernel, rfl, by decide +kernel, by decide +kernel⟩
theorem F_best_builder (kn : Kn K mg base) : DFn P w base (ktD K mg) 1 (He.ga K "best_builder") 1 M_best_builder := by
  refine DFn.ofD (kt := ktD K mg) (pp := ("best_builder", none)) (kn.c.def_ 15 (d := d_best_builder) rfl) sc_best_builder (fun _ _ _ _ _ _ _ us hl => match us, hl with | [_], _ => rfl) D_best_builder (fun A outer s H E W0 hr => ?_)
  have nd : N_best_builder.Nodup := sc_best_builder.nd
  exact (sss_cons (ss_ownL 1 nd sa_nil)
    (sss_cons (ss_for passes_cx rfl (si_items (sx_var 0)) (sg_tup rfl (sgs_cons (sg_name 2 nd) (sgs_cons (sg_name 3 nd) sgs_nil)))
    (sss_one (ss_if (st_cmp (ops_gt (room_hu hr).1) (sx_fn fn_len (sa_cons (sx_var 3) sa_nil) (hm := m_len kn)) sx_int)
    (sss_one (ss_app 1 (sx_tup (sa_cons (sx_bin ops_sub sx_int (sx_fn ((fn_maxI rfl).or (fn_maxV rfl (room_hu hr).1)) (sa_cons (sx_var 3) sa_nil) (hm := m_max kn))) (sa_cons (sx_bin ops_sub sx_int (sx_bm rc_lst bm_lcnt PySem.F.plainAttrs_list PySem.F.slot_list_count PySem.F.type_list_count (sx_var 3) (sa_cons (sx_fn ((fn_maxI rfl).or (fn_maxV rfl (room_hu hr).1)) (sa_cons (sx_var 3) sa_nil) (hm := m_max kn)) sa_nil))) (sa_cons (sx_var 2) sa_nil))))))
    sss_nil)))
    (sss_cons (ss_if (st_cmp (ops_eq (room_hu hr).1) (sx_peek 1) (sx_lst sa_nil))
    (sss_one (ss_raise rfl (smk_own 4 (ex_NoWay kn rfl rfl))))
    sss_nil)
    (sss_one (ss_ret (sx_ix (room_hu hr).2.2 (sx_fn ((fn_minI rfl).or (fn_minV rfl (room_hu hr).1)) (sa_cons (sx_peek 1) sa_nil) (hm := m_min kn)) sx_int))))))
def N_tower_of : List PySem.Str := ["cards", "each", "storey"]
def D_tower_of : DS := (dSeq (dIfS (dOr (dTB (dBin vLt (dVar 1) (dC (.int 1)))) (dTB (dBin vLt (dVar 0) (dC (.int 0)))))
    (dRaise (dxC 1))
    dNext)
    (dSeq (dAsg (dBin vAdd (dBin vMul (dC (.int 2)) (dVar 1)) (dFn oMax2 (daCons (dC (.int 1)) (daCons (dBin vSub (dVar 1) (dC (.int 1))) daNil)))) (gSet 2))
    (dRet (dTup (daCons (dBin vFdiv (dVar 0) (dVar 2)) (daCons (dBin vMod (dVar 0) (dVar 2)) daNil))))))
def M_tower_of : FT := runF 3 D_tower_of
theorem sc_tower_of : FnScope N_tower_of ["cards", "each"] (defScope s_tower_of) := ⟨rfl, rfl, rfl, by decide +kernel, rfl, by decide +kernel, by decide +kernel⟩
theorem F_tower_of (kn : Kn K mg base) : DFn P w base (ktD K mg) 1 (He.ga K "tower_of") 2 M_tower_of := by
  refine DFn.ofD (kt := ktD K mg) (pp := ("tower_of", none)) (kn.c.def_ 16 (d := d_tower_of) rfl) sc_tower_of (fun _ _ _ _ _ _ _ us hl => match us, hl with | [_, _], _ => rfl) D_tower_of (fun A outer s H E W0 hr => ?_)
  have nd : N_tower_of.Nodup := sc_tower_of.nd
  exact (sss_cons (ss_if (st_w (sw_or (st_cmp (ops_lt (room_hu hr).1) (sx_var 1) sx_int) (sw_or1 (st_cmp (ops_lt (room_hu hr).1) (sx_var 0) sx_int))))
    (sss_one (ss_raise rfl (smk_own 1 (ex_BadSize kn rfl rfl))))
    sss_nil)
    (sss_cons (ss_set 2 nd (sx_bin ops_add (sx_bin ops_mul sx_int (sx_var 1)) (sx_fn (fn_max2 rfl) (sa_cons sx_int (sa_cons (sx_bin ops_sub (sx_var 1) sx_int) sa_nil)) (hm := m_max kn))))
    (sss_one (ss_ret (sx_tup (sa_cons (sx_bin ops_fdiv (sx_var 0) (sx_var 2)) (sa_cons (sx_bin ops_mod (sx_var 0) (sx_var 2)) sa_nil)))))))
def N__law_dice : List PySem.Str := ["cell"]
def D__law_dice : DS := (dSeq (dIfS (dTB (dChain vLt vLt (dBin vSub (dC (.int 0)) (dC (.int 10))) (dVar 0) (dC (.int 10))))
    (dRetO (daCons (dFn oAbs (daCons (dVar 0) daNil)) (daCons (dC (.int 0)) (daCons (dC (.int 2)) daNil))))
    dNext)
    (dRetO (daCons (dVar 0) (daCons (dBin vAdd (dC (.int 1)) (dBin vMod (dFn oInt (daCons (dVar 0) daNil)) (dC (.int 1009)))) (daCons (dFn oInt (daCons (dBin vGe (dVar 0) (dBin vPow (dC (.int 10)) (dC (.int 18)))) daNil)) daNil)))))
def M__law_dice : FT := runF 1 D__law_dice
theorem sc__law_dice : FnScope N__law_dice ["cell"] (defScope s__law_dice) := ⟨rfl, rfl, rfl, by decide +kernel, rfl, by decide +kernel, by decide +kernel⟩
theorem F__law_dice (kn : Kn K mg base) : DFn P w base (ktD K mg) 1 (He.ga K "_law_dice") 1 M__law_dice := by
  refine DFn.ofD (kt := ktD K mg) (pp := ("_law_dice", none)) (kn.c.def_ 17 (d := d__law_dice) rfl) sc__law_dice (fun _ _ _ _ _ _ _ us hl => match us, hl with | [_], _ => rfl) D__law_dice (fun A outer s H E W0 hr => ?_)
  have nd : N__law_dice.Nodup := sc__law_dice.nd
  exact (sss_cons (ss_if (st_chain (ops_lt (room_hu hr).1) (ops_lt (room_hu hr).1) (sx_bin ops_sub sx_int sx_int) (sx_var 0) sx_int)
    (sss_one (ss_retO (sa_cons (sx_fn fn_abs (sa_cons (sx_var 0) sa_nil) (hm := m_abs kn)) (sa_cons sx_int (sa_cons sx_int sa_nil)))))
    sss_nil)
    (sss_one (ss_retO (sa_cons (sx_var 0) (sa_cons (sx_bin ops_add sx_int (sx_bin ops_mod (sx_ty fn_int (sa_cons (sx_var 0) sa_nil) (hm := m_int kn)) sx_int)) (sa_cons (sx_ty fn_int (sa_cons (sx_cmp (ops_ge (room_hu hr).1) (sx_var 0) (sx_bin ops_pow sx_int sx_int)) sa_nil) (hm := m_int kn)) sa_nil))))))
def N__law_roll : List PySem.Str := ["dice", "many", "found"]
def D__law_roll : DS := (dSeq (dIfS (dOr (dTB (dBin vEq (dIx (dVar 0) (dC (.int 2))) (dC (.int 2)))) (dAnd (dTB (dBin vEq (dIx (dVar 0) (dC (.int 2))) (dC (.int 1)))) (dTB (dBin vGt (dIx (dVar 0) (dC (.int 0))) (dC (.int 0))))))
    (dSeq (dAsg (dBin vMod (dFn oInt (daCons (dIx (dVar 0) (dC (.int 0))) daNil)) (dVar 1)) (gSet 2))
    (dSeq (dSetO (dBin vFdiv (dIx (dVar 0) (dC (.int 0))) (dVar 1)) (dVar 0) (dC (.int 0)))
    (dRet (dVar 2))))
    dNext)
    (dSeq (dSetO (dC (.int 0)) (dVar 0) (dC (.int 2)))
    (dSeq (dSetO (dBin vMod (dFn oInt (daCons (dBin vAdd (dBin vAdd (dBin vMul (dIx (dVar 0) (dC (.int 0))) (dC (.int 48271))) (dBin vMul (dIx (dVar 0) (dC (.int 1))) (dC (.int 69621)))) (dC (.int 11))) daNil)) (dC (.int 2147483647))) (dVar 0) (dC (.int 0)))
    (dSeq (dSetO (dBin vAdd (dIx (dVar 0) (dC (.int 1))) (dC (.int 1))) (dVar 0) (dC (.int 1)))
    (dRet (dBin vMod (dFn oInt (daCons (dBin vAdd (dBin vFdiv (dIx (dVar 0) (dC (.int 0))) (dC (.int 7))) (dIx (dVar 0) (dC (.int 0)))) daNil)) (dVar 1)))))))
def M__law_roll : FT := runF 3 D__law_roll
theorem sc__law_roll : FnScope N__law_roll ["dice", "many"] (defScope s__law_roll) := ⟨rfl, rfl, rfl, by decide +kernel, rfl, by decide +kernel, by decide +kernel⟩
theorem F__law_roll (kn : Kn K mg base) : DFn P w base (ktD K mg) 1 (He.ga K "_law_roll") 2 M__law_roll := by
  refine DFn.ofD (kt := ktD K mg) (pp := ("_law_roll", none)) (kn.c.def_ 18 (d := d__law_roll) rfl) sc__law_roll (fun _ _ _ _ _ _ _ us hl => match us, hl with | [_, _], _ => rfl) D__law_roll (fun A outer s H E W0 hr => ?_)
  have nd : N__law_roll.Nodup := sc__law_roll.nd
  exact (sss_cons (ss_if (st_w (sw_or (st_cmp (ops_eq (room_hu hr).1) (sx_ix (room_hu hr).2.2 (sx_var 0) sx_int) sx_int) (sw_or1 (st_w (sw_and (st_cmp (ops_eq (room_hu hr).1) (sx_ix (room_hu hr).2.2 (sx_var 0) sx_int) sx_int) (sw_and1 (st_cmp (ops_gt (room_hu hr).1) (sx_ix (room_hu hr).2.2 (sx_var 0) sx_int) sx_int)))))))
    (sss_cons (ss_set 2 nd (sx_bin ops_mod (sx_ty fn_int (sa_cons (sx_ix (room_hu hr).2.2 (sx_var 0) sx_int) sa_nil) (hm := m_int kn)) (sx_var 1)))
    (sss_cons (ss_setO rfl (sx_bin ops_fdiv (sx_ix (room_hu hr).2.2 (sx_var 0) sx_int) (sx_var 1)) (sx_var 0) sx_int)
    (sss_one (ss_ret (sx_var 2)))))
    sss_nil)
    (sss_cons (ss_setO rfl sx_int (sx_var 0) sx_int)
    (sss_cons (ss_setO rfl (sx_bin ops_mod (sx_ty fn_int (sa_cons (sx_bin ops_add (sx_bin ops_add (sx_bin ops_mul (sx_ix (room_hu hr).2.2 (sx_var 0) sx_int) sx_int) (sx_bin ops_mul (sx_ix (room_hu hr).2.2 (sx_var 0) sx_int) sx_int)) sx_int) sa_nil) (hm := m_int kn)) sx_int) (sx_var 0) sx_int)
    (sss_cons (ss_setO rfl (sx_bin ops_add (sx_ix (room_hu hr).2.2 (sx_var 0) sx_int) sx_int) (sx_var 0) sx_int)
    (sss_one (ss_ret (sx_bin ops_mod (sx_ty fn_int (sa_cons (sx_bin ops_add (sx_bin ops_fdiv (sx_ix (room_hu hr).2.2 (sx_var 0) sx_int) sx_int) (sx_ix (room_hu hr).2.2 (sx_var 0) sx_int)) sa_nil) (hm := m_int kn)) (sx_var 1))))))))
def N__law_rounds : List PySem.Str := ["script", "most", "cells", "cell"]
def D__law_rounds : DS := (dSeq (dAsg (dSl (dVar 0) doNone (doSome (dVar 1))) (gSet 2))
    (dSeq (dIfS (dTB (dBin vEq (dVar 2) (dLst daNil)))
    (dAsg (dLst (daCons (dC (.int 0)) daNil)) (gSet 2))
    dNext)
    (dRet (dLc [3] (diVal (dVar 2)) (gSet 3) dYes (dCall 1 M__law_dice (daCons (dVar 3) daNil))))))
def M__law_rounds : FT := runF 4 D__law_rounds
theorem sc__law_rounds : FnScope N__law_rounds ["script", "most"] (defScope s__law_rounds) := ⟨rfl, rfl, rfl, by decide +kernel, rfl, by decide +kernel, by decide +kernel⟩
theorem F__law_rounds (kn : Kn K mg base) : DFn P w base (ktD K mg) 2 (He.ga K "_law_rounds") 2 M__law_rounds := by
  refine DFn.ofD (kt := ktD K mg) (pp := ("_law_rounds", none)) (kn.c.def_ 19 (d := d__law_rounds) rfl) sc__law_rounds (fun _ _ _ _ _ _ _ us hl => match us, hl with | [_, _], _ => rfl) D__law_rounds (fun A outer s H E W0 hr => ?_)
  have nd : N__law_rounds.Nodup := sc__law_rounds.nd
  exact (sss_cons (ss_set 2 nd (sx_sl (sx_var 0) so_none (so_some (sx_var 1))))
    (sss_cons (ss_if (st_cmp (ops_eq (room_hu hr).1) (sx_var 2) (sx_lst sa_nil))
    (sss_one (ss_set 2 nd (sx_lst (sa_cons sx_int sa_nil))))
    sss_nil)
    (sss_one (ss_ret (sx_lc (own := [("cell", 3)]) rfl nd (si_val (sx_var 2)) (by kernel_rfl) (fun _ _ _ _ _ => (sg_name 3 nd)) (fun _ _ _ _ _ => sts_nil) (fun _ _ _ _ _ => (sx_call (F__law_dice kn) (hr.mono (by decide)) (g__law_dice kn) rfl rfl (sa_cons (sx_var 3) sa_nil))))))))
def C1__law_falls : DE := (dLc [3] (diVal (dVar 1)) (gSet 3) (dAnd (dTB (dBin vInV (dVar 3) (dVar 0))) (dTB (dBin vInV (dTup (daCons (dIx (dVar 3) (dC (.int 0))) (daCons (dBin vAdd (dIx (dVar 3) (dC (.int 1))) (dC (.int 1))) daNil))) (dVar 0)))) (dVar 3))
def C2__law_falls : DE := (dLc [3] (diVal (dVar 0)) (gSet 3) (dOr (dTB (dBin vEq (dIx (dVar 3) (dC (.int 0))) (dC (.int 0)))) (dTB (dBin vInV (dTup (daCons (dBin vSub (dIx (dVar 3) (dC (.int 0))) (dC (.int 1))) (daCons (dIx (dVar 3) (dC (.int 1))) daNil))) (dVar 1)))) (dVar 3))
def T2_1__law_falls : DS := (dAsg C2__law_falls (gSet 0))
def T2_0__law_falls : DS := (dSeq (dAsg C1__law_falls (gSet 1))
    T2_1__law_falls)
def T1_1__law_falls : DS := (dRet (dTup (daCons (dVar 0) (daCons (dVar 1) daNil))))
def N__law_falls : List PySem.Str := ["tents", "flats", "turn", "one"]
def D__law_falls : DS := (dSeq (dFor (diRng rng1 (daCons (dC (.int 12)) daNil)) (gSet 2)
    T2_0__law_falls)
    T1_1__law_falls)
def M__law_falls : FT := runF 4 D__law_falls
theorem sc__law_falls : FnScope N__law_falls ["tents", "flats"] (defScope s__law_falls) := ⟨rfl, rfl, rfl, by decide +kernel, rfl, by decide +kernel, by decide +kernel⟩
theorem F__law_falls (kn : Kn K mg base) : DFn P w base (ktD K mg) 1 (He.ga K "_law_falls") 2 M__law_falls := by
  refine DFn.ofD (kt := ktD K mg) (pp := ("_law_falls", none)) (kn.c.def_ 21 (d := d__law_falls) rfl) sc__law_falls (fun _ _ _ _ _ _ _ us hl => match us, hl with | [_, _], _ => rfl) D__law_falls (fun A outer s H E W0 hr => ?_)
  have nd : N__law_falls.Nodup := sc__law_falls.nd
  exact (sss_cons (ss_for passes_cx rfl (si_r1 (sa_cons sx_int sa_nil) (hm := m_range kn)) (sg_name 2 nd)
    (sss_cons (ss_set 1 nd (sx_lc (own := [("one", 3)]) rfl nd (si_val (sx_var 1)) (by kernel_rfl) (fun _ _ _ _ _ => (sg_name 3 nd)) (fun _ _ _ _ _ => (sts_one (st_w (sw_and (st_cmp (ops_in (room_hu hr).2.1) (sx_var 3) (sx_var 0)) (sw_and1 (st_cmp (ops_in (room_hu hr).2.1) (sx_tup (sa_cons (sx_ix (room_hu hr).2.2 (sx_var 3) sx_int) (sa_cons (sx_bin ops_add (sx_ix (room_hu hr).2.2 (sx_var 3) sx_int) sx_int) sa_nil))) (sx_var 0))))))) (fun _ _ _ _ _ => (sx_var 3))))
    (sss_one (ss_set 0 nd (sx_lc (own := [("one", 3)]) rfl nd (si_val (sx_var 0)) (by kernel_rfl) (fun _ _ _ _ _ => (sg_name 3 nd)) (fun _ _ _ _ _ => (sts_one (st_w (sw_or (st_cmp (ops_eq (room_hu hr).1) (sx_ix (room_hu hr).2.2 (sx_var 3) sx_int) sx_int) (sw_or1 (st_cmp (ops_in (room_hu hr).2.1) (sx_tup (sa_cons (sx_bin ops_sub (sx_ix (room_hu hr).2.2 (sx_var 3) sx_int) sx_int) (sa_cons (sx_ix (room_hu hr).2.2 (sx_var 3) sx_int) sa_nil))) (sx_var 1))))))) (fun _ _ _ _ _ => (sx_var 3)))))))
    (sss_one (ss_ret (sx_tup (sa_cons (sx_var 0) (sa_cons (sx_var 1) sa_nil))))))
def T1_6__law_cases1 : DS := (dRet (dC (.bl true)))
def T1_5__law_cases1 : DS := (dSeq (dIfS (dTB (dBin vNe (dTold toldF (dCall 2 M_tower_of (daCons (dC (.int 1)) (daCons (dC (.int 0)) daNil)))) (dC (.str "size"))))
    (dRet (dC (.bl false)))
    dNext)
    T1_6__law_cases1)
def T1_4__law_cases1 : DS := (dSeq (dIfS (dTB (dBin vNe (dTold toldF (dCall 3 M_steady_to (daCons (dBin vSub (dC (.int 0)) (dC (.int 1))) (daCons (dC (.int 0)) (daCons (dC (.int 0)) daNil))))) (dC (.str "size"))))
    (dRet (dC (.bl false)))
    dNext)
    T1_5__law_cases1)
def T1_3__law_cases1 : DS := (dSeq (dIfS (dTB (dBin vNe (dTold toldF (dCall 1 M_built_order (daCons (dC (.int 0)) daNil))) (dC (.str "size"))))
    (dRet (dC (.bl false)))
    dNext)
    T1_4__law_cases1)
def T1_2__law_cases1 : DS := (dSeq (dIfS (dTB (dBin vNe (dTold toldF (dCall 2 M_packs_for (daCons (dC (.int 1)) (daCons (dC (.int 0)) daNil)))) (dC (.str "size"))))
    (dRet (dC (.bl false)))
    dNext)
    T1_3__law_cases1)
def T1_1__law_cases1 : DS := (dSeq (dIfS (dTB (dBin vNe (dTold toldF (dCall 1 M_cards_for (daCons (dC (.int 0)) daNil))) (dC (.str "size"))))
    (dRet (dC (.bl false)))
    dNext)
    T1_2__law_cases1)
def N__law_cases1 : List PySem.Str := []
def D__law_cases1 : DS := (dSeq (dIfS (dTB (dBin vNe (dTold toldF (dMake 0 2 M_House___init__ (daCons (dC (.int 0)) daNil))) (dC (.str "plan"))))
    (dRet (dC (.bl false)))
    dNext)
    T1_1__law_cases1)
def M__law_cases1 : FT := runF 0 D__law_cases1
theorem sc__law_cases1 : FnScope N__law_cases1 [] (defScope s__law_cases1) := ⟨rfl, rfl, rfl, by decide +kernel, rfl, by decide +kernel, by decide +kernel⟩
theorem F__law_cases1 (kn : Kn K mg base) : DFn P w base (ktD K mg) 5 (He.ga K "_law_cases1") 0 M__law_cases1 := by
  refine DFn.ofD (kt := ktD K mg) (pp := ("_law_cases1", none)) (kn.c.def_ 22 (d := d__law_cases1) rfl) sc__law_cases1 (fun _ _ _ _ _ _ _ us hl => match us, hl with | [], _ => rfl) D__law_cases1 (fun A outer s H E W0 hr => ?_)
  have nd : N__law_cases1.Nodup := sc__law_cases1.nd
  exact (sss_cons (ss_if (st_cmp (ops_ne (room_hu hr).1) (sx_told (k := 2) rfl (toldD kn) (by intro cdv s H; exact toldH kn rfl rfl rfl cdv s H) (toldF_ok kn) (tabB kn 0 rfl) rfl (memT 0) (uniqT kn 0) (hr.mono (by decide)) (by kernel_rfl) (fun A outer s H E f c' hr2 => (sx_make 0 (mk_House kn) (cls_House kn) (F_House___init__ kn) (hr2.mono (by decide)) (g_House kn) rfl rfl (sa_cons sx_int sa_nil)))) sx_str)
    (sss_one (ss_ret sx_bl))
    sss_nil)
    (sss_cons (ss_if (st_cmp (ops_ne (room_hu hr).1) (sx_told (k := 1) rfl (toldD kn) (by intro cdv s H; exact toldH kn rfl rfl rfl cdv s H) (toldF_ok kn) (tabB kn 0 rfl) rfl (memT 0) (uniqT kn 0) (hr.mono (by decide)) (by kernel_rfl) (fun A outer s H E f c' hr2 => (sx_call (F_cards_for kn) (hr2.mono (by decide)) (g_cards_for kn) rfl rfl (sa_cons sx_int sa_nil)))) sx_str)
    (sss_one (ss_ret sx_bl))
    sss_nil)
    (sss_cons (ss_if (st_cmp (ops_ne (room_hu hr).1) (sx_told (k := 2) rfl (toldD kn) (by intro cdv s H; exact toldH kn rfl rfl rfl cdv s H) (toldF_ok kn) (tabB kn 0 rfl) rfl (memT 0) (uniqT kn 0) (hr.mono (by decide)) (by kernel_rfl) (fun A outer s H E f c' hr2 => (sx_call (F_packs_for kn) (hr2.mono (by decide)) (g_packs_for kn) rfl rfl (sa_cons sx_int (sa_cons sx_int sa_nil))))) sx_str)
    (sss_one (ss_ret sx_bl))
    sss_nil)
    (sss_cons (ss_if (st_cmp (ops_ne (room_hu hr).1) (sx_told (k := 1) rfl (toldD kn) (by intro cdv s H; exact toldH kn rfl rfl rfl cdv s H) (toldF_ok kn) (tabB kn 0 rfl) rfl (memT 0) (uniqT kn 0) (hr.mono (by decide)) (by kernel_rfl) (fun A outer s H E f c' hr2 => (sx_call (F_built_order kn) (hr2.mono (by decide)) (g_built_order kn) rfl rfl (sa_cons sx_int sa_nil)))) sx_str)
    (sss_one (ss_ret sx_bl))
    sss_nil)
    (sss_cons (ss_if (st_cmp (ops_ne (room_hu hr).1) (sx_told (k := 1) rfl (toldD kn) (by intro cdv s H; exact toldH kn rfl rfl rfl cdv s H) (toldF_ok kn) (tabB kn 0 rfl) rfl (memT 0) (uniqT kn 0) (hr.mono (by decide)) (by kernel_rfl) (fun A outer s H E f c' hr2 => (sx_call (F_steady_to kn) (hr2.mono (by decide)) (g_steady_to kn) rfl rfl (sa_cons (sx_bin ops_sub sx_int sx_int) (sa_cons sx_int (sa_cons sx_int sa_nil)))))) sx_str)
    (sss_one (ss_ret sx_bl))
    sss_nil)
    (sss_cons (ss_if (st_cmp (ops_ne (room_hu hr).1) (sx_told (k := 1) rfl (toldD kn) (by intro cdv s H; exact toldH kn rfl rfl rfl cdv s H) (toldF_ok kn) (tabB kn 0 rfl) rfl (memT 0) (uniqT kn 0) (hr.mono (by decide)) (by kernel_rfl) (fun A outer s H E f c' hr2 => (sx_call (F_tower_of kn) (hr2.mono (by decide)) (g_tower_of kn) rfl rfl (sa_cons sx_int (sa_cons sx_int sa_nil))))) sx_str)
    (sss_one (ss_ret sx_bl))
    sss_nil)
    (sss_one (ss_ret sx_bl))))))))
def C1__law_rest1 : DE := (dLc [26, 27] (diVal (dVar 2)) (gUn 2 (gsCons (gSet 26) (gsCons (gSet 27) gsNil))) (dAnd (dTB (dBin vGt (dVar 26) (dVar 16))) (dTB (dChain vLe vLe (dBin vAdd (dBin vSub (dVar 17) (dVar 26)) (dVar 16)) (dVar 27) (dVar 17)))) (dC (.int 1)))
def C2__law_rest1 : DE := (dLc [26, 27] (diVal (dVar 3)) (gUn 2 (gsCons (gSet 26) (gsCons (gSet 27) gsNil))) (dAnd (dTB (dBin vGe (dVar 26) (dVar 16))) (dTB (dChain vLe vLe (dBin vSub (dBin vAdd (dBin vSub (dVar 17) (dVar 26)) (dVar 16)) (dC (.int 1))) (dVar 27) (dVar 17)))) (dC (.int 1)))
def C3__law_rest1 : DE := (dLc [25] (diRng rng1 (daCons (dBin vSub (dVar 1) (dVar 8)) daNil)) (gSet 25) dYes (dTup (daCons (dVar 8) (daCons (dVar 25) (daCons (dC (.str "tent")) daNil)))))
def C4__law_rest1 : DE := (dLc [25] (diRng rng1 (daCons (dBin vSub (dBin vSub (dVar 1) (dVar 8)) (dC (.int 1))) daNil)) (gSet 25) dYes (dTup (daCons (dVar 8) (daCons (dVar 25) (daCons (dC (.str "flat")) daNil)))))
def T3_0__law_rest1 : DS := (dAsg (dBin vAdd (dBin vAdd (dVar 7) C3__law_rest1) C4__law_rest1) (gSet 7))
def C5__law_rest1 : DE := (dLc [23] (diRng rng2 (daCons (dC (.int 1)) (daCons (dBin vAdd (dVar 10) (dC (.int 1))) daNil))) (gSet 23) dYes (dBin vSub (dBin vMul (dC (.int 3)) (dVar 23)) (dC (.int 1))))
def C6__law_rest1 : DE := (dLc [10] (diRng rng1 (daCons (dC (.int 12)) daNil)) (gSet 10) dYes (dFn oSumI (daCons C5__law_rest1 daNil)))
def C7__law_rest1 : DE := (dLc [23] (diRng rng1 (daCons (dC (.int 12)) daNil)) (gSet 23) (dTB (dBin vLe (dIx (dVar 9) (dVar 23)) (dVar 18))) (dVar 23))
def C8__law_rest1 : DE := (dLc [23] (diRng rng1 (daCons (dVar 21) daNil)) (gSet 23) (dTB (dBin vGt (dBin vAdd (dVar 20) (dBin vMul (dC (.int 2)) (dVar 23))) (dVar 22))) (dVar 23))
def C9__law_rest1 : DE := (dLc [23] (diRng rng1 (daCons (dCall 2 M__law_roll (daCons (dVar 0) (daCons (dC (.int 4)) daNil))) daNil)) (gSet 23) dYes (dCall 2 M__law_roll (daCons (dVar 0) (daCons (dC (.int 6)) daNil))))
def C10__law_rest1 : DE := (dLc [24] (diVal (dLst (daCons (dC (.str "ann")) (daCons (dC (.str "bo")) (daCons (dC (.str "cy")) daNil))))) (gSet 24) dYes (dTup (daCons (dVar 24) (daCons C9__law_rest1 daNil))))
def C11__law_rest1 : DE := (dLc [24] (diKeys (dVar 12)) (gSet 24) (dTB (dBin vNe (dIx (dVar 12) (dVar 24)) (dLst daNil))) (dTup (daCons (dBin vSub (dC (.int 0)) (dFn oMaxA (daCons (dIx (dVar 12) (dVar 24)) daNil))) (daCons (dBin vSub (dC (.int 0)) (dBm tLst oLCnt (dIx (dVar 12) (dVar 24)) (daCons (dFn oMaxA (daCons (dIx (dVar 12) (dVar 24)) daNil)) daNil))) (daCons (dVar 24) daNil)))))
def T1_22__law_rest1 : DS := (dRet (dC (.bl true)))
def T1_21__law_rest1 : DS := (dSeq (dIfS (dNot (dTest (dCall 0 M__law_cases1 daNil)))
    (dRet (dC (.bl false)))
    dNext)
    T1_22__law_rest1)
def T1_20__law_rest1 : DS := (dSeq (dIfS (dTB (dBin vNe (dCall 2 M_tower_of (daCons (dVar 18) (daCons (dVar 14) daNil))) (dTup (daCons (dBin vFdiv (dVar 18) (dVar 15)) (daCons (dBin vMod (dVar 18) (dVar 15)) daNil)))))
    (dRet (dC (.bl false)))
    dNext)
    T1_21__law_rest1)
def T1_19__law_rest1 : DS := (dSeq (dAsg (dBin vAdd (dBin vMul (dC (.int 2)) (dVar 14)) (dIf (dTB (dBin vGt (dVar 14) (dC (.int 1)))) (dBin vSub (dVar 14) (dC (.int 1))) (dC (.int 1)))) (gSet 15))
    T1_20__law_rest1)
def T1_18__law_rest1 : DS := (dSeq (dAsg (dBin vAdd (dC (.int 1)) (dCall 2 M__law_roll (daCons (dVar 0) (daCons (dC (.int 5)) daNil)))) (gSet 14))
    T1_19__law_rest1)
def T1_17__law_rest1 : DS := (dSeq (dIfS (dTB (dBin vNe (dTold toldF (dCall 1 M_best_builder (daCons (dVar 12) daNil))) (dIf (dTB (dBin vNe (dVar 13) (dLst daNil))) (dIx (dFn oMinA (daCons (dVar 13) daNil)) (dC (.int 2))) (dC (.str "no way")))))
    (dRet (dC (.bl false)))
    dNext)
    T1_18__law_rest1)
def T1_16__law_rest1 : DS := (dSeq (dAsg C11__law_rest1 (gSet 13))
    T1_17__law_rest1)
def T1_15__law_rest1 : DS := (dSeq (dAsg (dDictV (daCons C10__law_rest1 daNil)) (gSet 12))
    T1_16__law_rest1)
def T1_14__law_rest1 : DS := (dSeq (dIfS (dTB (dBin vNe (dCall 3 M_steady_to (daCons (dVar 20) (daCons (dVar 21) (daCons (dVar 22) daNil)))) (dIx (dBin vAdd (dVar 11) (dLst (daCons (dVar 21) daNil))) (dC (.int 0)))))
    (dRet (dC (.bl false)))
    dNext)
    T1_15__law_rest1)
def T1_13__law_rest1 : DS := (dSeq (dAsg C8__law_rest1 (gSet 11))
    T1_14__law_rest1)
def T1_12__law_rest1 : DS := (dSeq (dAsg (dTup (daCons (dCall 2 M__law_roll (daCons (dVar 0) (daCons (dC (.int 8)) daNil))) (daCons (dCall 2 M__law_roll (daCons (dVar 0) (daCons (dC (.int 8)) daNil))) (daCons (dCall 2 M__law_roll (daCons (dVar 0) (daCons (dC (.int 12)) daNil))) daNil)))) (gUn 3 (gsCons (gSet 20) (gsCons (gSet 21) (gsCons (gSet 22) gsNil)))))
    T1_13__law_rest1)
def T1_11__law_rest1 : DS := (dSeq (dIfS (dTB (dBin vNe (dCall 2 M_packs_for (daCons (dVar 1) (daCons (dVar 19) daNil))) (dFn oLen (daCons (dFn (fun _ => oRgL) (daCons (dC (.int 0)) (daCons (dVar 5) (daCons (dVar 19) daNil)))) daNil))))
    (dRet (dC (.bl false)))
    dNext)
    T1_12__law_rest1)
def T1_10__law_rest1 : DS := (dSeq (dIfS (dTB (dBin vNe (dTold toldF (dCall 1 M_highest_house (daCons (dVar 18) daNil))) (dIf (dTB (dBin vGt (dVar 10) (dC (.int 0)))) (dTup (daCons (dVar 10) (daCons (dBin vSub (dVar 18) (dIx (dVar 9) (dVar 10))) daNil))) (dC (.str "no way")))))
    (dRet (dC (.bl false)))
    dNext)
    T1_11__law_rest1)
def T1_9__law_rest1 : DS := (dSeq (dAsg (dFn oMaxA (daCons C7__law_rest1 daNil)) (gSet 10))
    T1_10__law_rest1)
def T1_8__law_rest1 : DS := (dSeq (dAsg C6__law_rest1 (gSet 9))
    T1_9__law_rest1)
def T1_7__law_rest1 : DS := (dSeq (dAsg (dTup (daCons (dCall 2 M__law_roll (daCons (dVar 0) (daCons (dC (.int 120)) daNil))) (daCons (dBin vAdd (dC (.int 1)) (dCall 2 M__law_roll (daCons (dVar 0) (daCons (dC (.int 60)) daNil)))) daNil))) (gUn 2 (gsCons (gSet 18) (gsCons (gSet 19) gsNil))))
    T1_8__law_rest1)
def T1_6__law_rest1 : DS := (dSeq (dIfS (dOr (dTB (dBin vNe (dCall 1 M_cards_for (daCons (dVar 1) daNil)) (dVar 5))) (dTB (dBin vNe (dFn oList (daCons (dCall 1 M_built_order (daCons (dVar 1) daNil)) daNil)) (dVar 7))))
    (dRet (dC (.bl false)))
    dNext)
    T1_7__law_rest1)
def T1_5__law_rest1 : DS := (dSeq (dFor (diRng rng1 (daCons (dVar 1) daNil)) (gSet 8)
    T3_0__law_rest1)
    T1_6__law_rest1)
def T1_4__law_rest1 : DS := (dSeq (dAsg (dLst daNil) (gSet 7))
    T1_5__law_rest1)
def T1_3__law_rest1 : DS := (dSeq (dIfS (dTB (dBin vNe (dTold toldF (dMeth 0 3 M_House_bears (dVar 4) (daCons (dVar 16) (daCons (dVar 17) daNil)))) (dIf (dTB (dBin vInV (dTup (daCons (dVar 16) (daCons (dVar 17) daNil))) (dVar 2))) (dVar 6) (dC (.str "deed")))))
    (dRet (dC (.bl false)))
    dNext)
    T1_4__law_rest1)
def T1_2__law_rest1 : DS := (dSeq (dAsg (dBin vAdd (dVar 6) (dFn oLen (daCons C2__law_rest1 daNil))) (gSet 6))
    T1_3__law_rest1)
def T1_1__law_rest1 : DS := (dSeq (dAsg (dBin vMul (dC (.int 2)) (dFn oLen (daCons C1__law_rest1 daNil))) (gSet 6))
    T1_2__law_rest1)
def N__law_rest1 : List PySem.Str := ["dice", "wide", "tents", "flats", "house", "whole", "over", "order", "level", "sizes", "high", "bad", "tries", "rows", "each", "floor", "storey", "place", "cards", "pack", "hand", "storeys", "breath", "k", "name", "at", "a", "b"]
def D__law_rest1 : DS := (dSeq (dAsg (dTup (daCons (dCall 2 M__law_roll (daCons (dVar 0) (daCons (dC (.int 4)) daNil))) (daCons (dCall 2 M__law_roll (daCons (dVar 0) (daCons (dC (.int 4)) daNil))) daNil))) (gUn 2 (gsCons (gSet 16) (gsCons (gSet 17) gsNil))))
    T1_1__law_rest1)
def M__law_rest1 : FT := runF 28 D__law_rest1
theorem sc__law_rest1 : FnScope N__law_rest1 ["dice", "wide", "tents", "flats", "house", "whole"] (defScope s__law_rest1) := ⟨rfl, rfl, rfl, by decide +kernel, rfl, by decide +kernel, by decide +kernel⟩
theorem F__law_rest1 (kn : Kn K mg base) : DFn P w base (ktD K mg) 6 (He.ga K "_law_rest1") 6 M__law_rest1 := by
  refine DFn.ofD (kt := ktD K mg) (pp := ("_law_rest1", none)) (kn.c.def_ 23 (d := d__law_rest1) rfl) sc__law_rest1 (fun _ _ _ _ _ _ _ us hl => match us, hl with | [_, _, _, _, _, _], _ => rfl) D__law_rest1 (fun A outer s H E W0 hr => ?_)
  have nd : N__law_rest1.Nodup := sc__law_rest1.nd
  exact (sss_cons (ss_asg (sx_tup (sa_cons (sx_call (F__law_roll kn) (hr.mono (by decide)) (g__law_roll kn) rfl rfl (sa_cons (sx_var 0) (sa_cons sx_int sa_nil))) (sa_cons (sx_call (F__law_roll kn) (hr.mono (by decide)) (g__law_roll kn) rfl rfl (sa_cons (sx_var 0) (sa_cons sx_int sa_nil))) sa_nil))) (sg_tup rfl (sgs_cons (sg_name 16 nd) (sgs_cons (sg_name 17 nd) sgs_nil))))
    (sss_cons (ss_set 6 nd (sx_bin ops_mul sx_int (sx_fn fn_len (sa_cons (sx_lc (own := [("a", 26), ("b", 27)]) rfl nd (si_val (sx_var 2)) (by kernel_rfl) (fun _ _ _ _ _ => (sg_tup rfl (sgs_cons (sg_name 26 nd) (sgs_cons (sg_name 27 nd) sgs_nil)))) (fun _ _ _ _ _ => (sts_one (st_w (sw_and (st_cmp (ops_gt (room_hu hr).1) (sx_var 26) (sx_var 16)) (sw_and1 (st_chain (ops_le (room_hu hr).1) (ops_le (room_hu hr).1) (sx_bin ops_add (sx_bin ops_sub (sx_var 17) (sx_var 26)) (sx_var 16)) (sx_var 27) (sx_var 17))))))) (fun _ _ _ _ _ => sx_int)) sa_nil) (hm := m_len kn))))
    (sss_cons (ss_set 6 nd (sx_bin ops_add (sx_var 6) (sx_fn fn_len (sa_cons (sx_lc (own := [("a", 26), ("b", 27)]) rfl nd (si_val (sx_var 3)) (by kernel_rfl) (fun _ _ _ _ _ => (sg_tup rfl (sgs_cons (sg_name 26 nd) (sgs_cons (sg_name 27 nd) sgs_nil)))) (fun _ _ _ _ _ => (sts_one (st_w (sw_and (st_cmp (ops_ge (room_hu hr).1) (sx_var 26) (sx_var 16)) (sw_and1 (st_chain (ops_le (room_hu hr).1) (ops_le (room_hu hr).1) (sx_bin ops_sub (sx_bin ops_add (sx_bin ops_sub (sx_var 17) (sx_var 26)) (sx_var 16)) sx_int) (sx_var 27) (sx_var 17))))))) (fun _ _ _ _ _ => sx_int)) sa_nil) (hm := m_len kn))))
    (sss_cons (ss_if (st_cmp (ops_ne (room_hu hr).1) (sx_told (k := 1) rfl (toldD kn) (by intro cdv s H; exact toldH kn rfl rfl rfl cdv s H) (toldF_ok kn) (tabB kn 1 rfl) rfl (memT 1) (uniqT kn 1) (hr.mono (by decide)) (by kernel_rfl) (fun A outer s H E f c' hr2 => (sx_meth 0 (mt_House_bears kn) (F_House_bears kn) (hr2.mono (by decide)) rfl rfl (sx_var 4) (sa_cons (sx_var 16) (sa_cons (sx_var 17) sa_nil))))) (sx_if (st_cmp (ops_in (room_hu hr).2.1) (sx_tup (sa_cons (sx_var 16) (sa_cons (sx_var 17) sa_nil))) (sx_var 2)) (sx_var 6) sx_str))
    (sss_one (ss_ret sx_bl))
    sss_nil)
    (sss_cons (ss_set 7 nd (sx_lst sa_nil))
    (sss_cons (ss_for passes_cx rfl (si_r1 (sa_cons (sx_var 1) sa_nil) (hm := m_range kn)) (sg_name 8 nd)
    (sss_one (ss_set 7 nd (sx_bin ops_add (sx_bin ops_add (sx_var 7) (sx_lc (own := [("at", 25)]) rfl nd (si_r1 (sa_cons (sx_bin ops_sub (sx_var 1) (sx_var 8)) sa_nil) (hm := m_range kn)) (by kernel_rfl) (fun _ _ _ _ _ => (sg_name 25 nd)) (fun _ _ _ _ _ => sts_nil) (fun _ _ _ _ _ => (sx_tup (sa_cons (sx_var 8) (sa_cons (sx_var 25) (sa_cons sx_str sa_nil))))))) (sx_lc (own := [("at", 25)]) rfl nd (si_r1 (sa_cons (sx_bin ops_sub (sx_bin ops_sub (sx_var 1) (sx_var 8)) sx_int) sa_nil) (hm := m_range kn)) (by kernel_rfl) (fun _ _ _ _ _ => (sg_name 25 nd)) (fun _ _ _ _ _ => sts_nil) (fun _ _ _ _ _ => (sx_tup (sa_cons (sx_var 8) (sa_cons (sx_var 25) (sa_cons sx_str sa_nil))))))))))
    (sss_cons (ss_if (st_w (sw_or (st_cmp (ops_ne (room_hu hr).1) (sx_call (F_cards_for kn) (hr.mono (by decide)) (g_cards_for kn) rfl rfl (sa_cons (sx_var 1) sa_nil)) (sx_var 5)) (sw_or1 (st_cmp (ops_ne (room_hu hr).1) (sx_ty fn_list (sa_cons (sx_call (F_built_order kn) (hr.mono (by decide)) (g_built_order kn) rfl rfl (sa_cons (sx_var 1) sa_nil)) sa_nil) (hm := m_list kn)) (sx_var 7)))))
    (sss_one (ss_ret sx_bl))
    sss_nil)
    (sss_cons (ss_asg (sx_tup (sa_cons (sx_call (F__law_roll kn) (hr.mono (by decide)) (g__law_roll kn) rfl rfl (sa_cons (sx_var 0) (sa_cons sx_int sa_nil))) (sa_cons (sx_bin ops_add sx_int (sx_call (F__law_roll kn) (hr.mono (by decide)) (g__law_roll kn) rfl rfl (sa_cons (sx_var 0) (sa_cons sx_int sa_nil)))) sa_nil))) (sg_tup rfl (sgs_cons (sg_name 18 nd) (sgs_cons (sg_name 19 nd) sgs_nil))))
    (sss_cons (ss_set 9 nd (sx_lc (own := [("high", 10)]) rfl nd (si_r1 (sa_cons sx_int sa_nil) (hm := m_range kn)) (by kernel_rfl) (fun _ _ _ _ _ => (sg_name 10 nd)) (fun _ _ _ _ _ => sts_nil) (fun _ _ _ _ _ => (sx_fn (fn_sumI rfl) (sa_cons (sx_lc (own := [("k", 23)]) rfl nd (si_r2 (sa_cons sx_int (sa_cons (sx_bin ops_add (sx_var 10) sx_int) sa_nil)) (hm := m_range kn)) (by kernel_rfl) (fun _ _ _ _ _ => (sg_name 23 nd)) (fun _ _ _ _ _ => sts_nil) (fun _ _ _ _ _ => (sx_bin ops_sub (sx_bin ops_mul sx_int (sx_var 23)) sx_int))) sa_nil) (hm := m_sum kn)))))
    (sss_cons (ss_set 10 nd (sx_fn ((fn_maxI rfl).or (fn_maxV rfl (room_hu hr).1)) (sa_cons (sx_lc (own := [("k", 23)]) rfl nd (si_r1 (sa_cons sx_int sa_nil) (hm := m_range kn)) (by kernel_rfl) (fun _ _ _ _ _ => (sg_name 23 nd)) (fun _ _ _ _ _ => (sts_one (st_cmp (ops_le (room_hu hr).1) (sx_ix (room_hu hr).2.2 (sx_var 9) (sx_var 23)) (sx_var 18)))) (fun _ _ _ _ _ => (sx_var 23))) sa_nil) (hm := m_max kn)))
    (sss_cons (ss_if (st_cmp (ops_ne (room_hu hr).1) (sx_told (k := 2) rfl (toldD kn) (by intro cdv s H; exact toldH kn rfl rfl rfl cdv s H) (toldF_ok kn) (tabB kn 1 rfl) rfl (memT 1) (uniqT kn 1) (hr.mono (by decide)) (by kernel_rfl) (fun A outer s H E f c' hr2 => (sx_call (F_highest_house kn) (hr2.mono (by decide)) (g_highest_house kn) rfl rfl (sa_cons (sx_var 18) sa_nil)))) (sx_if (st_cmp (ops_gt (room_hu hr).1) (sx_var 10) sx_int) (sx_tup (sa_cons (sx_var 10) (sa_cons (sx_bin ops_sub (sx_var 18) (sx_ix (room_hu hr).2.2 (sx_var 9) (sx_var 10))) sa_nil))) sx_str))
    (sss_one (ss_ret sx_bl))
    sss_nil)
    (sss_cons (ss_if (st_cmp (ops_ne (room_hu hr).1) (sx_call (F_packs_for kn) (hr.mono (by decide)) (g_packs_for kn) rfl rfl (sa_cons (sx_var 1) (sa_cons (sx_var 19) sa_nil))) (sx_fn fn_len (sa_cons (sx_lrg rfl (sa_cons sx_int (sa_cons (sx_var 5) (sa_cons (sx_var 19) sa_nil))) (hm := m_range kn) (hml := m_list kn)) sa_nil) (hm := m_len kn)))
    (sss_one (ss_ret sx_bl))
    sss_nil)
    (sss_cons (ss_asg (sx_tup (sa_cons (sx_call (F__law_roll kn) (hr.mono (by decide)) (g__law_roll kn) rfl rfl (sa_cons (sx_var 0) (sa_cons sx_int sa_nil))) (sa_cons (sx_call (F__law_roll kn) (hr.mono (by decide)) (g__law_roll kn) rfl rfl (sa_cons (sx_var 0) (sa_cons sx_int sa_nil))) (sa_cons (sx_call (F__law_roll kn) (hr.mono (by decide)) (g__law_roll kn) rfl rfl (sa_cons (sx_var 0) (sa_cons sx_int sa_nil))) sa_nil)))) (sg_tup rfl (sgs_cons (sg_name 20 nd) (sgs_cons (sg_name 21 nd) (sgs_cons (sg_name 22 nd) sgs_nil)))))
    (sss_cons (ss_setLc 11 (own := [("k", 23)]) rfl nd (si_r1 (sa_cons (sx_var 21) sa_nil) (hm := m_range kn)) (by kernel_rfl) (fun _ _ _ _ _ => (sg_name 23 nd)) (fun _ _ _ _ _ => (sts_one (st_cmp (ops_gt (room_hu hr).1) (sx_bin ops_add (sx_var 20) (sx_bin ops_mul sx_int (sx_var 23))) (sx_var 22)))) (fun _ _ _ _ _ => (sx_var 23)))
    (sss_cons (ss_if (st_cmp (ops_ne (room_hu hr).1) (sx_call (F_steady_to kn) (hr.mono (by decide)) (g_steady_to kn) rfl rfl (sa_cons (sx_var 20) (sa_cons (sx_var 21) (sa_cons (sx_var 22) sa_nil)))) (sx_ix (room_hu hr).2.2 (sx_bin ops_add (sx_var 11) (sx_lst (sa_cons (sx_var 21) sa_nil))) sx_int))
    (sss_one (ss_ret sx_bl))
    sss_nil)
    (sss_cons (ss_set 12 nd (sx_dictV rfl (sa_cons (sx_lc (own := [("name", 24)]) rfl nd (si_val (sx_lst (sa_cons sx_str (sa_cons sx_str (sa_cons sx_str sa_nil))))) (by kernel_rfl) (fun _ _ _ _ _ => (sg_name 24 nd)) (fun _ _ _ _ _ => sts_nil) (fun _ _ _ _ _ => (sx_tup (sa_cons (sx_var 24) (sa_cons (sx_lc (own := [("k", 23)]) rfl nd (si_r1 (sa_cons (sx_call (F__law_roll kn) (hr.mono (by decide)) (g__law_roll kn) rfl rfl (sa_cons (sx_var 0) (sa_cons sx_int sa_nil))) sa_nil) (hm := m_range kn)) (by kernel_rfl) (fun _ _ _ _ _ => (sg_name 23 nd)) (fun _ _ _ _ _ => sts_nil) (fun _ _ _ _ _ => (sx_call (F__law_roll kn) (hr.mono (by decide)) (g__law_roll kn) rfl rfl (sa_cons (sx_var 0) (sa_cons sx_int sa_nil))))) sa_nil))))) sa_nil) (hm := m_dict kn)))
    (sss_cons (ss_setLc 13 (own := [("name", 24)]) rfl nd (si_keys (sx_var 12)) (by kernel_rfl) (fun _ _ _ _ _ => (sg_name 24 nd)) (fun _ _ _ _ _ => (sts_one (st_cmp (ops_ne (room_hu hr).1) (sx_ix (room_hu hr).2.2 (sx_var 12) (sx_var 24)) (sx_lst sa_nil)))) (fun _ _ _ _ _ => (sx_tup (sa_cons (sx_bin ops_sub sx_int (sx_fn ((fn_maxI rfl).or (fn_maxV rfl (room_hu hr).1)) (sa_cons (sx_ix (room_hu hr).2.2 (sx_var 12) (sx_var 24)) sa_nil) (hm := m_max kn))) (sa_cons (sx_bin ops_sub sx_int (sx_bm rc_lst bm_lcnt PySem.F.plainAttrs_list PySem.F.slot_list_count PySem.F.type_list_count (sx_ix (room_hu hr).2.2 (sx_var 12) (sx_var 24)) (sa_cons (sx_fn ((fn_maxI rfl).or (fn_maxV rfl (room_hu hr).1)) (sa_cons (sx_ix (room_hu hr).2.2 (sx_var 12) (sx_var 24)) sa_nil) (hm := m_max kn)) sa_nil))) (sa_cons (sx_var 24) sa_nil))))))
    (sss_cons (ss_if (st_cmp (ops_ne (room_hu hr).1) (sx_told (k := 1) rfl (toldD kn) (by intro cdv s H; exact toldH kn rfl rfl rfl cdv s H) (toldF_ok kn) (tabB kn 1 rfl) rfl (memT 1) (uniqT kn 1) (hr.mono (by decide)) (by kernel_rfl) (fun A outer s H E f c' hr2 => (sx_call (F_best_builder kn) (hr2.mono (by decide)) (g_best_builder kn) rfl rfl (sa_cons (sx_var 12) sa_nil)))) (sx_if (st_cmp (ops_ne (room_hu hr).1) (sx_var 13) (sx_lst sa_nil)) (sx_ix (room_hu hr).2.2 (sx_fn ((fn_minI rfl).or (fn_minV rfl (room_hu hr).1)) (sa_cons (sx_var 13) sa_nil) (hm := m_min kn)) sx_int) sx_str))
    (sss_one (ss_ret sx_bl))
    sss_nil)
    (sss_cons (ss_set 14 nd (sx_bin ops_add sx_int (sx_call (F__law_roll kn) (hr.mono (by decide)) (g__law_roll kn) rfl rfl (sa_cons (sx_var 0) (sa_cons sx_int sa_nil)))))
    (sss_cons (ss_set 15 nd (sx_bin ops_add (sx_bin ops_mul sx_int (sx_var 14)) (sx_if (st_cmp (ops_gt (room_hu hr).1) (sx_var 14) sx_int) (sx_bin ops_sub (sx_var 14) sx_int) sx_int)))
    (sss_cons (ss_if (st_cmp (ops_ne (room_hu hr).1) (sx_call (F_tower_of kn) (hr.mono (by decide)) (g_tower_of kn) rfl rfl (sa_cons (sx_var 18) (sa_cons (sx_var 14) sa_nil))) (sx_tup (sa_cons (sx_bin ops_fdiv (sx_var 18) (sx_var 15)) (sa_cons (sx_bin ops_mod (sx_var 18) (sx_var 15)) sa_nil))))
    (sss_one (ss_ret sx_bl))
    sss_nil)
    (sss_cons (ss_if (st_not (st_val (sx_call0 (F__law_cases1 kn) (hr.mono (by decide)) (g__law_cases1 kn) rfl rfl)))
    (sss_one (ss_ret sx_bl))
    sss_nil)
    (sss_one (ss_ret sx_bl))))))))))))))))))))))))
def C1_law : DE := (dLc [12] (diRng rng1 (daCons (dBin vSub (dVar 8) (dVar 4)) daNil)) (gSet 12) dYes (dTup (daCons (dVar 4) (daCons (dVar 12) daNil))))
def T3_0_law : DS := (dAsg (dBin vAdd (dVar 3) C1_law) (gSet 3))
def T5_3_law : DS := (dAsg (dBin vAdd (dVar 9) (dIf (dTB (dBin vIsN (dVar 15) (dC .non))) (dLst (daCons (dVar 13) daNil)) (dLst daNil))) (gSet 9))
def T5_2_law : DS := (dSeq (dAsg (dTold toldF (dMeth 0 3 M_House_lean (dVar 2) (daCons (dVar 4) (daCons (dVar 12) daNil)))) (gSet 16))
    T5_3_law)
def T5_1_law : DS := (dSeq (dAsg (dIf (dAnd (dTB (dBin vIsN (dVar 15) (dC .non))) (dAnd (dTB (dBin vGt (dVar 4) (dC (.int 0)))) (dTB (dBin vNotInV (dTup (daCons (dBin vSub (dVar 4) (dC (.int 1))) (daCons (dVar 12) daNil))) (dVar 10))))) (dC (.str "no room")) (dVar 15)) (gSet 15))
    T5_2_law)
def T7_3_law : DS := (dAsg (dBin vAdd (dVar 10) (dIf (dTB (dBin vIsN (dVar 15) (dC .non))) (dLst (daCons (dVar 13) daNil)) (dLst daNil))) (gSet 10))
def T7_2_law : DS := (dSeq (dAsg (dTold toldF (dMeth 0 3 M_House_lay (dVar 2) (daCons (dVar 4) (daCons (dVar 12) daNil)))) (gSet 16))
    T7_3_law)
def T7_1_law : DS := (dSeq (dAsg (dIf (dAnd (dTB (dBin vIsN (dVar 15) (dC .non))) (dOr (dTB (dBin vNotInV (dVar 13) (dVar 9))) (dTB (dBin vNotInV (dVar 14) (dVar 9))))) (dC (.str "no room")) (dVar 15)) (gSet 15))
    T7_2_law)
def C2_law : DE := (dLc [20] (diVal (dVar 9)) (gSet 20) (dTB (dBin vNe (dVar 20) (dVar 13))) (dVar 20))
def T8_4_law : DS := (dAsg (dVar 18) (gUn 2 (gsCons (gSet 9) (gsCons (gSet 10) gsNil))))
def T8_3_law : DS := (dSeq (dAsg (dTold toldF (dMeth 0 3 M_House_knock (dVar 2) (daCons (dVar 4) (daCons (dVar 12) daNil)))) (gSet 16))
    T8_4_law)
def T8_2_law : DS := (dSeq (dAsg (dIf (dTB (dBin vInV (dVar 13) (dVar 9))) (dBin vSub (dBin vSub (dVar 17) (dBin vMul (dC (.int 2)) (dFn oLen (daCons (dIx (dVar 18) (dC (.int 0))) daNil)))) (dFn oLen (daCons (dIx (dVar 18) (dC (.int 1))) daNil))) (dC (.str "deed"))) (gSet 15))
    T8_3_law)
def T8_1_law : DS := (dSeq (dAsg (dCall 2 M__law_falls (daCons C2_law (daCons (dVar 10) daNil))) (gSet 18))
    T8_2_law)
def T4_3_law : DS := (dIfS (dOr (dTB (dBin vNe (dVar 16) (dVar 15))) (dTB (dBin vNe (dMeth 0 1 M_House_shown (dVar 2) daNil) (dTup (daCons (dFn oTuple (daCons (dFn oSortV (daCons (dVar 9) daNil)) daNil)) (daCons (dFn oTuple (daCons (dFn oSortV (daCons (dVar 10) daNil)) daNil)) daNil))))))
    (dRet (dC (.bl false)))
    dNext)
def T4_2_law : DS := (dSeq (dIfS (dTB (dBin vLt (dVar 11) (dC (.int 3))))
    (dSeq (dAsg (dIf (dTB (dBin vNotInV (dVar 13) (dVar 3))) (dC (.str "no such")) (dIf (dTB (dBin vInV (dVar 13) (dVar 9))) (dC (.str "deed")) (dC .non))) (gSet 15))
    T5_1_law)
    (dIfS (dTB (dBin vLt (dVar 11) (dC (.int 6))))
    (dSeq (dAsg (dIf (dOr (dTB (dBin vNotInV (dVar 13) (dVar 3))) (dTB (dBin vNotInV (dVar 14) (dVar 3)))) (dC (.str "no such")) (dIf (dTB (dBin vInV (dVar 13) (dVar 10))) (dC (.str "deed")) (dC .non))) (gSet 15))
    T7_1_law)
    (dSeq (dAsg (dBin vAdd (dBin vMul (dC (.int 2)) (dFn oLen (daCons (dVar 9) daNil))) (dFn oLen (daCons (dVar 10) daNil))) (gSet 17))
    T8_1_law)))
    T4_3_law)
def T4_1_law : DS := (dSeq (dAsg (dTup (daCons (dTup (daCons (dVar 4) (daCons (dVar 12) daNil))) (daCons (dTup (daCons (dVar 4) (daCons (dBin vAdd (dVar 12) (dC (.int 1))) daNil))) daNil))) (gUn 2 (gsCons (gSet 13) (gsCons (gSet 14) gsNil))))
    T4_2_law)
def T4_0_law : DS := (dSeq (dAsg (dTup (daCons (dCall 2 M__law_roll (daCons (dVar 1) (daCons (dC (.int 7)) daNil))) (daCons (dCall 2 M__law_roll (daCons (dVar 1) (daCons (dC (.int 4)) daNil))) (daCons (dCall 2 M__law_roll (daCons (dVar 1) (daCons (dC (.int 4)) daNil))) daNil)))) (gUn 3 (gsCons (gSet 11) (gsCons (gSet 4) (gsCons (gSet 12) gsNil)))))
    T4_1_law)
def C3_law : DE := (dLc [19] (diRng rng1 (daCons (dVar 8) daNil)) (gSet 19) dYes (dBin vSub (dBin vSub (dBin vAdd (dBin vMul (dC (.int 2)) (dBin vSub (dVar 8) (dVar 19))) (dVar 8)) (dVar 19)) (dC (.int 1))))
def C4_law : DE := (dLc [20] (diVal (dVar 9)) (gSet 20) (dTB (dBin vEq (dIx (dVar 20) (dC (.int 0))) (dVar 19))) (dC (.int 1)))
def C5_law : DE := (dLc [19] (diRng rng1 (daCons (dVar 8) daNil)) (gSet 19) (dTB (dBin vNe C4_law (dLst daNil))) (dVar 19))
def C6_law : DE := (dLc [13] (diVal (dVar 3)) (gSet 13) (dAnd (dTB (dBin vNotInV (dVar 13) (dVar 9))) (dOr (dTB (dBin vEq (dIx (dVar 13) (dC (.int 0))) (dC (.int 0)))) (dTB (dBin vInV (dTup (daCons (dBin vSub (dIx (dVar 13) (dC (.int 0))) (dC (.int 1))) (daCons (dIx (dVar 13) (dC (.int 1))) daNil))) (dVar 10))))) (dVar 13))
def T2_9_law : DS := (dIfS (dNot (dTest (dCall 6 M__law_rest1 (daCons (dVar 1) (daCons (dVar 8) (daCons (dVar 9) (daCons (dVar 10) (daCons (dVar 2) (daCons (dVar 7) daNil)))))))))
    (dRet (dC (.bl false)))
    dNext)
def T2_8_law : DS := (dSeq (dIfS (dOr (dTB (dBin vNe (dMeth 0 1 M_House_whole (dVar 2) daNil) (dBin vEq (dVar 6) (dVar 7)))) (dTB (dBin vNe (dFn oList (daCons (dMeth 0 1 M_House_free (dVar 2) daNil) daNil)) C6_law)))
    (dRet (dC (.bl false)))
    dNext)
    T2_9_law)
def T2_7_law : DS := (dSeq (dIfS (dOr (dTB (dBin vNe (dMeth 0 1 M_House_card_count (dVar 2) daNil) (dVar 6))) (dTB (dBin vNe (dMeth 0 1 M_House_storeys (dVar 2) daNil) (dFn oLen (daCons C5_law daNil)))))
    (dRet (dC (.bl false)))
    dNext)
    T2_8_law)
def T2_6_law : DS := (dSeq (dAsg (dFn oSumI (daCons C3_law daNil)) (gSet 7))
    T2_7_law)
def T2_5_law : DS := (dSeq (dAsg (dBin vAdd (dBin vMul (dC (.int 2)) (dFn oLen (daCons (dVar 9) daNil))) (dFn oLen (daCons (dVar 10) daNil))) (gSet 6))
    T2_6_law)
def T2_4_law : DS := (dSeq (dFor (diRng rng1 (daCons (dCall 2 M__law_roll (daCons (dVar 1) (daCons (dC (.int 15)) daNil))) daNil)) (gSet 5)
    T4_0_law)
    T2_5_law)
def T2_3_law : DS := (dSeq (dFor (diRng rng1 (daCons (dVar 8) daNil)) (gSet 4)
    T3_0_law)
    T2_4_law)
def T2_2_law : DS := (dSeq (dAsg (dLst daNil) (gSet 3))
    T2_3_law)
def T2_1_law : DS := (dSeq (dAsg (dMake 0 2 M_House___init__ (daCons (dVar 8) daNil)) (gSet 2))
    T2_2_law)
def T2_0_law : DS := (dSeq (dAsg (dTup (daCons (dBin vAdd (dC (.int 1)) (dCall 2 M__law_roll (daCons (dVar 1) (daCons (dC (.int 4)) daNil)))) (daCons (dLst daNil) (daCons (dLst daNil) daNil)))) (gUn 3 (gsCons (gSet 8) (gsCons (gSet 9) (gsCons (gSet 10) gsNil)))))
    T2_1_law)
def T1_1_law : DS := (dRet (dC (.bl true)))
def N_law : List PySem.Str := ["script", "dice", "house", "spots", "storey", "step", "many", "whole", "wide", "tents", "flats", "sort", "place", "spot", "after", "due", "told", "before", "fell", "k", "one"]
def D_law : DS := (dSeq (dFor (diVal (dCall 2 M__law_rounds (daCons (dVar 0) (daCons (dC (.int 1)) daNil)))) (gSet 1)
    T2_0_law)
    T1_1_law)
def M_law : FT := runF 21 D_law
theorem sc_law : FnScope N_law ["script"] (defScope s_law) := ⟨rfl, rfl, rfl, by decide +kernel, rfl, by decide +kernel, by decide +kernel⟩
theorem B_law (kn : Kn K mg base) (A : Around) (outer : List Env) (s : Shared) (H : Hp) (E : XK) (W0 : Wd) (hr : Room 6 (A.deeper (envOfC d_law.qual d_law.scope s.heap.objs.size (He.fAd (ktD K mg).K ("law", none)) (.ref (He.codeOf (ktD K mg).K ("law", none)))))) :
    SSs (ktD K mg) ⟨W0, false, false⟩ (cxOf (L2.CX P w) P w (ktD K mg).K (ktD K mg).mg base N_law d_law.qual d_law.scope (He.fAd (ktD K mg).K ("law", none)) (.ref (He.codeOf (ktD K mg).K ("law", none))) A outer s H E) d_law.body D_law := by
  have nd : N_law.Nodup := sc_law.nd
  exact (sss_cons (ss_for passes_cx rfl (si_val (sx_call (F__law_rounds kn) (hr.mono (by decide)) (g__law_rounds kn) rfl rfl (sa_cons (sx_var 0) (sa_cons sx_int sa_nil)))) (sg_name 1 nd)
    (sss_cons (ss_asg (sx_tup (sa_cons (sx_bin ops_add sx_int (sx_call (F__law_roll kn) (hr.mono (by decide)) (g__law_roll kn) rfl rfl (sa_cons (sx_var 1) (sa_cons sx_int sa_nil)))) (sa_cons (sx_lst sa_nil) (sa_cons (sx_lst sa_nil) sa_nil)))) (sg_tup rfl (sgs_cons (sg_name 8 nd) (sgs_cons (sg_name 9 nd) (sgs_cons (sg_name 10 nd) sgs_nil)))))
    (sss_cons (ss_set 2 nd (sx_make 0 (mk_House kn) (cls_House kn) (F_House___init__ kn) (hr.mono (by decide)) (g_House kn) rfl rfl (sa_cons (sx_var 8) sa_nil)))
    (sss_cons (ss_set 3 nd (sx_lst sa_nil))
    (sss_cons (ss_for passes_cx rfl (si_r1 (sa_cons (sx_var 8) sa_nil) (hm := m_range kn)) (sg_name 4 nd)
    (sss_one (ss_set 3 nd (sx_bin ops_add (sx_var 3) (sx_lc (own := [("place", 12)]) rfl nd (si_r1 (sa_cons (sx_bin ops_sub (sx_var 8) (sx_var 4)) sa_nil) (hm := m_range kn)) (by kernel_rfl) (fun _ _ _ _ _ => (sg_name 12 nd)) (fun _ _ _ _ _ => sts_nil) (fun _ _ _ _ _ => (sx_tup (sa_cons (sx_var 4) (sa_cons (sx_var 12) sa_nil)))))))))
    (sss_cons (ss_for passes_cx rfl (si_r1 (sa_cons (sx_call (F__law_roll kn) (hr.mono (by decide)) (g__law_roll kn) rfl rfl (sa_cons (sx_var 1) (sa_cons sx_int sa_nil))) sa_nil) (hm := m_range kn)) (sg_name 5 nd)
    (sss_cons (ss_asg (sx_tup (sa_cons (sx_call (F__law_roll kn) (hr.mono (by decide)) (g__law_roll kn) rfl rfl (sa_cons (sx_var 1) (sa_cons sx_int sa_nil))) (sa_cons (sx_call (F__law_roll kn) (hr.mono (by decide)) (g__law_roll kn) rfl rfl (sa_cons (sx_var 1) (sa_cons sx_int sa_nil))) (sa_cons (sx_call (F__law_roll kn) (hr.mono (by decide)) (g__law_roll kn) rfl rfl (sa_cons (sx_var 1) (sa_cons sx_int sa_nil))) sa_nil)))) (sg_tup rfl (sgs_cons (sg_name 11 nd) (sgs_cons (sg_name 4 nd) (sgs_cons (sg_name 12 nd) sgs_nil)))))
    (sss_cons (ss_asg (sx_tup (sa_cons (sx_tup (sa_cons (sx_var 4) (sa_cons (sx_var 12) sa_nil))) (sa_cons (sx_tup (sa_cons (sx_var 4) (sa_cons (sx_bin ops_add (sx_var 12) sx_int) sa_nil))) sa_nil))) (sg_tup rfl (sgs_cons (sg_name 13 nd) (sgs_cons (sg_name 14 nd) sgs_nil))))
    (sss_cons (ss_if (st_cmp (ops_lt (room_hu hr).1) (sx_var 11) sx_int)
    (sss_cons (ss_set 15 nd (sx_if (st_cmp (ops_notIn (room_hu hr).2.1) (sx_var 13) (sx_var 3)) sx_str (sx_if (st_cmp (ops_in (room_hu hr).2.1) (sx_var 13) (sx_var 9)) sx_str sx_non)))
    (sss_cons (ss_set 15 nd (sx_if (st_w (sw_and (st_cmp ops_isN (sx_var 15) sx_non) (sw_and (st_cmp (ops_gt (room_hu hr).1) (sx_var 4) sx_int) (sw_and1 (st_cmp (ops_notIn (room_hu hr).2.1) (sx_tup (sa_cons (sx_bin ops_sub (sx_var 4) sx_int) (sa_cons (sx_var 12) sa_nil))) (sx_var 10)))))) sx_str (sx_var 15)))
    (sss_cons (ss_set 16 nd (sx_told (k := 1) rfl (toldD kn) (by intro cdv s H; exact toldH kn rfl rfl rfl cdv s H) (toldF_ok kn) (tabB kn 2 rfl) rfl (memT 2) (uniqT kn 2) (hr.mono (by decide)) (by kernel_rfl) (fun A outer s H E f c' hr2 => (sx_meth 0 (mt_House_lean kn) (F_House_lean kn) (hr2.mono (by decide)) rfl rfl (sx_var 2) (sa_cons (sx_var 4) (sa_cons (sx_var 12) sa_nil))))))
    (sss_one (ss_set 9 nd (sx_bin ops_add (sx_var 9) (sx_if (st_cmp ops_isN (sx_var 15) sx_non) (sx_lst (sa_cons (sx_var 13) sa_nil)) (sx_lst sa_nil))))))))
    (sss_one (ss_if (st_cmp (ops_lt (room_hu hr).1) (sx_var 11) sx_int)
    (sss_cons (ss_set 15 nd (sx_if (st_w (sw_or (st_cmp (ops_notIn (room_hu hr).2.1) (sx_var 13) (sx_var 3)) (sw_or1 (st_cmp (ops_notIn (room_hu hr).2.1) (sx_var 14) (sx_var 3))))) sx_str (sx_if (st_cmp (ops_in (room_hu hr).2.1) (sx_var 13) (sx_var 10)) sx_str sx_non)))
    (sss_cons (ss_set 15 nd (sx_if (st_w (sw_and (st_cmp ops_isN (sx_var 15) sx_non) (sw_and1 (st_w (sw_or (st_cmp (ops_notIn (room_hu hr).2.1) (sx_var 13) (sx_var 9)) (sw_or1 (st_cmp (ops_notIn (room_hu hr).2.1) (sx_var 14) (sx_var 9)))))))) sx_str (sx_var 15)))
    (sss_cons (ss_set 16 nd (sx_told (k := 1) rfl (toldD kn) (by intro cdv s H; exact toldH kn rfl rfl rfl cdv s H) (toldF_ok kn) (tabB kn 2 rfl) rfl (memT 2) (uniqT kn 2) (hr.mono (by decide)) (by kernel_rfl) (fun A outer s H E f c' hr2 => (sx_meth 0 (mt_House_lay kn) (F_House_lay kn) (hr2.mono (by decide)) rfl rfl (sx_var 2) (sa_cons (sx_var 4) (sa_cons (sx_var 12) sa_nil))))))
    (sss_one (ss_set 10 nd (sx_bin ops_add (sx_var 10) (sx_if (st_cmp ops_isN (sx_var 15) sx_non) (sx_lst (sa_cons (sx_var 13) sa_nil)) (sx_lst sa_nil))))))))
    (sss_cons (ss_set 17 nd (sx_bin ops_add (sx_bin ops_mul sx_int (sx_fn fn_len (sa_cons (sx_var 9) sa_nil) (hm := m_len kn))) (sx_fn fn_len (sa_cons (sx_var 10) sa_nil) (hm := m_len kn))))
    (sss_cons (ss_set 18 nd (sx_call (F__law_falls kn) (hr.mono (by decide)) (g__law_falls kn) rfl rfl (sa_cons (sx_lc (own := [("one", 20)]) rfl nd (si_val (sx_var 9)) (by kernel_rfl) (fun _ _ _ _ _ => (sg_name 20 nd)) (fun _ _ _ _ _ => (sts_one (st_cmp (ops_ne (room_hu hr).1) (sx_var 20) (sx_var 13)))) (fun _ _ _ _ _ => (sx_var 20))) (sa_cons (sx_var 10) sa_nil))))
    (sss_cons (ss_set 15 nd (sx_if (st_cmp (ops_in (room_hu hr).2.1) (sx_var 13) (sx_var 9)) (sx_bin ops_sub (sx_bin ops_sub (sx_var 17) (sx_bin ops_mul sx_int (sx_fn fn_len (sa_cons (sx_ix (room_hu hr).2.2 (sx_var 18) sx_int) sa_nil) (hm := m_len kn)))) (sx_fn fn_len (sa_cons (sx_ix (room_hu hr).2.2 (sx_var 18) sx_int) sa_nil) (hm := m_len kn))) sx_str))
    (sss_cons (ss_set 16 nd (sx_told (k := 2) rfl (toldD kn) (by intro cdv s H; exact toldH kn rfl rfl rfl cdv s H) (toldF_ok kn) (tabB kn 2 rfl) rfl (memT 2) (uniqT kn 2) (hr.mono (by decide)) (by kernel_rfl) (fun A outer s H E f c' hr2 => (sx_meth 0 (mt_House_knock kn) (F_House_knock kn) (hr2.mono (by decide)) rfl rfl (sx_var 2) (sa_cons (sx_var 4) (sa_cons (sx_var 12) sa_nil))))))
    (sss_one (ss_asg (sx_var 18) (sg_tup rfl (sgs_cons (sg_name 9 nd) (sgs_cons (sg_name 10 nd) sgs_nil))))))))))))
    (sss_one (ss_if (st_w (sw_or (st_cmp (ops_ne (room_hu hr).1) (sx_var 16) (sx_var 15)) (sw_or1 (st_cmp (ops_ne (room_hu hr).1) (sx_meth0 0 (mt_House_shown kn) (F_House_shown kn) (hr.mono (by decide)) rfl rfl (sx_var 2)) (sx_tup (sa_cons (sx_ty fn_tuple (sa_cons (sx_fn (fn_sortV (room_hu hr).1) (sa_cons (sx_var 9) sa_nil) (hm := m_sorted kn)) sa_nil) (hm := m_tuple kn)) (sa_cons (sx_ty fn_tuple (sa_cons (sx_fn (fn_sortV (room_hu hr).1) (sa_cons (sx_var 10) sa_nil) (hm := m_sorted kn)) sa_nil) (hm := m_tuple kn)) sa_nil)))))))
    (sss_one (ss_ret sx_bl))
    sss_nil))))))
    (sss_cons (ss_set 6 nd (sx_bin ops_add (sx_bin ops_mul sx_int (sx_fn fn_len (sa_cons (sx_var 9) sa_nil) (hm := m_len kn))) (sx_fn fn_len (sa_cons (sx_var 10) sa_nil) (hm := m_len kn))))
    (sss_cons (ss_set 7 nd (sx_fn (fn_sumI rfl) (sa_cons (sx_lc (own := [("k", 19)]) rfl nd (si_r1 (sa_cons (sx_var 8) sa_nil) (hm := m_range kn)) (by kernel_rfl) (fun _ _ _ _ _ => (sg_name 19 nd)) (fun _ _ _ _ _ => sts_nil) (fun _ _ _ _ _ => (sx_bin ops_sub (sx_bin ops_sub (sx_bin ops_add (sx_bin ops_mul sx_int (sx_bin ops_sub (sx_var 8) (sx_var 19))) (sx_var 8)) (sx_var 19)) sx_int))) sa_nil) (hm := m_sum kn)))
    (sss_cons (ss_if (st_w (sw_or (st_cmp (ops_ne (room_hu hr).1) (sx_meth0 0 (mt_House_card_count kn) (F_House_card_count kn) (hr.mono (by decide)) rfl rfl (sx_var 2)) (sx_var 6)) (sw_or1 (st_cmp (ops_ne (room_hu hr).1) (sx_meth0 0 (mt_House_storeys kn) (F_House_storeys kn) (hr.mono (by decide)) rfl rfl (sx_var 2)) (sx_fn fn_len (sa_cons (sx_lc (own := [("k", 19)]) rfl nd (si_r1 (sa_cons (sx_var 8) sa_nil) (hm := m_range kn)) (by kernel_rfl) (fun _ _ _ _ _ => (sg_name 19 nd)) (fun _ _ _ _ _ => (sts_one (st_cmp (ops_ne (room_hu hr).1) (sx_lc (own := [("one", 20)]) rfl nd (si_val (sx_var 9)) (by kernel_rfl) (fun _ _ _ _ _ => (sg_name 20 nd)) (fun _ _ _ _ _ => (sts_one (st_cmp (ops_eq (room_hu hr).1) (sx_ix (room_hu hr).2.2 (sx_var 20) sx_int) (sx_var 19)))) (fun _ _ _ _ _ => sx_int)) (sx_lst sa_nil)))) (fun _ _ _ _ _ => (sx_var 19))) sa_nil) (hm := m_len kn))))))
    (sss_one (ss_ret sx_bl))
    sss_nil)
    (sss_cons (ss_if (st_w (sw_or (st_cmp (ops_ne (room_hu hr).1) (sx_meth0 0 (mt_House_whole kn) (F_House_whole kn) (hr.mono (by decide)) rfl rfl (sx_var 2)) (sx_cmp (ops_eq (room_hu hr).1) (sx_var 6) (sx_var 7))) (sw_or1 (st_cmp (ops_ne (room_hu hr).1) (sx_ty fn_list (sa_cons (sx_meth0 0 (mt_House_free kn) (F_House_free kn) (hr.mono (by decide)) rfl rfl (sx_var 2)) sa_nil) (hm := m_list kn)) (sx_lc (own := [("spot", 13)]) rfl nd (si_val (sx_var 3)) (by kernel_rfl) (fun _ _ _ _ _ => (sg_name 13 nd)) (fun _ _ _ _ _ => (sts_one (st_w (sw_and (st_cmp (ops_notIn (room_hu hr).2.1) (sx_var 13) (sx_var 9)) (sw_and1 (st_w (sw_or (st_cmp (ops_eq (room_hu hr).1) (sx_ix (room_hu hr).2.2 (sx_var 13) sx_int) sx_int) (sw_or1 (st_cmp (ops_in (room_hu hr).2.1) (sx_tup (sa_cons (sx_bin ops_sub (sx_ix (room_hu hr).2.2 (sx_var 13) sx_int) sx_int) (sa_cons (sx_ix (room_hu hr).2.2 (sx_var 13) sx_int) sa_nil))) (sx_var 10)))))))))) (fun _ _ _ _ _ => (sx_var 13)))))))
    (sss_one (ss_ret sx_bl))
    sss_nil)
    (sss_one (ss_if (st_not (st_val (sx_call (F__law_rest1 kn) (hr.mono (by decide)) (g__law_rest1 kn) rfl rfl (sa_cons (sx_var 1) (sa_cons (sx_var 8) (sa_cons (sx_var 9) (sa_cons (sx_var 10) (sa_cons (sx_var 2) (sa_cons (sx_var 7) sa_nil)))))))))
    (sss_one (ss_ret sx_bl))
    sss_nil))))))))))))
    (sss_one (ss_ret sx_bl)))
end
end CardH
end
section
set_option maxHeartbeats 4000000
namespace CardH
open PySem PySem.Spec PyProof.Rows L2
/-! ### the dice -/
abbrev D3 := Int × Int × Int
def dO (d : D3) : Ob := .lst [.int d.1, .int d.2.1, .int d.2.2]
def big (d : D3) : Bool := decide (d.2.2 = 2 ∨ (d.2.2 = 1 ∧ 0 < d.1))
def nxt (d : D3) : Int := (d.1 * 48271 + d.2.1 * 69621 + 11) % 2147483647
def rvI (m : Int) (d : D3) : Int := if big d = true then d.1 % m else (nxt d / 7 + nxt d) % m
def rv (m : Int) (d : D3) : Nat := (rvI m d).toNat
def rd (m : Int) (d : D3) : D3 := if big d = true then (d.1 / m, d.2.1, d.2.2) else (nxt d, d.2.1 + 1, 0)
theorem rvI_bd {m : Int} (d : D3) (h : 0 < m) : 0 ≤ rvI m d ∧ rvI m d < m := by
  unfold rvI
  split
  · exact ⟨Int.emod_nonneg _ (by omega), Int.emod_lt_of_pos _ h⟩
  · exact ⟨Int.emod_nonneg _ (by omega), Int.emod_lt_of_pos _ h⟩
theorem rv_eq {m : Int} (d : D3) (h : 0 < m) : ((rv m d : Nat) : Int) = rvI m d := by
  have := rvI_bd d h
  unfold rv
  omega
theorem rv_lt {m : Int} (d : D3) (h : 0 < m) : ((rv m d : Nat) : Int) < m := by
  rw [rv_eq d h]; exact (rvI_bd d h).2
theorem rv_ltN {m : Nat} (d : D3) (h : 0 < m) : rv (m : Int) d < m := by
  have := rv_lt (m := m) d (by omega)
  omega
theorem roll (G : Gst) (i : Nat) (d : D3) (many : Int) (hG : G[i]? = some (dO d)) (hm : 0 < many ∧ many < 4611686018427387904) :
    M__law_roll [.ref i, .int many] G = .ok (.int (rv many d : Nat)) (G.set i (dO (rd many d))) := by
  rw [rv_eq d hm.1]
  obtain ⟨a, b, c⟩ := d
  simp only [dO] at hG
  have hs : ∀ o : Ob, (G.set i o)[i]? = some o := fun o => set_get hG
  have ix0 : ixN 3 0 = some 0 := rfl
  have ix1 : ixN 3 1 = some 1 := rfl
  have ix2 : ixN 3 2 = some 2 := rfl
  have hmod : ∀ x : Int, vMod (.int x) (.int many) = some (.int (x % many)) := fun x => vMod_int _ _ hm.1
  have hdiv : ∀ x : Int, vFdiv (.int x) (.int many) = some (.int (x / many)) := fun x => vFdiv_int _ _ hm.1 hm.2
  have hp : ∀ x : Int, vMod (.int x) (.int 2147483647) = some (.int (x % 2147483647)) := fun x => vMod_int _ _ (by decide)
  have h7 : ∀ x : Int, vFdiv (.int x) (.int 7) = some (.int (x / 7)) := fun x => vFdiv_int _ _ (by decide) (by decide)
  have m1 : ∀ x : Int, vMul (.int x) (.int 48271) = some (.int (x * 48271)) := fun x => vMul_r (by decide) _
  have m2 : ∀ x : Int, vMul (.int x) (.int 69621) = some (.int (x * 69621)) := fun x => vMul_r (by decide) _
  have ir : ∀ x : Vl, vIx G (.ref i) x = match x with | .int k => atI [Vl.int a, .int b, .int c] k | _ => vIx G (.ref i) x := fun x => by
    cases x <;> simp [vIx, hG]
  unfold M__law_roll D__law_roll rvI rd big
  by_cases hc : c = 2 ∨ (c = 1 ∧ 0 < a)
  · rcases hc with rfl | ⟨rfl, ha⟩
    · simp [dSeq_ev, seqR_nx, seqR_rt, seqR_ct, seqR_bk, seqR_ex, seqR_ite, runF_ev, resR_nx, resR_rt, resR_ex, resR_ite, startE, wp_nxK, wp_rtK, wp_ctK, wp_bkK, wp_exK, wp_nxP, wp_rtP, wp_ite, R.bind_ok, R.bind_exn, sb_ok, sb_exn, opt_some, opt_ite, bind_ite, sb_ite, dC, dVar, dPk, Fv.toVl, dBin, dUn, dTest, vTru, dTB_ev, tbK_bl, dAnd, dOr, dNot, dBV, dIf, dChain_ev, chK_bl, daNil, daCons, dTup, dLst, dIx, doNone, doSome, dSl, dFn, diVal, diRng, dCall, dRet, dRetN, dExpr, dIfS_ev, dAsg, gSet, gUn, gsNil, gsCons, itemsOf, dNext, dBreak, dCont, dRaise, dxC, dxE, dTold_ev, toldR_ok, toldR_exn, toldR_ite, dMeth, dFld, List.lookup, dSetF, putN, dPar, dPar3, vNeg, vSub_int, vAdd_int, vEq_int, vNe_int, vLt_int, vGt_int, vLe_int, vGe_int, vIx_lst, vIx_tup, atI_int, vSl_tup, vSl_lst, cutL_toI, cutL_fromI, cutL_midI, cutL_all, oLen, seqOf, oInt, oAbs, oMax2, oMin2, oTuple, oList, vIsN_non, vIsN_str, vIsN_int, vIsN_tup, vIsN_lst, dBm, tStr, tTup, tLst, dCat, lstOf, dListO, dLstO, dBmW, dTupRev, hmod, hdiv, dSetO, vIx, hG, ix0, ix1, ix2, dO]
    · simp [dSeq_ev, seqR_nx, seqR_rt, seqR_ct, seqR_bk, seqR_ex, seqR_ite, runF_ev, resR_nx, resR_rt, resR_ex, resR_ite, startE, wp_nxK, wp_rtK, wp_ctK, wp_bkK, wp_exK, wp_nxP, wp_rtP, wp_ite, R.bind_ok, R.bind_exn, sb_ok, sb_exn, opt_some, opt_ite, bind_ite, sb_ite, dC, dVar, dPk, Fv.toVl, dBin, dUn, dTest, vTru, dTB_ev, tbK_bl, dAnd, dOr, dNot, dBV, dIf, dChain_ev, chK_bl, daNil, daCons, dTup, dLst, dIx, doNone, doSome, dSl, dFn, diVal, diRng, dCall, dRet, dRetN, dExpr, dIfS_ev, dAsg, gSet, gUn, gsNil, gsCons, itemsOf, dNext, dBreak, dCont, dRaise, dxC, dxE, dTold_ev, toldR_ok, toldR_exn, toldR_ite, dMeth, dFld, List.lookup, dSetF, putN, dPar, dPar3, vNeg, vSub_int, vAdd_int, vEq_int, vNe_int, vLt_int, vGt_int, vLe_int, vGe_int, vIx_lst, vIx_tup, atI_int, vSl_tup, vSl_lst, cutL_toI, cutL_fromI, cutL_midI, cutL_all, oLen, seqOf, oInt, oAbs, oMax2, oMin2, oTuple, oList, vIsN_non, vIsN_str, vIsN_int, vIsN_tup, vIsN_lst, dBm, tStr, tTup, tLst, dCat, lstOf, dListO, dLstO, dBmW, dTupRev, hmod, hdiv, dSetO, vIx, hG, ix0, ix1, ix2, ha, dO]
  · have h2 : c ≠ 2 := fun e => hc (.inl e)
    have h1 : ¬ (c = 1 ∧ 0 < a) := fun e => hc (.inr e)
    by_cases e1 : c = 1
    · have ha : ¬ 0 < a := fun z => h1 ⟨e1, z⟩
      subst e1
      simp [dSeq_ev, seqR_nx, seqR_rt, seqR_ct, seqR_bk, seqR_ex, seqR_ite, runF_ev, resR_nx, resR_rt, resR_ex, resR_ite, startE, wp_nxK, wp_rtK, wp_ctK, wp_bkK, wp_exK, wp_nxP, wp_rtP, wp_ite, R.bind_ok, R.bind_exn, sb_ok, sb_exn, opt_some, opt_ite, bind_ite, sb_ite, dC, dVar, dPk, Fv.toVl, dBin, dUn, dTest, vTru, dTB_ev, tbK_bl, dAnd, dOr, dNot, dBV, dIf, dChain_ev, chK_bl, daNil, daCons, dTup, dLst, dIx, doNone, doSome, dSl, dFn, diVal, diRng, dCall, dRet, dRetN, dExpr, dIfS_ev, dAsg, gSet, gUn, gsNil, gsCons, itemsOf, dNext, dBreak, dCont, dRaise, dxC, dxE, dTold_ev, toldR_ok, toldR_exn, toldR_ite, dMeth, dFld, List.lookup, dSetF, putN, dPar, dPar3, vNeg, vSub_int, vAdd_int, vEq_int, vNe_int, vLt_int, vGt_int, vLe_int, vGe_int, vIx_lst, vIx_tup, atI_int, vSl_tup, vSl_lst, cutL_toI, cutL_fromI, cutL_midI, cutL_all, oLen, seqOf, oInt, oAbs, oMax2, oMin2, oTuple, oList, vIsN_non, vIsN_str, vIsN_int, vIsN_tup, vIsN_lst, dBm, tStr, tTup, tLst, dCat, lstOf, dListO, dLstO, dBmW, dTupRev, dSetO, vIx, hG, hmod, hp, h7, m1, m2, ix0, ix1, ix2, ha, hs, nxt, dO]
    · simp [dSeq_ev, seqR_nx, seqR_rt, seqR_ct, seqR_bk, seqR_ex, seqR_ite, runF_ev, resR_nx, resR_rt, resR_ex, resR_ite, startE, wp_nxK, wp_rtK, wp_ctK, wp_bkK, wp_exK, wp_nxP, wp_rtP, wp_ite, R.bind_ok, R.bind_exn, sb_ok, sb_exn, opt_some, opt_ite, bind_ite, sb_ite, dC, dVar, dPk, Fv.toVl, dBin, dUn, dTest, vTru, dTB_ev, tbK_bl, dAnd, dOr, dNot, dBV, dIf, dChain_ev, chK_bl, daNil, daCons, dTup, dLst, dIx, doNone, doSome, dSl, dFn, diVal, diRng, dCall, dRet, dRetN, dExpr, dIfS_ev, dAsg, gSet, gUn, gsNil, gsCons, itemsOf, dNext, dBreak, dCont, dRaise, dxC, dxE, dTold_ev, toldR_ok, toldR_exn, toldR_ite, dMeth, dFld, List.lookup, dSetF, putN, dPar, dPar3, vNeg, vSub_int, vAdd_int, vEq_int, vNe_int, vLt_int, vGt_int, vLe_int, vGe_int, vIx_lst, vIx_tup, atI_int, vSl_tup, vSl_lst, cutL_toI, cutL_fromI, cutL_midI, cutL_all, oLen, seqOf, oInt, oAbs, oMax2, oMin2, oTuple, oList, vIsN_non, vIsN_str, vIsN_int, vIsN_tup, vIsN_lst, dBm, tStr, tTup, tLst, dCat, lstOf, dListO, dLstO, dBmW, dTupRev, dSetO, vIx, hG, hmod, hp, h7, m1, m2, ix0, ix1, ix2, h2, e1, hs, nxt, dO]
/-- a roll of the first object -/
theorem roll0 {T : Gst} {d : D3} {many : Int} (hm : 0 < many ∧ many < 4611686018427387904) : M__law_roll [.ref 0, .int many] (dO d :: T) = .ok (.int (rv many d : Nat)) (dO (rd many d) :: T) := roll _ 0 d many rfl hm
theorem dice (n : Int) (G : Gst) : ∃ d, M__law_dice [.int n] G = .ok (.ref G.length) (G ++ [dO d]) := by
  have hp : ∀ x : Int, vMod (.int x) (.int 1009) = some (.int (x % 1009)) := fun x => vMod_int _ _ (by decide)
  have hw : vPow (.int 10) (.int 18) = some (.int (10 ^ 18)) := rfl
  by_cases h : -10 < n ∧ n < 10
  · obtain ⟨h1, h2⟩ := h
    refine ⟨(if n < 0 then -n else n, 0, 2), ?_⟩
    unfold M__law_dice D__law_dice
    simp [dSeq_ev, seqR_nx, seqR_rt, seqR_ct, seqR_bk, seqR_ex, seqR_ite, runF_ev, resR_nx, resR_rt, resR_ex, resR_ite, startE, wp_nxK, wp_rtK, wp_ctK, wp_bkK, wp_exK, wp_nxP, wp_rtP, wp_ite, R.bind_ok, R.bind_exn, sb_ok, sb_exn, opt_some, opt_ite, bind_ite, sb_ite, dC, dVar, dPk, Fv.toVl, dBin, dUn, dTest, vTru, dTB_ev, tbK_bl, dAnd, dOr, dNot, dBV, dIf, dChain_ev, chK_bl, daNil, daCons, dTup, dLst, dIx, doNone, doSome, dSl, dFn, diVal, diRng, dCall, dRet, dRetN, dExpr, dIfS_ev, dAsg, gSet, gUn, gsNil, gsCons, itemsOf, dNext, dBreak, dCont, dRaise, dxC, dxE, dTold_ev, toldR_ok, toldR_exn, toldR_ite, dMeth, dFld, List.lookup, dSetF, putN, dPar, dPar3, vNeg, vSub_int, vAdd_int, vEq_int, vNe_int, vLt_int, vGt_int, vLe_int, vGe_int, vIx_lst, vIx_tup, atI_int, vSl_tup, vSl_lst, cutL_toI, cutL_fromI, cutL_midI, cutL_all, oLen, seqOf, oInt, oAbs, oMax2, oMin2, oTuple, oList, vIsN_non, vIsN_str, vIsN_int, vIsN_tup, vIsN_lst, dBm, tStr, tTup, tLst, dCat, lstOf, dListO, dLstO, dBmW, dTupRev, dRetO, h1, h2, dO]
  · refine ⟨(n, 1 + n % 1009, if 10 ^ 18 ≤ n then 1 else 0), ?_⟩
    unfold M__law_dice D__law_dice
    by_cases h1 : -10 < n
    · have h2 : ¬ n < 10 := fun z => h ⟨h1, z⟩
      simp [dSeq_ev, seqR_nx, seqR_rt, seqR_ct, seqR_bk, seqR_ex, seqR_ite, runF_ev, resR_nx, resR_rt, resR_ex, resR_ite, startE, wp_nxK, wp_rtK, wp_ctK, wp_bkK, wp_exK, wp_nxP, wp_rtP, wp_ite, R.bind_ok, R.bind_exn, sb_ok, sb_exn, opt_some, opt_ite, bind_ite, sb_ite, dC, dVar, dPk, Fv.toVl, dBin, dUn, dTest, vTru, dTB_ev, tbK_bl, dAnd, dOr, dNot, dBV, dIf, dChain_ev, chK_bl, daNil, daCons, dTup, dLst, dIx, doNone, doSome, dSl, dFn, diVal, diRng, dCall, dRet, dRetN, dExpr, dIfS_ev, dAsg, gSet, gUn, gsNil, gsCons, itemsOf, dNext, dBreak, dCont, dRaise, dxC, dxE, dTold_ev, toldR_ok, toldR_exn, toldR_ite, dMeth, dFld, List.lookup, dSetF, putN, dPar, dPar3, vNeg, vSub_int, vAdd_int, vEq_int, vNe_int, vLt_int, vGt_int, vLe_int, vGe_int, vIx_lst, vIx_tup, atI_int, vSl_tup, vSl_lst, cutL_toI, cutL_fromI, cutL_midI, cutL_all, oLen, seqOf, oInt, oAbs, oMax2, oMin2, oTuple, oList, vIsN_non, vIsN_str, vIsN_int, vIsN_tup, vIsN_lst, dBm, tStr, tTup, tLst, dCat, lstOf, dListO, dLstO, dBmW, dTupRev, dRetO, h1, h2, hp, hw, dO]
    · simp [dSeq_ev, seqR_nx, seqR_rt, seqR_ct, seqR_bk, seqR_ex, seqR_ite, runF_ev, resR_nx, resR_rt, resR_ex, resR_ite, startE, wp_nxK, wp_rtK, wp_ctK, wp_bkK, wp_exK, wp_nxP, wp_rtP, wp_ite, R.bind_ok, R.bind_exn, sb_ok, sb_exn, opt_some, opt_ite, bind_ite, sb_ite, dC, dVar, dPk, Fv.toVl, dBin, dUn, dTest, vTru, dTB_ev, tbK_bl, dAnd, dOr, dNot, dBV, dIf, dChain_ev, chK_bl, daNil, daCons, dTup, dLst, dIx, doNone, doSome, dSl, dFn, diVal, diRng, dCall, dRet, dRetN, dExpr, dIfS_ev, dAsg, gSet, gUn, gsNil, gsCons, itemsOf, dNext, dBreak, dCont, dRaise, dxC, dxE, dTold_ev, toldR_ok, toldR_exn, toldR_ite, dMeth, dFld, List.lookup, dSetF, putN, dPar, dPar3, vNeg, vSub_int, vAdd_int, vEq_int, vNe_int, vLt_int, vGt_int, vLe_int, vGe_int, vIx_lst, vIx_tup, atI_int, vSl_tup, vSl_lst, cutL_toI, cutL_fromI, cutL_midI, cutL_all, oLen, seqOf, oInt, oAbs, oMax2, oMin2, oTuple, oList, vIsN_non, vIsN_str, vIsN_int, vIsN_tup, vIsN_lst, dBm, tStr, tTup, tLst, dCat, lstOf, dListO, dLstO, dBmW, dTupRev, dRetO, h1, hp, hw, dO]
theorem dicesL (e0 : LEnv) (h3 : 3 < e0.length) : ∀ (cells : List Int) (G : Gst), ∃ ds : List D3, ds.length = cells.length ∧
    compL (gSet 3) dYes (dCall 1 M__law_dice (daCons (dVar 3) daNil)) e0 (cells.map .int) G = .ok ((List.range' G.length cells.length).map .ref) (G ++ ds.map dO)
  | [], G => ⟨[], rfl, by simp [compL]⟩
  | n :: ns, G => by
    obtain ⟨d, e⟩ := dice n G
    obtain ⟨ds, hl, ih⟩ := dicesL e0 h3 ns (G ++ [dO d])
    refine ⟨d :: ds, by simp [hl], ?_⟩
    have hv : (e0.set 3 (some (.val (.int n))))[3]? = some (some (.val (.int n))) := by simp [h3]
    rw [List.map_cons]
    unfold compL
    simp only [gSet, dYes, R.bind_ok, dCall, daCons, daNil, dVar, hv, List.length_cons, List.length_nil, if_true, e]
    rw [ih]
    simp [List.range'_succ]
theorem rounds (ns : List Int) (m : Nat) (hm : 0 < m) (hb : m ≤ 63) : ∃ ds : List D3, 0 < ds.length ∧ ds.length ≤ m ∧
    M__law_rounds [.scr ns, .int (m : Int)] [] = .ok (.lst ((List.range ds.length).map .ref)) (ds.map dO) := by
  have key : ∀ cells : List Int, 0 < cells.length → cells.length ≤ m → (∀ ds : List D3, True) → ∃ ds : List D3, 0 < ds.length ∧ ds.length ≤ m ∧
      dLc [3] (diVal (dVar 2)) (gSet 3) dYes (dCall 1 M__law_dice (daCons (dVar 3) daNil)) [some (.val (.scr ns)), some (.val (.int m)), some (.val (.lst (cells.map .int))), none] [] = .ok (.lst ((List.range ds.length).map .ref)) (ds.map dO) := by
    intro cells h0 h1 _
    obtain ⟨ds, hl, e⟩ := dicesL (wipeE [some (.val (.scr ns)), some (.val (.int m)), some (.val (.lst (cells.map .int))), none] [3]) (by simp [wipeE]) cells []
    refine ⟨ds, by omega, by omega, ?_⟩
    have h63 : cells.length ≤ 16777216 := by omega
    unfold dLc
    simp only [diVal, dVar, List.getElem?_cons_succ, List.getElem?_cons_zero, R.bind_ok, walkOf, opt, e, noex]
    simp [hl, List.range_eq_range', h63]
  have e0 := vEq_lst0 (xs := (ns.take m).map .int) gds_int
  unfold M__law_rounds D__law_rounds
  by_cases h : ns.take m = []
  · obtain ⟨ds, h1, h2, e⟩ := key [0] (by simp) (by simp; omega) fun _ => trivial
    refine ⟨ds, h1, h2, ?_⟩
    simp at e
    simp [dSeq_ev, seqR_nx, seqR_rt, seqR_ct, seqR_bk, seqR_ex, seqR_ite, runF_ev, resR_nx, resR_rt, resR_ex, resR_ite, startE, wp_nxK, wp_rtK, wp_ctK, wp_bkK, wp_exK, wp_nxP, wp_rtP, wp_ite, R.bind_ok, R.bind_exn, sb_ok, sb_exn, opt_some, opt_ite, bind_ite, sb_ite, dC, dVar, dPk, Fv.toVl, dBin, dUn, dTest, vTru, dTB_ev, tbK_bl, dAnd, dOr, dNot, dBV, dIf, dChain_ev, chK_bl, daNil, daCons, dTup, dLst, dIx, doNone, doSome, dSl, dFn, diVal, diRng, dCall, dRet, dRetN, dExpr, dIfS_ev, dAsg, gSet, gUn, gsNil, gsCons, itemsOf, dNext, dBreak, dCont, dRaise, dxC, dxE, dTold_ev, toldR_ok, toldR_exn, toldR_ite, dMeth, dFld, List.lookup, dSetF, putN, dPar, dPar3, vNeg, vSub_int, vAdd_int, vEq_int, vNe_int, vLt_int, vGt_int, vLe_int, vGe_int, vIx_lst, vIx_tup, atI_int, vSl_tup, vSl_lst, cutL_toI, cutL_fromI, cutL_midI, cutL_all, oLen, seqOf, oInt, oAbs, oMax2, oMin2, oTuple, oList, vIsN_non, vIsN_str, vIsN_int, vIsN_tup, vIsN_lst, dBm, tStr, tTup, tLst, dCat, lstOf, dListO, dLstO, dBmW, dTupRev, vSl, h, e, vEq_lst0 gds_nil]
  · obtain ⟨ds, h1, h2, e⟩ := key (ns.take m) (by cases q : ns.take m with | nil => exact absurd q h | cons _ _ => simp) (by simp; omega) fun _ => trivial
    refine ⟨ds, h1, h2, ?_⟩
    have hne : ((ns.take m).map Vl.int).isEmpty = false := by cases q : ns.take m with | nil => exact absurd q h | cons _ _ => rfl
    rw [hne] at e0
    rw [List.map_take] at e0 e
    simp [dSeq_ev, seqR_nx, seqR_rt, seqR_ct, seqR_bk, seqR_ex, seqR_ite, runF_ev, resR_nx, resR_rt, resR_ex, resR_ite, startE, wp_nxK, wp_rtK, wp_ctK, wp_bkK, wp_exK, wp_nxP, wp_rtP, wp_ite, R.bind_ok, R.bind_exn, sb_ok, sb_exn, opt_some, opt_ite, bind_ite, sb_ite, dC, dVar, dPk, Fv.toVl, dBin, dUn, dTest, vTru, dTB_ev, tbK_bl, dAnd, dOr, dNot, dBV, dIf, dChain_ev, chK_bl, daNil, daCons, dTup, dLst, dIx, doNone, doSome, dSl, dFn, diVal, diRng, dCall, dRet, dRetN, dExpr, dIfS_ev, dAsg, gSet, gUn, gsNil, gsCons, itemsOf, dNext, dBreak, dCont, dRaise, dxC, dxE, dTold_ev, toldR_ok, toldR_exn, toldR_ite, dMeth, dFld, List.lookup, dSetF, putN, dPar, dPar3, vNeg, vSub_int, vAdd_int, vEq_int, vNe_int, vLt_int, vGt_int, vLe_int, vGe_int, vIx_lst, vIx_tup, atI_int, vSl_tup, vSl_lst, cutL_toI, cutL_fromI, cutL_midI, cutL_all, oLen, seqOf, oInt, oAbs, oMax2, oMin2, oTuple, oList, vIsN_non, vIsN_str, vIsN_int, vIsN_tup, vIsN_lst, dBm, tStr, tTup, tLst, dCat, lstOf, dListO, dLstO, dBmW, dTupRev, vSl, e, e0]
theorem round1 (ns : List Int) : ∃ d : D3, M__law_rounds [.scr ns, .int 1] [] = .ok (.lst [.ref 0]) [dO d] := by
  obtain ⟨ds, h1, h2, e⟩ := rounds ns 1 (by decide) (by decide)
  match ds, h1, h2 with
  | [d], _, _ => exact ⟨d, e⟩
theorem compL_rolls {g : DG} {de : DE} {e0 : LEnv} (T : Gst) (m : Nat) (hm : 0 < m) (f : Nat → Vl) : ∀ (l : List Vl) (d : D3), (∀ a ∈ l, ∃ e, g e0 a = some e ∧ ∀ d, de e (dO d :: T) = .ok (f (rv m d)) (dO (rd m d) :: T)) →
    ∃ (ks : List Nat) (d' : D3), ks.length = l.length ∧ (∀ k ∈ ks, k < m) ∧ compL g dYes de e0 l (dO d :: T) = .ok (ks.map f) (dO d' :: T)
  | [], d, h => ⟨[], d, rfl, by simp, rfl⟩
  | a :: l, d, h => by
    obtain ⟨e, h1, h2⟩ := h a (by simp)
    obtain ⟨ks, d', e1, e2, e3⟩ := compL_rolls T m hm f l (rd m d) fun b hb => h b (by simp [hb])
    refine ⟨rv m d :: ks, d', by simp [e1], by simpa [rv_ltN d hm] using e2, ?_⟩
    unfold compL
    rw [h1]
    dsimp only
    rw [show dYes e (dO d :: T) = .ok true (dO d :: T) from rfl, R.bind_ok]
    dsimp only
    rw [h2, R.bind_ok, e3, R.bind_ok]; rfl
theorem dLc_rolls {g : DG} {de : DE} {env : LEnv} {G : Gst} {vs : List Nat} {di : DI} {X : R Vl} (hX : dLc vs di g dYes de env G = X) (T : Gst) (m : Nat) (hm : 0 < m) (f : Nat → Vl) (l : List Vl) (d0 : D3) (hdi : di env G = .ok l (dO d0 :: T))
    (h : ∀ a ∈ l, ∃ e, g (wipeE env vs) a = some e ∧ ∀ d, de e (dO d :: T) = .ok (f (rv m d)) (dO (rd m d) :: T)) (hl : l.length ≤ 16777216) :
    ∃ (ks : List Nat) (d' : D3), ks.length = l.length ∧ (∀ k ∈ ks, k < m) ∧ X = .ok (.lst (ks.map f)) (dO d' :: T) := by
  subst hX
  obtain ⟨ks, d', e1, e2, e3⟩ := compL_rolls T m hm f l d0 h
  refine ⟨ks, d', e1, e2, ?_⟩
  unfold dLc
  rw [hdi, R.bind_ok, e3]
  show (if _ then _ else _) = _
  rw [if_pos (by rw [List.length_map]; omega)]
end CardH
end
section
set_option maxHeartbeats 4000000
namespace CardH
open PySem PySem.Spec PyProof.Rows L2
/-! ### pairs of numbers -/
abbrev Sp2 := Nat × Nat
def pr (s : Sp2) : Vl := .tup [.int s.1, .int s.2]
def prD (s : Sp2) : PyData := .tuple [.int s.1, .int s.2]
theorem pys_prs : ∀ (l : List Sp2) (n : Nat), 0 < n → pys (l.map pr) n = some (l.map prD)
  | [], _, _ => rfl
  | s :: l, n + 1, h => by
    rw [List.map_cons]
    unfold pys
    rw [pys_prs l (n + 1) h]; rfl
theorem eqv_pr (a b : Sp2) : PyData.eqv (prD a) (prD b) = decide (a = b) := by
  rw [Bool.eq_iff_iff]
  obtain ⟨a, b'⟩ := a
  obtain ⟨c, d⟩ := b
  simp [prD, PyData.eqv, PyData.eqvAll]
  omega
theorem any_prs (l : List Sp2) (s : Sp2) : ((l.map prD).any fun z => PyData.eqv z (prD s)) = decide (s ∈ l) := by
  induction l with
  | nil => simp
  | cons a l ih =>
    rw [List.map_cons, List.any_cons, ih, eqv_pr, Bool.eq_iff_iff]
    simp only [Bool.or_eq_true, decide_eq_true_eq, List.mem_cons]
    constructor
    · rintro (h | h)
      · exact .inl h.symm
      · exact .inr h
    · rintro (h | h)
      · exact .inl h.symm
      · exact .inr h
theorem in_prsT {l : List Sp2} {s : Sp2} : vInV (pr s) (.tup (l.map pr)) = some (.bl (decide (s ∈ l))) := by
  have h : vIn (pr s) (.tup (l.map pr)) = some ((l.map prD).any fun z => PyData.eqv z (prD s)) := by
    unfold vIn
    dsimp only
    rw [pys_prs l 59 (by decide)]; rfl
  unfold vInV
  rw [h, any_prs]; rfl
theorem in_prsL {l : List Sp2} {s : Sp2} : vInV (pr s) (.lst (l.map pr)) = some (.bl (decide (s ∈ l))) := by
  have h : vIn (pr s) (.lst (l.map pr)) = some ((l.map prD).any fun z => PyData.eqv z (prD s)) := by
    unfold vIn
    dsimp only
    rw [pys_prs l 59 (by decide)]; rfl
  unfold vInV
  rw [h, any_prs]; rfl
theorem notin_prsT {l : List Sp2} {s : Sp2} : vNotInV (pr s) (.tup (l.map pr)) = some (.bl (!decide (s ∈ l))) := by
  have := in_prsT (l := l) (s := s)
  unfold vInV at this
  unfold vNotInV
  cases h : vIn (pr s) (.tup (l.map pr)) with
  | none => rw [h] at this; cases this
  | some b => rw [h] at this; simp at this; simp [this]
theorem notin_prsL {l : List Sp2} {s : Sp2} : vNotInV (pr s) (.lst (l.map pr)) = some (.bl (!decide (s ∈ l))) := by
  have := in_prsL (l := l) (s := s)
  unfold vInV at this
  unfold vNotInV
  cases h : vIn (pr s) (.lst (l.map pr)) with
  | none => rw [h] at this; cases this
  | some b => rw [h] at this; simp at this; simp [this]
theorem gds_prs {n : Nat} {l : List Sp2} : gds (n + 1) (l.map pr) = true := gds_map _ _ _ fun _ => rfl
theorem ne_pr (a b : Sp2) : vNe (pr a) (pr b) = some (.bl (!decide (a = b))) := by
  show some (Vl.bl (!PyData.eqv (prD a) (prD b))) = _
  rw [eqv_pr]
/-! ### sorted -/
def leP (a b : Sp2) : Bool := decide (a.1 < b.1 ∨ (a.1 = b.1 ∧ a.2 ≤ b.2))
def srt (l : List Sp2) : List Sp2 := l.mergeSort leP
theorem leP_v (a b : Sp2) : leP a b = leV (pr a) (pr b) := by
  have h := congrFun (congrFun (PySem.W.dataLe_ii (β := Sp2) (fun s => (s.1 : Int)) (fun s => (s.2 : Int))) a) b
  have h2 : leV (pr a) (pr b) = PySem.W.dataLe false (fun s : Sp2 => PyData.tuple [.int (s.1 : Int), .int (s.2 : Int)]) a b := rfl
  rw [h2, h]
  unfold leP
  simp only [Int.ofNat_lt, Int.ofNat_inj, Int.ofNat_le]
theorem sortV_prs (l : List Sp2) : sortV (l.map pr) = (srt l).map pr := by
  unfold sortV srt
  rw [List.map_mergeSort (r := leP) (s := leV) (f := pr) fun a _ b _ => leP_v a b]
theorem alike_pr (a b : Sp2) : PySem.W.alike (prD a) (prD b) = true := by
  simp [prD, PySem.W.alike, PySem.W.alikeAll]
theorem sortOk_prs (l : List Sp2) : sortOk (l.map pr) = true := by
  unfold sortOk
  rw [pys_prs l 60 (by decide)]
  simp only [Bool.and_eq_true, Bool.or_eq_true, List.all_eq_true, List.mem_map]
  refine ⟨?_, .inl ?_⟩
  · rintro d ⟨a, _, rfl⟩ e ⟨b, _, rfl⟩
    exact alike_pr a b
  · rintro d ⟨a, _, rfl⟩
    rfl
theorem oSort_prsT {G : Gst} {l : List Sp2} (h : l.length ≤ 16777216) : oSortV G [.tup (l.map pr)] = some (.lst ((srt l).map pr)) := by
  unfold oSortV
  simp only [seqOf, Option.bind_some]
  rw [if_pos ⟨sortOk_prs l, by rw [List.length_map]; exact h⟩, sortV_prs]
theorem oSort_prsL {G : Gst} {l : List Sp2} (h : l.length ≤ 16777216) : oSortV G [.lst (l.map pr)] = some (.lst ((srt l).map pr)) := by
  unfold oSortV
  simp only [seqOf, Option.bind_some]
  rw [if_pos ⟨sortOk_prs l, by rw [List.length_map]; exact h⟩, sortV_prs]
theorem srt_perm (l : List Sp2) : (srt l).Perm l := List.mergeSort_perm l leP
theorem leP_trans (a b c : Sp2) : leP a b = true → leP b c = true → leP a c = true := by
  unfold leP
  simp only [decide_eq_true_eq]
  omega
theorem leP_total (a b : Sp2) : (leP a b || leP b a) = true := by
  unfold leP
  simp only [Bool.or_eq_true, decide_eq_true_eq]
  omega
theorem leP_anti (a b : Sp2) : leP a b = true → leP b a = true → a = b := by
  unfold leP
  simp only [decide_eq_true_eq]
  intro h1 h2
  exact Prod.ext (by omega) (by omega)
theorem srt_sorted (l : List Sp2) : (srt l).Pairwise (fun a b => leP a b = true) := List.pairwise_mergeSort leP_trans leP_total l
theorem srt_congr {l l' : List Sp2} (h : l.Perm l') : srt l = srt l' :=
  sorted_one (r := fun a b => leP a b = true) leP_anti (((srt_perm l).trans h).trans (srt_perm l').symm) (srt_sorted l) (srt_sorted l')
theorem srt_mem {l : List Sp2} {s : Sp2} : s ∈ srt l ↔ s ∈ l := (srt_perm l).mem_iff
theorem srt_length (l : List Sp2) : (srt l).length = l.length := (srt_perm l).length_eq
theorem srt_filter (p : Sp2 → Bool) (l : List Sp2) : (srt l).filter p = srt (l.filter p) :=
  sorted_one (r := fun a b => leP a b = true) leP_anti (((srt_perm l).filter p).trans (srt_perm (l.filter p)).symm) ((srt_sorted l).filter p) (srt_sorted _)
theorem srt_append (l : List Sp2) (s : Sp2) : srt (srt l ++ [s]) = srt (l ++ [s]) := srt_congr ((srt_perm l).append_right _)
end CardH
end
section
set_option maxHeartbeats 4000000
namespace CardH
open PySem PySem.Spec PyProof.Rows L2
theorem tf0 {G : Gst} : toldR toldF (.exn { cls := 0 } G) = .ok (.str "plan") G := rfl
theorem tf1 {G : Gst} : toldR toldF (.exn { cls := 1 } G) = .ok (.str "size") G := rfl
theorem tf2 {G : Gst} : toldR toldF (.exn { cls := 2 } G) = .ok (.str "no such") G := rfl
theorem tf3 {G : Gst} : toldR toldF (.exn { cls := 3 } G) = .ok (.str "no room") G := rfl
theorem tf4 {G : Gst} : toldR toldF (.exn { cls := 4 } G) = .ok (.str "no way") G := rfl
theorem tf5 {G : Gst} : toldR toldF (.exn { cls := 5 } G) = .ok (.str "deed") G := rfl
abbrev houO (w : Nat) (T F : List Sp2) : Ob := .ins 0 [(0, .val (.int w)), (1, .val (.tup (T.map pr))), (2, .val (.tup (F.map pr)))]
/-- a pair as it is made -/
theorem pr_eq (a b : Nat) : Vl.tup [.int (a : Int), .int (b : Int)] = pr (a, b) := rfl
section
variable (G : Gst) (i w : Nat) (T F : List Sp2)
theorem house_make (h : 1 ≤ w) : M_House___init__ [.ref G.length, .int w] (G ++ [.ins 0 []]) = .ok .non (G ++ [houO w [] []]) := by
  unfold M_House___init__ D_House___init__
  have h1 : ¬ (w : Int) < 1 := by omega
  simp [dSeq_ev, seqR_nx, seqR_rt, seqR_ct, seqR_bk, seqR_ex, seqR_ite, runF_ev, resR_nx, resR_rt, resR_ex, resR_ite, startE, wp_nxK, wp_rtK, wp_ctK, wp_bkK, wp_exK, wp_nxP, wp_rtP, wp_ite, R.bind_ok, R.bind_exn, sb_ok, sb_exn, opt_some, opt_ite, bind_ite, sb_ite, dC, dVar, dPk, Fv.toVl, dBin, dUn, dTest, vTru, dTB_ev, tbK_bl, dAnd, dOr, dNot, dBV, dIf, dChain_ev, chK_bl, daNil, daCons, dTup, dLst, dIx, doNone, doSome, dSl, dFn, diVal, diRng, dCall, dRet, dRetN, dExpr, dIfS_ev, dAsg, gSet, gUn, gsNil, gsCons, itemsOf, dNext, dBreak, dCont, dRaise, dxC, dxE, dTold_ev, toldR_ok, toldR_exn, toldR_ite, dMeth, dFld, List.lookup, dSetF, putN, dPar, dPar3, vNeg, vSub_int, vAdd_int, vEq_int, vNe_int, vLt_int, vGt_int, vLe_int, vGe_int, vIx_lst, vIx_tup, atI_int, vSl_tup, vSl_lst, cutL_toI, cutL_fromI, cutL_midI, cutL_all, oLen, seqOf, oInt, oAbs, oMax2, oMin2, oTuple, oList, vIsN_non, vIsN_str, vIsN_int, vIsN_tup, vIsN_lst, dBm, tStr, tTup, tLst, dCat, lstOf, dListO, dLstO, dBmW, dTupRev, dAndV_ev, andK_bl, dOrV_ev, orK_bl, Int.ofNat_inj, h1]
theorem house_shown (h : G[i]? = some (houO w T F)) : M_House_shown [.ref i] G = .ok (.tup [.tup (T.map pr), .tup (F.map pr)]) G := by
  unfold M_House_shown D_House_shown
  simp [dSeq_ev, seqR_nx, seqR_rt, seqR_ct, seqR_bk, seqR_ex, seqR_ite, runF_ev, resR_nx, resR_rt, resR_ex, resR_ite, startE, wp_nxK, wp_rtK, wp_ctK, wp_bkK, wp_exK, wp_nxP, wp_rtP, wp_ite, R.bind_ok, R.bind_exn, sb_ok, sb_exn, opt_some, opt_ite, bind_ite, sb_ite, dC, dVar, dPk, Fv.toVl, dBin, dUn, dTest, vTru, dTB_ev, tbK_bl, dAnd, dOr, dNot, dBV, dIf, dChain_ev, chK_bl, daNil, daCons, dTup, dLst, dIx, doNone, doSome, dSl, dFn, diVal, diRng, dCall, dRet, dRetN, dExpr, dIfS_ev, dAsg, gSet, gUn, gsNil, gsCons, itemsOf, dNext, dBreak, dCont, dRaise, dxC, dxE, dTold_ev, toldR_ok, toldR_exn, toldR_ite, dMeth, dFld, List.lookup, dSetF, putN, dPar, dPar3, vNeg, vSub_int, vAdd_int, vEq_int, vNe_int, vLt_int, vGt_int, vLe_int, vGe_int, vIx_lst, vIx_tup, atI_int, vSl_tup, vSl_lst, cutL_toI, cutL_fromI, cutL_midI, cutL_all, oLen, seqOf, oInt, oAbs, oMax2, oMin2, oTuple, oList, vIsN_non, vIsN_str, vIsN_int, vIsN_tup, vIsN_lst, dBm, tStr, tTup, tLst, dCat, lstOf, dListO, dLstO, dBmW, dTupRev, dAndV_ev, andK_bl, dOrV_ev, orK_bl, Int.ofNat_inj, h]
theorem house_count (h : G[i]? = some (houO w T F)) : M_House_card_count [.ref i] G = .ok (.int (2 * T.length + F.length)) G := by
  have m2 : ∀ j : Int, vMul (.int 2) (.int j) = _ := vMul_l (by omega)
  unfold M_House_card_count D_House_card_count
  simp [dSeq_ev, seqR_nx, seqR_rt, seqR_ct, seqR_bk, seqR_ex, seqR_ite, runF_ev, resR_nx, resR_rt, resR_ex, resR_ite, startE, wp_nxK, wp_rtK, wp_ctK, wp_bkK, wp_exK, wp_nxP, wp_rtP, wp_ite, R.bind_ok, R.bind_exn, sb_ok, sb_exn, opt_some, opt_ite, bind_ite, sb_ite, dC, dVar, dPk, Fv.toVl, dBin, dUn, dTest, vTru, dTB_ev, tbK_bl, dAnd, dOr, dNot, dBV, dIf, dChain_ev, chK_bl, daNil, daCons, dTup, dLst, dIx, doNone, doSome, dSl, dFn, diVal, diRng, dCall, dRet, dRetN, dExpr, dIfS_ev, dAsg, gSet, gUn, gsNil, gsCons, itemsOf, dNext, dBreak, dCont, dRaise, dxC, dxE, dTold_ev, toldR_ok, toldR_exn, toldR_ite, dMeth, dFld, List.lookup, dSetF, putN, dPar, dPar3, vNeg, vSub_int, vAdd_int, vEq_int, vNe_int, vLt_int, vGt_int, vLe_int, vGe_int, vIx_lst, vIx_tup, atI_int, vSl_tup, vSl_lst, cutL_toI, cutL_fromI, cutL_midI, cutL_all, oLen, seqOf, oInt, oAbs, oMax2, oMin2, oTuple, oList, vIsN_non, vIsN_str, vIsN_int, vIsN_tup, vIsN_lst, dBm, tStr, tTup, tLst, dCat, lstOf, dListO, dLstO, dBmW, dTupRev, dAndV_ev, andK_bl, dOrV_ev, orK_bl, Int.ofNat_inj, h, m2]
theorem house_lean (s p : Nat) (h : G[i]? = some (houO w T F)) (hl : T.length ≤ 1000) : M_House_lean [.ref i, .int s, .int p] G =
    if s < w ∧ p < w - s then (if (s, p) ∈ T then .exn { cls := 5 } G else if 0 < s ∧ (s - 1, p) ∉ F then .exn { cls := 3 } G else .ok .non (G.set i (houO w (srt (T ++ [(s, p)])) F))) else .exn { cls := 2 } G := by
  have hi := oSort_prsT (G := G) (l := T ++ [(s, p)]) (by simp; omega)
  rw [List.map_append, List.map_cons, List.map_nil] at hi
  have ha : vAdd (.tup (T.map pr)) (.tup [pr (s, p)]) = some (.tup (T.map pr ++ [pr (s, p)])) := vAdd_tup (by simp; omega)
  unfold M_House_lean D_House_lean
  by_cases h1 : s < w
  · by_cases h2 : p < w - s
    · have h2' : (p : Int) < (w : Int) - s := by omega
      by_cases h3 : (s, p) ∈ T
      · simp [dSeq_ev, seqR_nx, seqR_rt, seqR_ct, seqR_bk, seqR_ex, seqR_ite, runF_ev, resR_nx, resR_rt, resR_ex, resR_ite, startE, wp_nxK, wp_rtK, wp_ctK, wp_bkK, wp_exK, wp_nxP, wp_rtP, wp_ite, R.bind_ok, R.bind_exn, sb_ok, sb_exn, opt_some, opt_ite, bind_ite, sb_ite, dC, dVar, dPk, Fv.toVl, dBin, dUn, dTest, vTru, dTB_ev, tbK_bl, dAnd, dOr, dNot, dBV, dIf, dChain_ev, chK_bl, daNil, daCons, dTup, dLst, dIx, doNone, doSome, dSl, dFn, diVal, diRng, dCall, dRet, dRetN, dExpr, dIfS_ev, dAsg, gSet, gUn, gsNil, gsCons, itemsOf, dNext, dBreak, dCont, dRaise, dxC, dxE, dTold_ev, toldR_ok, toldR_exn, toldR_ite, dMeth, dFld, List.lookup, dSetF, putN, dPar, dPar3, vNeg, vSub_int, vAdd_int, vEq_int, vNe_int, vLt_int, vGt_int, vLe_int, vGe_int, vIx_lst, vIx_tup, atI_int, vSl_tup, vSl_lst, cutL_toI, cutL_fromI, cutL_midI, cutL_all, oLen, seqOf, oInt, oAbs, oMax2, oMin2, oTuple, oList, vIsN_non, vIsN_str, vIsN_int, vIsN_tup, vIsN_lst, dBm, tStr, tTup, tLst, dCat, lstOf, dListO, dLstO, dBmW, dTupRev, dAndV_ev, andK_bl, dOrV_ev, orK_bl, Int.ofNat_inj, h, h1, h2, h2', h3, pr_eq, in_prsT]
      · by_cases h0 : 0 < s
        · have e1 : (s : Int) - 1 = ((s - 1 : Nat) : Int) := by omega
          generalize s - 1 = s' at e1 ⊢
          by_cases h4 : (s', p) ∈ F
          · simp [dSeq_ev, seqR_nx, seqR_rt, seqR_ct, seqR_bk, seqR_ex, seqR_ite, runF_ev, resR_nx, resR_rt, resR_ex, resR_ite, startE, wp_nxK, wp_rtK, wp_ctK, wp_bkK, wp_exK, wp_nxP, wp_rtP, wp_ite, R.bind_ok, R.bind_exn, sb_ok, sb_exn, opt_some, opt_ite, bind_ite, sb_ite, dC, dVar, dPk, Fv.toVl, dBin, dUn, dTest, vTru, dTB_ev, tbK_bl, dAnd, dOr, dNot, dBV, dIf, dChain_ev, chK_bl, daNil, daCons, dTup, dLst, dIx, doNone, doSome, dSl, dFn, diVal, diRng, dCall, dRet, dRetN, dExpr, dIfS_ev, dAsg, gSet, gUn, gsNil, gsCons, itemsOf, dNext, dBreak, dCont, dRaise, dxC, dxE, dTold_ev, toldR_ok, toldR_exn, toldR_ite, dMeth, dFld, List.lookup, dSetF, putN, dPar, dPar3, vNeg, vSub_int, vAdd_int, vEq_int, vNe_int, vLt_int, vGt_int, vLe_int, vGe_int, vIx_lst, vIx_tup, atI_int, vSl_tup, vSl_lst, cutL_toI, cutL_fromI, cutL_midI, cutL_all, oLen, seqOf, oInt, oAbs, oMax2, oMin2, oTuple, oList, vIsN_non, vIsN_str, vIsN_int, vIsN_tup, vIsN_lst, dBm, tStr, tTup, tLst, dCat, lstOf, dListO, dLstO, dBmW, dTupRev, dAndV_ev, andK_bl, dOrV_ev, orK_bl, Int.ofNat_inj, h, h1, h2, h2', h3, h0, h4, pr_eq, in_prsT, notin_prsT, ha, hi, e1]
          · simp [dSeq_ev, seqR_nx, seqR_rt, seqR_ct, seqR_bk, seqR_ex, seqR_ite, runF_ev, resR_nx, resR_rt, resR_ex, resR_ite, startE, wp_nxK, wp_rtK, wp_ctK, wp_bkK, wp_exK, wp_nxP, wp_rtP, wp_ite, R.bind_ok, R.bind_exn, sb_ok, sb_exn, opt_some, opt_ite, bind_ite, sb_ite, dC, dVar, dPk, Fv.toVl, dBin, dUn, dTest, vTru, dTB_ev, tbK_bl, dAnd, dOr, dNot, dBV, dIf, dChain_ev, chK_bl, daNil, daCons, dTup, dLst, dIx, doNone, doSome, dSl, dFn, diVal, diRng, dCall, dRet, dRetN, dExpr, dIfS_ev, dAsg, gSet, gUn, gsNil, gsCons, itemsOf, dNext, dBreak, dCont, dRaise, dxC, dxE, dTold_ev, toldR_ok, toldR_exn, toldR_ite, dMeth, dFld, List.lookup, dSetF, putN, dPar, dPar3, vNeg, vSub_int, vAdd_int, vEq_int, vNe_int, vLt_int, vGt_int, vLe_int, vGe_int, vIx_lst, vIx_tup, atI_int, vSl_tup, vSl_lst, cutL_toI, cutL_fromI, cutL_midI, cutL_all, oLen, seqOf, oInt, oAbs, oMax2, oMin2, oTuple, oList, vIsN_non, vIsN_str, vIsN_int, vIsN_tup, vIsN_lst, dBm, tStr, tTup, tLst, dCat, lstOf, dListO, dLstO, dBmW, dTupRev, dAndV_ev, andK_bl, dOrV_ev, orK_bl, Int.ofNat_inj, h, h1, h2, h2', h3, h0, h4, pr_eq, in_prsT, notin_prsT, ha, hi, e1]
        · simp [dSeq_ev, seqR_nx, seqR_rt, seqR_ct, seqR_bk, seqR_ex, seqR_ite, runF_ev, resR_nx, resR_rt, resR_ex, resR_ite, startE, wp_nxK, wp_rtK, wp_ctK, wp_bkK, wp_exK, wp_nxP, wp_rtP, wp_ite, R.bind_ok, R.bind_exn, sb_ok, sb_exn, opt_some, opt_ite, bind_ite, sb_ite, dC, dVar, dPk, Fv.toVl, dBin, dUn, dTest, vTru, dTB_ev, tbK_bl, dAnd, dOr, dNot, dBV, dIf, dChain_ev, chK_bl, daNil, daCons, dTup, dLst, dIx, doNone, doSome, dSl, dFn, diVal, diRng, dCall, dRet, dRetN, dExpr, dIfS_ev, dAsg, gSet, gUn, gsNil, gsCons, itemsOf, dNext, dBreak, dCont, dRaise, dxC, dxE, dTold_ev, toldR_ok, toldR_exn, toldR_ite, dMeth, dFld, List.lookup, dSetF, putN, dPar, dPar3, vNeg, vSub_int, vAdd_int, vEq_int, vNe_int, vLt_int, vGt_int, vLe_int, vGe_int, vIx_lst, vIx_tup, atI_int, vSl_tup, vSl_lst, cutL_toI, cutL_fromI, cutL_midI, cutL_all, oLen, seqOf, oInt, oAbs, oMax2, oMin2, oTuple, oList, vIsN_non, vIsN_str, vIsN_int, vIsN_tup, vIsN_lst, dBm, tStr, tTup, tLst, dCat, lstOf, dListO, dLstO, dBmW, dTupRev, dAndV_ev, andK_bl, dOrV_ev, orK_bl, Int.ofNat_inj, h, h1, h2, h2', h3, h0, pr_eq, in_prsT, notin_prsT, ha, hi]
    · have h2' : ¬ (p : Int) < (w : Int) - s := by omega
      simp [dSeq_ev, seqR_nx, seqR_rt, seqR_ct, seqR_bk, seqR_ex, seqR_ite, runF_ev, resR_nx, resR_rt, resR_ex, resR_ite, startE, wp_nxK, wp_rtK, wp_ctK, wp_bkK, wp_exK, wp_nxP, wp_rtP, wp_ite, R.bind_ok, R.bind_exn, sb_ok, sb_exn, opt_some, opt_ite, bind_ite, sb_ite, dC, dVar, dPk, Fv.toVl, dBin, dUn, dTest, vTru, dTB_ev, tbK_bl, dAnd, dOr, dNot, dBV, dIf, dChain_ev, chK_bl, daNil, daCons, dTup, dLst, dIx, doNone, doSome, dSl, dFn, diVal, diRng, dCall, dRet, dRetN, dExpr, dIfS_ev, dAsg, gSet, gUn, gsNil, gsCons, itemsOf, dNext, dBreak, dCont, dRaise, dxC, dxE, dTold_ev, toldR_ok, toldR_exn, toldR_ite, dMeth, dFld, List.lookup, dSetF, putN, dPar, dPar3, vNeg, vSub_int, vAdd_int, vEq_int, vNe_int, vLt_int, vGt_int, vLe_int, vGe_int, vIx_lst, vIx_tup, atI_int, vSl_tup, vSl_lst, cutL_toI, cutL_fromI, cutL_midI, cutL_all, oLen, seqOf, oInt, oAbs, oMax2, oMin2, oTuple, oList, vIsN_non, vIsN_str, vIsN_int, vIsN_tup, vIsN_lst, dBm, tStr, tTup, tLst, dCat, lstOf, dListO, dLstO, dBmW, dTupRev, dAndV_ev, andK_bl, dOrV_ev, orK_bl, Int.ofNat_inj, h, h1, h2, h2']
  · simp [dSeq_ev, seqR_nx, seqR_rt, seqR_ct, seqR_bk, seqR_ex, seqR_ite, runF_ev, resR_nx, resR_rt, resR_ex, resR_ite, startE, wp_nxK, wp_rtK, wp_ctK, wp_bkK, wp_exK, wp_nxP, wp_rtP, wp_ite, R.bind_ok, R.bind_exn, sb_ok, sb_exn, opt_some, opt_ite, bind_ite, sb_ite, dC, dVar, dPk, Fv.toVl, dBin, dUn, dTest, vTru, dTB_ev, tbK_bl, dAnd, dOr, dNot, dBV, dIf, dChain_ev, chK_bl, daNil, daCons, dTup, dLst, dIx, doNone, doSome, dSl, dFn, diVal, diRng, dCall, dRet, dRetN, dExpr, dIfS_ev, dAsg, gSet, gUn, gsNil, gsCons, itemsOf, dNext, dBreak, dCont, dRaise, dxC, dxE, dTold_ev, toldR_ok, toldR_exn, toldR_ite, dMeth, dFld, List.lookup, dSetF, putN, dPar, dPar3, vNeg, vSub_int, vAdd_int, vEq_int, vNe_int, vLt_int, vGt_int, vLe_int, vGe_int, vIx_lst, vIx_tup, atI_int, vSl_tup, vSl_lst, cutL_toI, cutL_fromI, cutL_midI, cutL_all, oLen, seqOf, oInt, oAbs, oMax2, oMin2, oTuple, oList, vIsN_non, vIsN_str, vIsN_int, vIsN_tup, vIsN_lst, dBm, tStr, tTup, tLst, dCat, lstOf, dListO, dLstO, dBmW, dTupRev, dAndV_ev, andK_bl, dOrV_ev, orK_bl, Int.ofNat_inj, h, h1]
theorem house_lay (s p : Nat) (h : G[i]? = some (houO w T F)) (hl : F.length ≤ 1000) : M_House_lay [.ref i, .int s, .int p] G =
    if s < w ∧ p + 1 < w - s then (if (s, p) ∈ F then .exn { cls := 5 } G else if (s, p) ∉ T ∨ (s, p + 1) ∉ T then .exn { cls := 3 } G else .ok .non (G.set i (houO w T (srt (F ++ [(s, p)]))))) else .exn { cls := 2 } G := by
  have hi := oSort_prsT (G := G) (l := F ++ [(s, p)]) (by simp; omega)
  rw [List.map_append, List.map_cons, List.map_nil] at hi
  have ha : vAdd (.tup (F.map pr)) (.tup [pr (s, p)]) = some (.tup (F.map pr ++ [pr (s, p)])) := vAdd_tup (by simp; omega)
  unfold M_House_lay D_House_lay
  by_cases h1 : s < w
  · by_cases h2 : p + 1 < w - s
    · have h2' : (p : Int) < (w : Int) - s - 1 := by omega
      by_cases h3 : (s, p) ∈ F
      · simp [dSeq_ev, seqR_nx, seqR_rt, seqR_ct, seqR_bk, seqR_ex, seqR_ite, runF_ev, resR_nx, resR_rt, resR_ex, resR_ite, startE, wp_nxK, wp_rtK, wp_ctK, wp_bkK, wp_exK, wp_nxP, wp_rtP, wp_ite, R.bind_ok, R.bind_exn, sb_ok, sb_exn, opt_some, opt_ite, bind_ite, sb_ite, dC, dVar, dPk, Fv.toVl, dBin, dUn, dTest, vTru, dTB_ev, tbK_bl, dAnd, dOr, dNot, dBV, dIf, dChain_ev, chK_bl, daNil, daCons, dTup, dLst, dIx, doNone, doSome, dSl, dFn, diVal, diRng, dCall, dRet, dRetN, dExpr, dIfS_ev, dAsg, gSet, gUn, gsNil, gsCons, itemsOf, dNext, dBreak, dCont, dRaise, dxC, dxE, dTold_ev, toldR_ok, toldR_exn, toldR_ite, dMeth, dFld, List.lookup, dSetF, putN, dPar, dPar3, vNeg, vSub_int, vAdd_int, vEq_int, vNe_int, vLt_int, vGt_int, vLe_int, vGe_int, vIx_lst, vIx_tup, atI_int, vSl_tup, vSl_lst, cutL_toI, cutL_fromI, cutL_midI, cutL_all, oLen, seqOf, oInt, oAbs, oMax2, oMin2, oTuple, oList, vIsN_non, vIsN_str, vIsN_int, vIsN_tup, vIsN_lst, dBm, tStr, tTup, tLst, dCat, lstOf, dListO, dLstO, dBmW, dTupRev, dAndV_ev, andK_bl, dOrV_ev, orK_bl, Int.ofNat_inj, h, h1, h2, h2', h3, pr_eq, in_prsT]
      · have e1 : (p : Int) + 1 = ((p + 1 : Nat) : Int) := by omega
        generalize p + 1 = p' at e1 h2 ⊢
        by_cases h4 : (s, p) ∈ T
        · by_cases h5 : (s, p') ∈ T
          · simp [dSeq_ev, seqR_nx, seqR_rt, seqR_ct, seqR_bk, seqR_ex, seqR_ite, runF_ev, resR_nx, resR_rt, resR_ex, resR_ite, startE, wp_nxK, wp_rtK, wp_ctK, wp_bkK, wp_exK, wp_nxP, wp_rtP, wp_ite, R.bind_ok, R.bind_exn, sb_ok, sb_exn, opt_some, opt_ite, bind_ite, sb_ite, dC, dVar, dPk, Fv.toVl, dBin, dUn, dTest, vTru, dTB_ev, tbK_bl, dAnd, dOr, dNot, dBV, dIf, dChain_ev, chK_bl, daNil, daCons, dTup, dLst, dIx, doNone, doSome, dSl, dFn, diVal, diRng, dCall, dRet, dRetN, dExpr, dIfS_ev, dAsg, gSet, gUn, gsNil, gsCons, itemsOf, dNext, dBreak, dCont, dRaise, dxC, dxE, dTold_ev, toldR_ok, toldR_exn, toldR_ite, dMeth, dFld, List.lookup, dSetF, putN, dPar, dPar3, vNeg, vSub_int, vAdd_int, vEq_int, vNe_int, vLt_int, vGt_int, vLe_int, vGe_int, vIx_lst, vIx_tup, atI_int, vSl_tup, vSl_lst, cutL_toI, cutL_fromI, cutL_midI, cutL_all, oLen, seqOf, oInt, oAbs, oMax2, oMin2, oTuple, oList, vIsN_non, vIsN_str, vIsN_int, vIsN_tup, vIsN_lst, dBm, tStr, tTup, tLst, dCat, lstOf, dListO, dLstO, dBmW, dTupRev, dAndV_ev, andK_bl, dOrV_ev, orK_bl, Int.ofNat_inj, h, h1, h2, h2', h3, h4, h5, pr_eq, in_prsT, notin_prsT, ha, hi, e1]
          · simp [dSeq_ev, seqR_nx, seqR_rt, seqR_ct, seqR_bk, seqR_ex, seqR_ite, runF_ev, resR_nx, resR_rt, resR_ex, resR_ite, startE, wp_nxK, wp_rtK, wp_ctK, wp_bkK, wp_exK, wp_nxP, wp_rtP, wp_ite, R.bind_ok, R.bind_exn, sb_ok, sb_exn, opt_some, opt_ite, bind_ite, sb_ite, dC, dVar, dPk, Fv.toVl, dBin, dUn, dTest, vTru, dTB_ev, tbK_bl, dAnd, dOr, dNot, dBV, dIf, dChain_ev, chK_bl, daNil, daCons, dTup, dLst, dIx, doNone, doSome, dSl, dFn, diVal, diRng, dCall, dRet, dRetN, dExpr, dIfS_ev, dAsg, gSet, gUn, gsNil, gsCons, itemsOf, dNext, dBreak, dCont, dRaise, dxC, dxE, dTold_ev, toldR_ok, toldR_exn, toldR_ite, dMeth, dFld, List.lookup, dSetF, putN, dPar, dPar3, vNeg, vSub_int, vAdd_int, vEq_int, vNe_int, vLt_int, vGt_int, vLe_int, vGe_int, vIx_lst, vIx_tup, atI_int, vSl_tup, vSl_lst, cutL_toI, cutL_fromI, cutL_midI, cutL_all, oLen, seqOf, oInt, oAbs, oMax2, oMin2, oTuple, oList, vIsN_non, vIsN_str, vIsN_int, vIsN_tup, vIsN_lst, dBm, tStr, tTup, tLst, dCat, lstOf, dListO, dLstO, dBmW, dTupRev, dAndV_ev, andK_bl, dOrV_ev, orK_bl, Int.ofNat_inj, h, h1, h2, h2', h3, h4, h5, pr_eq, in_prsT, notin_prsT, ha, hi, e1]
        · simp [dSeq_ev, seqR_nx, seqR_rt, seqR_ct, seqR_bk, seqR_ex, seqR_ite, runF_ev, resR_nx, resR_rt, resR_ex, resR_ite, startE, wp_nxK, wp_rtK, wp_ctK, wp_bkK, wp_exK, wp_nxP, wp_rtP, wp_ite, R.bind_ok, R.bind_exn, sb_ok, sb_exn, opt_some, opt_ite, bind_ite, sb_ite, dC, dVar, dPk, Fv.toVl, dBin, dUn, dTest, vTru, dTB_ev, tbK_bl, dAnd, dOr, dNot, dBV, dIf, dChain_ev, chK_bl, daNil, daCons, dTup, dLst, dIx, doNone, doSome, dSl, dFn, diVal, diRng, dCall, dRet, dRetN, dExpr, dIfS_ev, dAsg, gSet, gUn, gsNil, gsCons, itemsOf, dNext, dBreak, dCont, dRaise, dxC, dxE, dTold_ev, toldR_ok, toldR_exn, toldR_ite, dMeth, dFld, List.lookup, dSetF, putN, dPar, dPar3, vNeg, vSub_int, vAdd_int, vEq_int, vNe_int, vLt_int, vGt_int, vLe_int, vGe_int, vIx_lst, vIx_tup, atI_int, vSl_tup, vSl_lst, cutL_toI, cutL_fromI, cutL_midI, cutL_all, oLen, seqOf, oInt, oAbs, oMax2, oMin2, oTuple, oList, vIsN_non, vIsN_str, vIsN_int, vIsN_tup, vIsN_lst, dBm, tStr, tTup, tLst, dCat, lstOf, dListO, dLstO, dBmW, dTupRev, dAndV_ev, andK_bl, dOrV_ev, orK_bl, Int.ofNat_inj, h, h1, h2, h2', h3, h4, pr_eq, in_prsT, notin_prsT, ha, hi, e1]
    · have h2' : ¬ (p : Int) < (w : Int) - s - 1 := by omega
      simp [dSeq_ev, seqR_nx, seqR_rt, seqR_ct, seqR_bk, seqR_ex, seqR_ite, runF_ev, resR_nx, resR_rt, resR_ex, resR_ite, startE, wp_nxK, wp_rtK, wp_ctK, wp_bkK, wp_exK, wp_nxP, wp_rtP, wp_ite, R.bind_ok, R.bind_exn, sb_ok, sb_exn, opt_some, opt_ite, bind_ite, sb_ite, dC, dVar, dPk, Fv.toVl, dBin, dUn, dTest, vTru, dTB_ev, tbK_bl, dAnd, dOr, dNot, dBV, dIf, dChain_ev, chK_bl, daNil, daCons, dTup, dLst, dIx, doNone, doSome, dSl, dFn, diVal, diRng, dCall, dRet, dRetN, dExpr, dIfS_ev, dAsg, gSet, gUn, gsNil, gsCons, itemsOf, dNext, dBreak, dCont, dRaise, dxC, dxE, dTold_ev, toldR_ok, toldR_exn, toldR_ite, dMeth, dFld, List.lookup, dSetF, putN, dPar, dPar3, vNeg, vSub_int, vAdd_int, vEq_int, vNe_int, vLt_int, vGt_int, vLe_int, vGe_int, vIx_lst, vIx_tup, atI_int, vSl_tup, vSl_lst, cutL_toI, cutL_fromI, cutL_midI, cutL_all, oLen, seqOf, oInt, oAbs, oMax2, oMin2, oTuple, oList, vIsN_non, vIsN_str, vIsN_int, vIsN_tup, vIsN_lst, dBm, tStr, tTup, tLst, dCat, lstOf, dListO, dLstO, dBmW, dTupRev, dAndV_ev, andK_bl, dOrV_ev, orK_bl, Int.ofNat_inj, h, h1, h2, h2']
  · simp [dSeq_ev, seqR_nx, seqR_rt, seqR_ct, seqR_bk, seqR_ex, seqR_ite, runF_ev, resR_nx, resR_rt, resR_ex, resR_ite, startE, wp_nxK, wp_rtK, wp_ctK, wp_bkK, wp_exK, wp_nxP, wp_rtP, wp_ite, R.bind_ok, R.bind_exn, sb_ok, sb_exn, opt_some, opt_ite, bind_ite, sb_ite, dC, dVar, dPk, Fv.toVl, dBin, dUn, dTest, vTru, dTB_ev, tbK_bl, dAnd, dOr, dNot, dBV, dIf, dChain_ev, chK_bl, daNil, daCons, dTup, dLst, dIx, doNone, doSome, dSl, dFn, diVal, diRng, dCall, dRet, dRetN, dExpr, dIfS_ev, dAsg, gSet, gUn, gsNil, gsCons, itemsOf, dNext, dBreak, dCont, dRaise, dxC, dxE, dTold_ev, toldR_ok, toldR_exn, toldR_ite, dMeth, dFld, List.lookup, dSetF, putN, dPar, dPar3, vNeg, vSub_int, vAdd_int, vEq_int, vNe_int, vLt_int, vGt_int, vLe_int, vGe_int, vIx_lst, vIx_tup, atI_int, vSl_tup, vSl_lst, cutL_toI, cutL_fromI, cutL_midI, cutL_all, oLen, seqOf, oInt, oAbs, oMax2, oMin2, oTuple, oList, vIsN_non, vIsN_str, vIsN_int, vIsN_tup, vIsN_lst, dBm, tStr, tTup, tLst, dCat, lstOf, dListO, dLstO, dBmW, dTupRev, dAndV_ev, andK_bl, dOrV_ev, orK_bl, Int.ofNat_inj, h, h1]
/-! ### knocking over -/
def kF (l : Nat) (T F : List Sp2) : List Sp2 := F.filter fun f => decide (f.1 ≠ l) || (decide (f ∈ T) && decide ((f.1, f.2 + 1) ∈ T))
def kT (l : Nat) (T F : List Sp2) : List Sp2 := T.filter fun t => decide (t.1 ≠ l + 1) || decide ((l, t.2) ∈ F)
def knk : List Nat → List Sp2 → List Sp2 → List Sp2 × List Sp2
  | [], T, F => (T, F)
  | l :: ls, T, F => knk ls (kT l T (kF l T F)) (kF l T F)
theorem pr_0 (G : Gst) (s : Sp2) : vIx G (pr s) (.int 0) = some (.int s.1) := rfl
theorem pr_1 (G : Gst) (s : Sp2) : vIx G (pr s) (.int 1) = some (.int s.2) := rfl
def pF (l : Nat) (T : List Sp2) (f : Sp2) : Bool := decide (f.1 ≠ l) || (decide (f ∈ T) && decide ((f.1, f.2 + 1) ∈ T))
theorem bodyF (l : Nat) (x1 x2 x3 z7 e8 z9 z10 : Option Fv) (kept : List Sp2) (f : Sp2) (h : G[i]? = some (houO w T F)) (hk : kept.length < 2000) : T4_0_House_knock [some (.val (.ref i)), x1, x2, x3, some (.val (.int l)), some (.ol (kept.map pr)), some (.val (pr f)), z7, e8, z9, z10] G =
        .nx [some (.val (.ref i)), x1, x2, x3, some (.val (.int l)), some (.ol ((if pF l T f = true then kept ++ [f] else kept).map pr)), some (.val (pr f)), z7, some (.val (.bl (decide (f ∈ T) && decide ((f.1, f.2 + 1) ∈ T)))), z9, z10] G := by
  obtain ⟨a, b⟩ := f
  have e1 : (b : Int) + 1 = ((b + 1 : Nat) : Int) := by omega
  have hl' : kept.length < 16777216 := by omega
  unfold T4_0_House_knock T4_1_House_knock pF
  dsimp only
  generalize b + 1 = b' at e1 ⊢
  by_cases h1 : (a, b) ∈ T
  · by_cases h2 : (a, b') ∈ T
    · by_cases h3 : a = l
      · subst h3
        simp [dSeq_ev, seqR_nx, seqR_rt, seqR_ct, seqR_bk, seqR_ex, seqR_ite, runF_ev, resR_nx, resR_rt, resR_ex, resR_ite, startE, wp_nxK, wp_rtK, wp_ctK, wp_bkK, wp_exK, wp_nxP, wp_rtP, wp_ite, R.bind_ok, R.bind_exn, sb_ok, sb_exn, opt_some, opt_ite, bind_ite, sb_ite, dC, dVar, dPk, Fv.toVl, dBin, dUn, dTest, vTru, dTB_ev, tbK_bl, dAnd, dOr, dNot, dBV, dIf, dChain_ev, chK_bl, daNil, daCons, dTup, dLst, dIx, doNone, doSome, dSl, dFn, diVal, diRng, dCall, dRet, dRetN, dExpr, dIfS_ev, dAsg, gSet, gUn, gsNil, gsCons, itemsOf, dNext, dBreak, dCont, dRaise, dxC, dxE, dTold_ev, toldR_ok, toldR_exn, toldR_ite, dMeth, dFld, List.lookup, dSetF, putN, dPar, dPar3, vNeg, vSub_int, vAdd_int, vEq_int, vNe_int, vLt_int, vGt_int, vLe_int, vGe_int, vIx_lst, vIx_tup, atI_int, vSl_tup, vSl_lst, cutL_toI, cutL_fromI, cutL_midI, cutL_all, oLen, seqOf, oInt, oAbs, oMax2, oMin2, oTuple, oList, vIsN_non, vIsN_str, vIsN_int, vIsN_tup, vIsN_lst, dBm, tStr, tTup, tLst, dCat, lstOf, dListO, dLstO, dBmW, dTupRev, dAndV_ev, andK_bl, dOrV_ev, orK_bl, Int.ofNat_inj, h, h1, h2, pr_0, pr_1, pr_eq, in_prsT, e1, dApp, hl']
      · simp [dSeq_ev, seqR_nx, seqR_rt, seqR_ct, seqR_bk, seqR_ex, seqR_ite, runF_ev, resR_nx, resR_rt, resR_ex, resR_ite, startE, wp_nxK, wp_rtK, wp_ctK, wp_bkK, wp_exK, wp_nxP, wp_rtP, wp_ite, R.bind_ok, R.bind_exn, sb_ok, sb_exn, opt_some, opt_ite, bind_ite, sb_ite, dC, dVar, dPk, Fv.toVl, dBin, dUn, dTest, vTru, dTB_ev, tbK_bl, dAnd, dOr, dNot, dBV, dIf, dChain_ev, chK_bl, daNil, daCons, dTup, dLst, dIx, doNone, doSome, dSl, dFn, diVal, diRng, dCall, dRet, dRetN, dExpr, dIfS_ev, dAsg, gSet, gUn, gsNil, gsCons, itemsOf, dNext, dBreak, dCont, dRaise, dxC, dxE, dTold_ev, toldR_ok, toldR_exn, toldR_ite, dMeth, dFld, List.lookup, dSetF, putN, dPar, dPar3, vNeg, vSub_int, vAdd_int, vEq_int, vNe_int, vLt_int, vGt_int, vLe_int, vGe_int, vIx_lst, vIx_tup, atI_int, vSl_tup, vSl_lst, cutL_toI, cutL_fromI, cutL_midI, cutL_all, oLen, seqOf, oInt, oAbs, oMax2, oMin2, oTuple, oList, vIsN_non, vIsN_str, vIsN_int, vIsN_tup, vIsN_lst, dBm, tStr, tTup, tLst, dCat, lstOf, dListO, dLstO, dBmW, dTupRev, dAndV_ev, andK_bl, dOrV_ev, orK_bl, Int.ofNat_inj, h, h1, h2, h3, pr_0, pr_1, pr_eq, in_prsT, e1, dApp, hl']
    · by_cases h3 : a = l
      · subst h3
        simp [dSeq_ev, seqR_nx, seqR_rt, seqR_ct, seqR_bk, seqR_ex, seqR_ite, runF_ev, resR_nx, resR_rt, resR_ex, resR_ite, startE, wp_nxK, wp_rtK, wp_ctK, wp_bkK, wp_exK, wp_nxP, wp_rtP, wp_ite, R.bind_ok, R.bind_exn, sb_ok, sb_exn, opt_some, opt_ite, bind_ite, sb_ite, dC, dVar, dPk, Fv.toVl, dBin, dUn, dTest, vTru, dTB_ev, tbK_bl, dAnd, dOr, dNot, dBV, dIf, dChain_ev, chK_bl, daNil, daCons, dTup, dLst, dIx, doNone, doSome, dSl, dFn, diVal, diRng, dCall, dRet, dRetN, dExpr, dIfS_ev, dAsg, gSet, gUn, gsNil, gsCons, itemsOf, dNext, dBreak, dCont, dRaise, dxC, dxE, dTold_ev, toldR_ok, toldR_exn, toldR_ite, dMeth, dFld, List.lookup, dSetF, putN, dPar, dPar3, vNeg, vSub_int, vAdd_int, vEq_int, vNe_int, vLt_int, vGt_int, vLe_int, vGe_int, vIx_lst, vIx_tup, atI_int, vSl_tup, vSl_lst, cutL_toI, cutL_fromI, cutL_midI, cutL_all, oLen, seqOf, oInt, oAbs, oMax2, oMin2, oTuple, oList, vIsN_non, vIsN_str, vIsN_int, vIsN_tup, vIsN_lst, dBm, tStr, tTup, tLst, dCat, lstOf, dListO, dLstO, dBmW, dTupRev, dAndV_ev, andK_bl, dOrV_ev, orK_bl, Int.ofNat_inj, h, h1, h2, pr_0, pr_1, pr_eq, in_prsT, e1, dApp, hl']
      · simp [dSeq_ev, seqR_nx, seqR_rt, seqR_ct, seqR_bk, seqR_ex, seqR_ite, runF_ev, resR_nx, resR_rt, resR_ex, resR_ite, startE, wp_nxK, wp_rtK, wp_ctK, wp_bkK, wp_exK, wp_nxP, wp_rtP, wp_ite, R.bind_ok, R.bind_exn, sb_ok, sb_exn, opt_some, opt_ite, bind_ite, sb_ite, dC, dVar, dPk, Fv.toVl, dBin, dUn, dTest, vTru, dTB_ev, tbK_bl, dAnd, dOr, dNot, dBV, dIf, dChain_ev, chK_bl, daNil, daCons, dTup, dLst, dIx, doNone, doSome, dSl, dFn, diVal, diRng, dCall, dRet, dRetN, dExpr, dIfS_ev, dAsg, gSet, gUn, gsNil, gsCons, itemsOf, dNext, dBreak, dCont, dRaise, dxC, dxE, dTold_ev, toldR_ok, toldR_exn, toldR_ite, dMeth, dFld, List.lookup, dSetF, putN, dPar, dPar3, vNeg, vSub_int, vAdd_int, vEq_int, vNe_int, vLt_int, vGt_int, vLe_int, vGe_int, vIx_lst, vIx_tup, atI_int, vSl_tup, vSl_lst, cutL_toI, cutL_fromI, cutL_midI, cutL_all, oLen, seqOf, oInt, oAbs, oMax2, oMin2, oTuple, oList, vIsN_non, vIsN_str, vIsN_int, vIsN_tup, vIsN_lst, dBm, tStr, tTup, tLst, dCat, lstOf, dListO, dLstO, dBmW, dTupRev, dAndV_ev, andK_bl, dOrV_ev, orK_bl, Int.ofNat_inj, h, h1, h2, h3, pr_0, pr_1, pr_eq, in_prsT, e1, dApp, hl']
  · by_cases h3 : a = l
    · subst h3
      simp [dSeq_ev, seqR_nx, seqR_rt, seqR_ct, seqR_bk, seqR_ex, seqR_ite, runF_ev, resR_nx, resR_rt, resR_ex, resR_ite, startE, wp_nxK, wp_rtK, wp_ctK, wp_bkK, wp_exK, wp_nxP, wp_rtP, wp_ite, R.bind_ok, R.bind_exn, sb_ok, sb_exn, opt_some, opt_ite, bind_ite, sb_ite, dC, dVar, dPk, Fv.toVl, dBin, dUn, dTest, vTru, dTB_ev, tbK_bl, dAnd, dOr, dNot, dBV, dIf, dChain_ev, chK_bl, daNil, daCons, dTup, dLst, dIx, doNone, doSome, dSl, dFn, diVal, diRng, dCall, dRet, dRetN, dExpr, dIfS_ev, dAsg, gSet, gUn, gsNil, gsCons, itemsOf, dNext, dBreak, dCont, dRaise, dxC, dxE, dTold_ev, toldR_ok, toldR_exn, toldR_ite, dMeth, dFld, List.lookup, dSetF, putN, dPar, dPar3, vNeg, vSub_int, vAdd_int, vEq_int, vNe_int, vLt_int, vGt_int, vLe_int, vGe_int, vIx_lst, vIx_tup, atI_int, vSl_tup, vSl_lst, cutL_toI, cutL_fromI, cutL_midI, cutL_all, oLen, seqOf, oInt, oAbs, oMax2, oMin2, oTuple, oList, vIsN_non, vIsN_str, vIsN_int, vIsN_tup, vIsN_lst, dBm, tStr, tTup, tLst, dCat, lstOf, dListO, dLstO, dBmW, dTupRev, dAndV_ev, andK_bl, dOrV_ev, orK_bl, Int.ofNat_inj, h, h1, pr_0, pr_1, pr_eq, in_prsT, e1, dApp, hl']
    · simp [dSeq_ev, seqR_nx, seqR_rt, seqR_ct, seqR_bk, seqR_ex, seqR_ite, runF_ev, resR_nx, resR_rt, resR_ex, resR_ite, startE, wp_nxK, wp_rtK, wp_ctK, wp_bkK, wp_exK, wp_nxP, wp_rtP, wp_ite, R.bind_ok, R.bind_exn, sb_ok, sb_exn, opt_some, opt_ite, bind_ite, sb_ite, dC, dVar, dPk, Fv.toVl, dBin, dUn, dTest, vTru, dTB_ev, tbK_bl, dAnd, dOr, dNot, dBV, dIf, dChain_ev, chK_bl, daNil, daCons, dTup, dLst, dIx, doNone, doSome, dSl, dFn, diVal, diRng, dCall, dRet, dRetN, dExpr, dIfS_ev, dAsg, gSet, gUn, gsNil, gsCons, itemsOf, dNext, dBreak, dCont, dRaise, dxC, dxE, dTold_ev, toldR_ok, toldR_exn, toldR_ite, dMeth, dFld, List.lookup, dSetF, putN, dPar, dPar3, vNeg, vSub_int, vAdd_int, vEq_int, vNe_int, vLt_int, vGt_int, vLe_int, vGe_int, vIx_lst, vIx_tup, atI_int, vSl_tup, vSl_lst, cutL_toI, cutL_fromI, cutL_midI, cutL_all, oLen, seqOf, oInt, oAbs, oMax2, oMin2, oTuple, oList, vIsN_non, vIsN_str, vIsN_int, vIsN_tup, vIsN_lst, dBm, tStr, tTup, tLst, dCat, lstOf, dListO, dLstO, dBmW, dTupRev, dAndV_ev, andK_bl, dOrV_ev, orK_bl, Int.ofNat_inj, h, h1, h3, pr_0, pr_1, pr_eq, in_prsT, e1, dApp, hl']
end
end CardH
end
section
set_option maxHeartbeats 4000000
namespace CardH
open PySem PySem.Spec PyProof.Rows L2
section
variable (G : Gst) (i w : Nat) (hi : i < G.length)
include hi
theorem set_at (o : Ob) : (G.set i o)[i]? = some o := by simp [hi]
theorem forF (T F : List Sp2) (l : Nat) (x1 x2 x3 z6 z7 z8 z9 z10 : Option Fv) (hF : F.length ≤ 1000) :
    ∃ z6' z8', forL (gSet 6) T4_0_House_knock (F.map pr) [some (.val (.ref i)), x1, x2, x3, some (.val (.int l)), some (.ol []), z6, z7, z8, z9, z10] (G.set i (houO w T F)) =
      .nx [some (.val (.ref i)), x1, x2, x3, some (.val (.int l)), some (.ol ((kF l T F).map pr)), z6', z7, z8', z9, z10] (G.set i (houO w T F)) := by
  obtain ⟨e', h1, h2, z6', z8', h3⟩ := forL_foldN (g := gSet 6) (db := T4_0_House_knock) pr (fun (s : List Sp2) f => if pF l T f = true then s ++ [f] else s) (fun _ => G.set i (houO w T F)) F
    (fun k s e => s.length ≤ k ∧ ∃ z6 z8, e = [some (.val (.ref i)), x1, x2, x3, some (.val (.int l)), some (.ol (s.map pr)), z6, z7, z8, z9, z10]) []
    [some (.val (.ref i)), x1, x2, x3, some (.val (.int l)), some (.ol []), z6, z7, z8, z9, z10] ⟨Nat.le_refl _, z6, z8, rfl⟩ (by
      rintro k f hf s e ⟨hs, z6, z8, rfl⟩
      have hk : k < F.length := (List.getElem?_eq_some_iff.mp hf).1
      refine ⟨_, rfl, _, .inl (bodyF _ i w T F l x1 x2 x3 z7 z8 z9 z10 s f (set_at G i hi _) (by omega)), ?_, _, _, rfl⟩
      by_cases h : pF l T f = true <;> simp [h] <;> omega)
  rw [foldl_filter] at h3
  exact ⟨z6', z8', by rw [h1, h3]; rfl⟩
theorem compT (T F : List Sp2) (l : Nat) (x1 x2 x3 x5 x6 x8 x9 : Option Fv) (hT : T.length ≤ 1000) :
    C2_House_knock [some (.val (.ref i)), x1, x2, x3, some (.val (.int l)), x5, x6, some (.val (.tup (T.map pr))), x8, x9, none] (G.set i (houO w T F)) = .ok (.lst ((kT l T F).map pr)) (G.set i (houO w T F)) := by
  unfold C2_House_knock
  have h := set_at G i hi (houO w T F)
  rw [dLc_tm T pr (fun t => decide (t.1 ≠ l + 1) || decide ((l, t.2) ∈ F)) pr (G1 := G.set i (houO w T F))]
  · rfl
  · simp [dSeq_ev, seqR_nx, seqR_rt, seqR_ct, seqR_bk, seqR_ex, seqR_ite, runF_ev, resR_nx, resR_rt, resR_ex, resR_ite, startE, wp_nxK, wp_rtK, wp_ctK, wp_bkK, wp_exK, wp_nxP, wp_rtP, wp_ite, R.bind_ok, R.bind_exn, sb_ok, sb_exn, opt_some, opt_ite, bind_ite, sb_ite, dC, dVar, dPk, Fv.toVl, dBin, dUn, dTest, vTru, dTB_ev, tbK_bl, dAnd, dOr, dNot, dBV, dIf, dChain_ev, chK_bl, daNil, daCons, dTup, dLst, dIx, doNone, doSome, dSl, dFn, diVal, diRng, dCall, dRet, dRetN, dExpr, dIfS_ev, dAsg, gSet, gUn, gsNil, gsCons, itemsOf, dNext, dBreak, dCont, dRaise, dxC, dxE, dTold_ev, toldR_ok, toldR_exn, toldR_ite, dMeth, dFld, List.lookup, dSetF, putN, dPar, dPar3, vNeg, vSub_int, vAdd_int, vEq_int, vNe_int, vLt_int, vGt_int, vLe_int, vGe_int, vIx_lst, vIx_tup, atI_int, vSl_tup, vSl_lst, cutL_toI, cutL_fromI, cutL_midI, cutL_all, oLen, seqOf, oInt, oAbs, oMax2, oMin2, oTuple, oList, vIsN_non, vIsN_str, vIsN_int, vIsN_tup, vIsN_lst, dBm, tStr, tTup, tLst, dCat, lstOf, dListO, dLstO, dBmW, dTupRev, walkOf, dAndV_ev, andK_bl, dOrV_ev, orK_bl, Int.ofNat_inj]
  · rintro ⟨a, b⟩ _
    have e1 : ((l : Int) + 1) = ((l + 1 : Nat) : Int) := by omega
    refine ⟨_, rfl, ?_, fun _ => by simp [dSeq_ev, seqR_nx, seqR_rt, seqR_ct, seqR_bk, seqR_ex, seqR_ite, runF_ev, resR_nx, resR_rt, resR_ex, resR_ite, startE, wp_nxK, wp_rtK, wp_ctK, wp_bkK, wp_exK, wp_nxP, wp_rtP, wp_ite, R.bind_ok, R.bind_exn, sb_ok, sb_exn, opt_some, opt_ite, bind_ite, sb_ite, dC, dVar, dPk, Fv.toVl, dBin, dUn, dTest, vTru, dTB_ev, tbK_bl, dAnd, dOr, dNot, dBV, dIf, dChain_ev, chK_bl, daNil, daCons, dTup, dLst, dIx, doNone, doSome, dSl, dFn, diVal, diRng, dCall, dRet, dRetN, dExpr, dIfS_ev, dAsg, gSet, gUn, gsNil, gsCons, itemsOf, dNext, dBreak, dCont, dRaise, dxC, dxE, dTold_ev, toldR_ok, toldR_exn, toldR_ite, dMeth, dFld, List.lookup, dSetF, putN, dPar, dPar3, vNeg, vSub_int, vAdd_int, vEq_int, vNe_int, vLt_int, vGt_int, vLe_int, vGe_int, vIx_lst, vIx_tup, atI_int, vSl_tup, vSl_lst, cutL_toI, cutL_fromI, cutL_midI, cutL_all, oLen, seqOf, oInt, oAbs, oMax2, oMin2, oTuple, oList, vIsN_non, vIsN_str, vIsN_int, vIsN_tup, vIsN_lst, dBm, tStr, tTup, tLst, dCat, lstOf, dListO, dLstO, dBmW, dTupRev, walkOf, dAndV_ev, andK_bl, dOrV_ev, orK_bl, Int.ofNat_inj, wipeE]⟩
    generalize l + 1 = l' at e1 ⊢
    by_cases h1 : a = l'
    · subst h1
      simp [dSeq_ev, seqR_nx, seqR_rt, seqR_ct, seqR_bk, seqR_ex, seqR_ite, runF_ev, resR_nx, resR_rt, resR_ex, resR_ite, startE, wp_nxK, wp_rtK, wp_ctK, wp_bkK, wp_exK, wp_nxP, wp_rtP, wp_ite, R.bind_ok, R.bind_exn, sb_ok, sb_exn, opt_some, opt_ite, bind_ite, sb_ite, dC, dVar, dPk, Fv.toVl, dBin, dUn, dTest, vTru, dTB_ev, tbK_bl, dAnd, dOr, dNot, dBV, dIf, dChain_ev, chK_bl, daNil, daCons, dTup, dLst, dIx, doNone, doSome, dSl, dFn, diVal, diRng, dCall, dRet, dRetN, dExpr, dIfS_ev, dAsg, gSet, gUn, gsNil, gsCons, itemsOf, dNext, dBreak, dCont, dRaise, dxC, dxE, dTold_ev, toldR_ok, toldR_exn, toldR_ite, dMeth, dFld, List.lookup, dSetF, putN, dPar, dPar3, vNeg, vSub_int, vAdd_int, vEq_int, vNe_int, vLt_int, vGt_int, vLe_int, vGe_int, vIx_lst, vIx_tup, atI_int, vSl_tup, vSl_lst, cutL_toI, cutL_fromI, cutL_midI, cutL_all, oLen, seqOf, oInt, oAbs, oMax2, oMin2, oTuple, oList, vIsN_non, vIsN_str, vIsN_int, vIsN_tup, vIsN_lst, dBm, tStr, tTup, tLst, dCat, lstOf, dListO, dLstO, dBmW, dTupRev, walkOf, dAndV_ev, andK_bl, dOrV_ev, orK_bl, Int.ofNat_inj, wipeE, pr_0, pr_1, e1, h, pr_eq, in_prsT]
    · simp [dSeq_ev, seqR_nx, seqR_rt, seqR_ct, seqR_bk, seqR_ex, seqR_ite, runF_ev, resR_nx, resR_rt, resR_ex, resR_ite, startE, wp_nxK, wp_rtK, wp_ctK, wp_bkK, wp_exK, wp_nxP, wp_rtP, wp_ite, R.bind_ok, R.bind_exn, sb_ok, sb_exn, opt_some, opt_ite, bind_ite, sb_ite, dC, dVar, dPk, Fv.toVl, dBin, dUn, dTest, vTru, dTB_ev, tbK_bl, dAnd, dOr, dNot, dBV, dIf, dChain_ev, chK_bl, daNil, daCons, dTup, dLst, dIx, doNone, doSome, dSl, dFn, diVal, diRng, dCall, dRet, dRetN, dExpr, dIfS_ev, dAsg, gSet, gUn, gsNil, gsCons, itemsOf, dNext, dBreak, dCont, dRaise, dxC, dxE, dTold_ev, toldR_ok, toldR_exn, toldR_ite, dMeth, dFld, List.lookup, dSetF, putN, dPar, dPar3, vNeg, vSub_int, vAdd_int, vEq_int, vNe_int, vLt_int, vGt_int, vLe_int, vGe_int, vIx_lst, vIx_tup, atI_int, vSl_tup, vSl_lst, cutL_toI, cutL_fromI, cutL_midI, cutL_all, oLen, seqOf, oInt, oAbs, oMax2, oMin2, oTuple, oList, vIsN_non, vIsN_str, vIsN_int, vIsN_tup, vIsN_lst, dBm, tStr, tTup, tLst, dCat, lstOf, dListO, dLstO, dBmW, dTupRev, walkOf, dAndV_ev, andK_bl, dOrV_ev, orK_bl, Int.ofNat_inj, wipeE, pr_0, pr_1, e1, h, pr_eq, in_prsT, h1]
  · omega
theorem levelB (T F : List Sp2) (l : Nat) (x1 x2 x3 z5 z6 z7 z8 z9 : Option Fv) (hT : T.length ≤ 1000) (hF : F.length ≤ 1000) :
    ∃ z5' z6' z7' z8', T3_0_House_knock [some (.val (.ref i)), x1, x2, x3, some (.val (.int l)), z5, z6, z7, z8, z9, none] (G.set i (houO w T F)) =
      .nx [some (.val (.ref i)), x1, x2, x3, some (.val (.int l)), z5', z6', z7', z8', z9, none] (G.set i (houO w (kT l T (kF l T F)) (kF l T F))) := by
  obtain ⟨z6', z8', hf⟩ := forF G i w hi T F l x1 x2 x3 z6 z7 z8 z9 none hF
  have hc := compT G i w hi T (kF l T F) l x1 x2 x3 (some (.ol ((kF l T F).map pr))) z6' z8' z9 hT
  have h := set_at G i hi (houO w T F)
  have h' := set_at G i hi (houO w T (kF l T F))
  refine ⟨some (.ol ((kF l T F).map pr)), z6', some (.val (.tup (T.map pr))), z8', ?_⟩
  unfold T3_0_House_knock T3_1_House_knock T3_2_House_knock T3_3_House_knock T3_4_House_knock
  simp [dSeq_ev, seqR_nx, seqR_rt, seqR_ct, seqR_bk, seqR_ex, seqR_ite, runF_ev, resR_nx, resR_rt, resR_ex, resR_ite, startE, wp_nxK, wp_rtK, wp_ctK, wp_bkK, wp_exK, wp_nxP, wp_rtP, wp_ite, R.bind_ok, R.bind_exn, sb_ok, sb_exn, opt_some, opt_ite, bind_ite, sb_ite, dC, dVar, dPk, Fv.toVl, dBin, dUn, dTest, vTru, dTB_ev, tbK_bl, dAnd, dOr, dNot, dBV, dIf, dChain_ev, chK_bl, daNil, daCons, dTup, dLst, dIx, doNone, doSome, dSl, dFn, diVal, diRng, dCall, dRet, dRetN, dExpr, dIfS_ev, dAsg, gSet, gUn, gsNil, gsCons, itemsOf, dNext, dBreak, dCont, dRaise, dxC, dxE, dTold_ev, toldR_ok, toldR_exn, toldR_ite, dMeth, dFld, List.lookup, dSetF, putN, dPar, dPar3, vNeg, vSub_int, vAdd_int, vEq_int, vNe_int, vLt_int, vGt_int, vLe_int, vGe_int, vIx_lst, vIx_tup, atI_int, vSl_tup, vSl_lst, cutL_toI, cutL_fromI, cutL_midI, cutL_all, oLen, seqOf, oInt, oAbs, oMax2, oMin2, oTuple, oList, vIsN_non, vIsN_str, vIsN_int, vIsN_tup, vIsN_lst, dBm, tStr, tTup, tLst, dCat, lstOf, dListO, dLstO, dBmW, dTupRev, walkOf, dAndV_ev, andK_bl, dOrV_ev, orK_bl, Int.ofNat_inj, dOwnL, dFor, h, h', hf, hc, List.set_set, hi]
theorem kF_len (l : Nat) (T F : List Sp2) : (kF l T F).length ≤ F.length := List.length_filter_le ..
theorem kT_len (l : Nat) (T F : List Sp2) : (kT l T F).length ≤ T.length := List.length_filter_le ..
theorem knk_fold : ∀ (ls : List Nat) (T F : List Sp2), ls.foldl (fun (s : List Sp2 × List Sp2) l => (kT l s.1 (kF l s.1 s.2), kF l s.1 s.2)) (T, F) = knk ls T F
  | [], T, F => rfl
  | l :: ls, T, F => by rw [List.foldl_cons]; exact knk_fold ls _ _
theorem loopL (T F : List Sp2) (ls : List Nat) (x1 x2 x3 z4 z5 z6 z7 z8 z9 : Option Fv) (hT : T.length ≤ 1000) (hF : F.length ≤ 1000) :
    ∃ z4' z5' z6' z7' z8', forL (gSet 4) T3_0_House_knock (ls.map fun l : Nat => .int l) [some (.val (.ref i)), x1, x2, x3, z4, z5, z6, z7, z8, z9, none] (G.set i (houO w T F)) =
      .nx [some (.val (.ref i)), x1, x2, x3, z4', z5', z6', z7', z8', z9, none] (G.set i (houO w (knk ls T F).1 (knk ls T F).2)) := by
  obtain ⟨e', h1, ⟨h2, h3⟩, z4', z5', z6', z7', z8', h4⟩ := forL_foldN (g := gSet 4) (db := T3_0_House_knock) (fun l : Nat => Vl.int l) (fun (s : List Sp2 × List Sp2) l => (kT l s.1 (kF l s.1 s.2), kF l s.1 s.2)) (fun s => G.set i (houO w s.1 s.2)) ls
    (fun k s e => (s.1.length ≤ 1000 ∧ s.2.length ≤ 1000) ∧ ∃ z4 z5 z6 z7 z8, e = [some (.val (.ref i)), x1, x2, x3, z4, z5, z6, z7, z8, z9, none]) (T, F)
    [some (.val (.ref i)), x1, x2, x3, z4, z5, z6, z7, z8, z9, none] ⟨⟨hT, hF⟩, z4, z5, z6, z7, z8, rfl⟩ (by
      rintro k l hl ⟨T, F⟩ e ⟨⟨hT, hF⟩, z4, z5, z6, z7, z8, rfl⟩
      obtain ⟨z5', z6', z7', z8', h⟩ := levelB G i w hi T F l x1 x2 x3 z5 z6 z7 z8 z9 hT hF
      exact ⟨_, rfl, _, .inl h, ⟨Nat.le_trans (kT_len G i hi l T _) hT, Nat.le_trans (kF_len G i hi l T F) hF⟩, _, _, _, _, _, rfl⟩)
  rw [knk_fold G i hi] at h1
  exact ⟨z4', z5', z6', z7', z8', by rw [h1, h4]⟩
theorem house_knock (T F : List Sp2) (s p : Nat) (h : G[i]? = some (houO w T F)) (hT : T.length ≤ 1000) (hF : F.length ≤ 1000) (hw : w ≤ 1000) (hs : s ≤ 1000) : M_House_knock [.ref i, .int s, .int p] G =
    if (s, p) ∈ T then
      let k := knk (List.range' s (w - s)) (T.filter fun t => decide (t ≠ (s, p))) F
      .ok (.int (2 * T.length + F.length - (2 * k.1.length + k.2.length))) (G.set i (houO w k.1 k.2))
    else .exn { cls := 5 } G := by
  unfold M_House_knock D_House_knock
  by_cases h1 : (s, p) ∈ T
  · have hc := house_count G i w T F h
    have hC : C1_House_knock [some (.val (.ref i)), some (.val (.int s)), some (.val (.int p)), some (.val (.int (2 * T.length + F.length))), none, none, none, none, none, none, none] G = .ok (.lst ((T.filter fun t => decide (t ≠ (s, p))).map pr)) G := by
      unfold C1_House_knock
      rw [dLc_tm T pr (fun t => decide (t ≠ (s, p))) pr (G1 := G)]
      · simp [dSeq_ev, seqR_nx, seqR_rt, seqR_ct, seqR_bk, seqR_ex, seqR_ite, runF_ev, resR_nx, resR_rt, resR_ex, resR_ite, startE, wp_nxK, wp_rtK, wp_ctK, wp_bkK, wp_exK, wp_nxP, wp_rtP, wp_ite, R.bind_ok, R.bind_exn, sb_ok, sb_exn, opt_some, opt_ite, bind_ite, sb_ite, dC, dVar, dPk, Fv.toVl, dBin, dUn, dTest, vTru, dTB_ev, tbK_bl, dAnd, dOr, dNot, dBV, dIf, dChain_ev, chK_bl, daNil, daCons, dTup, dLst, dIx, doNone, doSome, dSl, dFn, diVal, diRng, dCall, dRet, dRetN, dExpr, dIfS_ev, dAsg, gSet, gUn, gsNil, gsCons, itemsOf, dNext, dBreak, dCont, dRaise, dxC, dxE, dTold_ev, toldR_ok, toldR_exn, toldR_ite, dMeth, dFld, List.lookup, dSetF, putN, dPar, dPar3, vNeg, vSub_int, vAdd_int, vEq_int, vNe_int, vLt_int, vGt_int, vLe_int, vGe_int, vIx_lst, vIx_tup, atI_int, vSl_tup, vSl_lst, cutL_toI, cutL_fromI, cutL_midI, cutL_all, oLen, seqOf, oInt, oAbs, oMax2, oMin2, oTuple, oList, vIsN_non, vIsN_str, vIsN_int, vIsN_tup, vIsN_lst, dBm, tStr, tTup, tLst, dCat, lstOf, dListO, dLstO, dBmW, dTupRev, walkOf, dAndV_ev, andK_bl, dOrV_ev, orK_bl, Int.ofNat_inj, h]
      · intro t _
        exact ⟨_, rfl, by simp [dSeq_ev, seqR_nx, seqR_rt, seqR_ct, seqR_bk, seqR_ex, seqR_ite, runF_ev, resR_nx, resR_rt, resR_ex, resR_ite, startE, wp_nxK, wp_rtK, wp_ctK, wp_bkK, wp_exK, wp_nxP, wp_rtP, wp_ite, R.bind_ok, R.bind_exn, sb_ok, sb_exn, opt_some, opt_ite, bind_ite, sb_ite, dC, dVar, dPk, Fv.toVl, dBin, dUn, dTest, vTru, dTB_ev, tbK_bl, dAnd, dOr, dNot, dBV, dIf, dChain_ev, chK_bl, daNil, daCons, dTup, dLst, dIx, doNone, doSome, dSl, dFn, diVal, diRng, dCall, dRet, dRetN, dExpr, dIfS_ev, dAsg, gSet, gUn, gsNil, gsCons, itemsOf, dNext, dBreak, dCont, dRaise, dxC, dxE, dTold_ev, toldR_ok, toldR_exn, toldR_ite, dMeth, dFld, List.lookup, dSetF, putN, dPar, dPar3, vNeg, vSub_int, vAdd_int, vEq_int, vNe_int, vLt_int, vGt_int, vLe_int, vGe_int, vIx_lst, vIx_tup, atI_int, vSl_tup, vSl_lst, cutL_toI, cutL_fromI, cutL_midI, cutL_all, oLen, seqOf, oInt, oAbs, oMax2, oMin2, oTuple, oList, vIsN_non, vIsN_str, vIsN_int, vIsN_tup, vIsN_lst, dBm, tStr, tTup, tLst, dCat, lstOf, dListO, dLstO, dBmW, dTupRev, walkOf, dAndV_ev, andK_bl, dOrV_ev, orK_bl, Int.ofNat_inj, wipeE, pr_eq, ne_pr], fun _ => by simp [dSeq_ev, seqR_nx, seqR_rt, seqR_ct, seqR_bk, seqR_ex, seqR_ite, runF_ev, resR_nx, resR_rt, resR_ex, resR_ite, startE, wp_nxK, wp_rtK, wp_ctK, wp_bkK, wp_exK, wp_nxP, wp_rtP, wp_ite, R.bind_ok, R.bind_exn, sb_ok, sb_exn, opt_some, opt_ite, bind_ite, sb_ite, dC, dVar, dPk, Fv.toVl, dBin, dUn, dTest, vTru, dTB_ev, tbK_bl, dAnd, dOr, dNot, dBV, dIf, dChain_ev, chK_bl, daNil, daCons, dTup, dLst, dIx, doNone, doSome, dSl, dFn, diVal, diRng, dCall, dRet, dRetN, dExpr, dIfS_ev, dAsg, gSet, gUn, gsNil, gsCons, itemsOf, dNext, dBreak, dCont, dRaise, dxC, dxE, dTold_ev, toldR_ok, toldR_exn, toldR_ite, dMeth, dFld, List.lookup, dSetF, putN, dPar, dPar3, vNeg, vSub_int, vAdd_int, vEq_int, vNe_int, vLt_int, vGt_int, vLe_int, vGe_int, vIx_lst, vIx_tup, atI_int, vSl_tup, vSl_lst, cutL_toI, cutL_fromI, cutL_midI, cutL_all, oLen, seqOf, oInt, oAbs, oMax2, oMin2, oTuple, oList, vIsN_non, vIsN_str, vIsN_int, vIsN_tup, vIsN_lst, dBm, tStr, tTup, tLst, dCat, lstOf, dListO, dLstO, dBmW, dTupRev, walkOf, dAndV_ev, andK_bl, dOrV_ev, orK_bl, Int.ofNat_inj, wipeE]⟩
      · omega
    obtain ⟨z4', z5', z6', z7', z8', hL⟩ := loopL G i w hi (T.filter fun t => decide (t ≠ (s, p))) F (List.range' s (w - s)) (some (.val (.int s))) (some (.val (.int p))) (some (.val (.int (2 * T.length + F.length)))) none none none none none none
      (Nat.le_trans (List.length_filter_le ..) hT) hF
    have hr := rng2_int (s : Int) (w : Int) (by omega)
    have er : rgL (s : Int) ((w : Int) - s).toNat = (List.range' s (w - s)).map fun l : Nat => Vl.int l := by
      unfold rgL
      rw [List.range'_eq_map_range, List.map_map, show ((w : Int) - s).toNat = w - s by omega]
      congr 1
    rw [er] at hr
    have h2 := set_at G i hi (houO w (T.filter fun t => decide (t ≠ (s, p))) F)
    generalize hk : knk (List.range' s (w - s)) (T.filter fun t => decide (t ≠ (s, p))) F = k at hL ⊢
    have hc2 := house_count (G.set i (houO w k.1 k.2)) i w k.1 k.2 (set_at G i hi _)
    rw [if_pos h1]
    unfold T1_1_House_knock T1_2_House_knock T1_3_House_knock T1_4_House_knock
    simp only [ne_eq, decide_not] at hC hL h2
    have h3 := set_at G i hi (houO w k.1 k.2)
    simp [dSeq_ev, seqR_nx, seqR_rt, seqR_ct, seqR_bk, seqR_ex, seqR_ite, runF_ev, resR_nx, resR_rt, resR_ex, resR_ite, startE, wp_nxK, wp_rtK, wp_ctK, wp_bkK, wp_exK, wp_nxP, wp_rtP, wp_ite, R.bind_ok, R.bind_exn, sb_ok, sb_exn, opt_some, opt_ite, bind_ite, sb_ite, dC, dVar, dPk, Fv.toVl, dBin, dUn, dTest, vTru, dTB_ev, tbK_bl, dAnd, dOr, dNot, dBV, dIf, dChain_ev, chK_bl, daNil, daCons, dTup, dLst, dIx, doNone, doSome, dSl, dFn, diVal, diRng, dCall, dRet, dRetN, dExpr, dIfS_ev, dAsg, gSet, gUn, gsNil, gsCons, itemsOf, dNext, dBreak, dCont, dRaise, dxC, dxE, dTold_ev, toldR_ok, toldR_exn, toldR_ite, dMeth, dFld, List.lookup, dSetF, putN, dPar, dPar3, vNeg, vSub_int, vAdd_int, vEq_int, vNe_int, vLt_int, vGt_int, vLe_int, vGe_int, vIx_lst, vIx_tup, atI_int, vSl_tup, vSl_lst, cutL_toI, cutL_fromI, cutL_midI, cutL_all, oLen, seqOf, oInt, oAbs, oMax2, oMin2, oTuple, oList, vIsN_non, vIsN_str, vIsN_int, vIsN_tup, vIsN_lst, dBm, tStr, tTup, tLst, dCat, lstOf, dListO, dLstO, dBmW, dTupRev, walkOf, dAndV_ev, andK_bl, dOrV_ev, orK_bl, Int.ofNat_inj, h, h1, pr_eq, notin_prsT, hc, hC, h2, h3, dFor, hr, hL, hc2]
  · simp [dSeq_ev, seqR_nx, seqR_rt, seqR_ct, seqR_bk, seqR_ex, seqR_ite, runF_ev, resR_nx, resR_rt, resR_ex, resR_ite, startE, wp_nxK, wp_rtK, wp_ctK, wp_bkK, wp_exK, wp_nxP, wp_rtP, wp_ite, R.bind_ok, R.bind_exn, sb_ok, sb_exn, opt_some, opt_ite, bind_ite, sb_ite, dC, dVar, dPk, Fv.toVl, dBin, dUn, dTest, vTru, dTB_ev, tbK_bl, dAnd, dOr, dNot, dBV, dIf, dChain_ev, chK_bl, daNil, daCons, dTup, dLst, dIx, doNone, doSome, dSl, dFn, diVal, diRng, dCall, dRet, dRetN, dExpr, dIfS_ev, dAsg, gSet, gUn, gsNil, gsCons, itemsOf, dNext, dBreak, dCont, dRaise, dxC, dxE, dTold_ev, toldR_ok, toldR_exn, toldR_ite, dMeth, dFld, List.lookup, dSetF, putN, dPar, dPar3, vNeg, vSub_int, vAdd_int, vEq_int, vNe_int, vLt_int, vGt_int, vLe_int, vGe_int, vIx_lst, vIx_tup, atI_int, vSl_tup, vSl_lst, cutL_toI, cutL_fromI, cutL_midI, cutL_all, oLen, seqOf, oInt, oAbs, oMax2, oMin2, oTuple, oList, vIsN_non, vIsN_str, vIsN_int, vIsN_tup, vIsN_lst, dBm, tStr, tTup, tLst, dCat, lstOf, dListO, dLstO, dBmW, dTupRev, walkOf, dAndV_ev, andK_bl, dOrV_ev, orK_bl, Int.ofNat_inj, h, h1, pr_eq, notin_prsT]
end
end CardH
end
section
set_option maxHeartbeats 4000000
namespace CardH
open PySem PySem.Spec PyProof.Rows L2
/-! ### what stands: by storeys -/
/-- told by storeys: does the tent stand, does the flat card -/
def aT (T F : List Sp2) : Nat → Nat → Bool
  | 0, p => decide ((0, p) ∈ T)
  | l + 1, p => decide ((l + 1, p) ∈ T) && (decide ((l, p) ∈ F) && (aT T F l p && aT T F l (p + 1)))
def aF (T F : List Sp2) (l p : Nat) : Bool := decide ((l, p) ∈ F) && (aT T F l p && aT T F l (p + 1))
theorem aT_succ (T F : List Sp2) (l p : Nat) : aT T F (l + 1) p = (decide ((l + 1, p) ∈ T) && aF T F l p) := rfl
theorem aT_mem {T F : List Sp2} {l p : Nat} (h : aT T F l p = true) : (l, p) ∈ T := by
  cases l with
  | zero => simpa [aT] using h
  | succ l => rw [aT_succ, Bool.and_eq_true] at h; simpa using h.1
theorem aF_mem {T F : List Sp2} {l p : Nat} (h : aF T F l p = true) : (l, p) ∈ F := by
  unfold aF at h
  rw [Bool.and_eq_true] at h
  simpa using h.1
/-- all stand -/
def Sta (T F : List Sp2) : Prop := (∀ l p, (l, p) ∈ F → (l, p) ∈ T ∧ (l, p + 1) ∈ T) ∧ ∀ l p, (l + 1, p) ∈ T → (l, p) ∈ F
def stT (T F : List Sp2) : List Sp2 := T.filter fun t => aT T F t.1 t.2
def stF (T F : List Sp2) : List Sp2 := F.filter fun f => aF T F f.1 f.2
theorem mem_stT {T F : List Sp2} {l p : Nat} : (l, p) ∈ stT T F ↔ aT T F l p = true := by
  unfold stT
  rw [List.mem_filter]
  exact ⟨fun h => h.2, fun h => ⟨aT_mem h, h⟩⟩
theorem mem_stF {T F : List Sp2} {l p : Nat} : (l, p) ∈ stF T F ↔ aF T F l p = true := by
  unfold stF
  rw [List.mem_filter]
  exact ⟨fun h => h.2, fun h => ⟨aF_mem h, h⟩⟩
theorem sta_st (T F : List Sp2) : Sta (stT T F) (stF T F) := by
  refine ⟨fun l p h => ?_, fun l p h => ?_⟩
  · rw [mem_stF] at h
    unfold aF at h
    simp only [Bool.and_eq_true] at h
    rw [mem_stT, mem_stT]
    exact h.2
  · rw [mem_stT, aT_succ, Bool.and_eq_true] at h
    rw [mem_stF]; exact h.2
/-- told by any way of keeping -/
theorem filter_flt (p q : Sp2 → Bool) (l : List Sp2) : (l.filter p).filter q = l.filter fun x => p x && q x := by
  rw [List.filter_filter]
  congr 1
  funext x
  exact Bool.and_comm _ _
/-- the house's way: from a storey up -/
def pTn (T F : List Sp2) (n : Nat) (t : Sp2) : Bool := decide (n < t.1) || aT T F t.1 t.2
def pFn (T F : List Sp2) (n : Nat) (f : Sp2) : Bool := decide (n ≤ f.1) || aF T F f.1 f.2
theorem knk_step (T F : List Sp2) (l : Nat) :
    kF l (T.filter (pTn T F l)) (F.filter (pFn T F l)) = F.filter (pFn T F (l + 1)) ∧ kT l (T.filter (pTn T F l)) (F.filter (pFn T F (l + 1))) = T.filter (pTn T F (l + 1)) := by
  have hT : ∀ a b, a ≤ l → (decide ((a, b) ∈ T.filter (pTn T F l)) = aT T F a b) := by
    intro a b ha
    rw [Bool.eq_iff_iff, decide_eq_true_eq, List.mem_filter]
    unfold pTn
    simp only [Bool.or_eq_true, decide_eq_true_eq]
    constructor
    · rintro ⟨h1, h2 | h2⟩
      · omega
      · exact h2
    · exact fun h => ⟨aT_mem h, .inr h⟩
  refine ⟨?_, ?_⟩
  · unfold kF
    rw [filter_flt]
    refine List.filter_congr fun f hf => ?_
    obtain ⟨a, b⟩ := f
    dsimp only
    by_cases h : a = l
    · subst h
      rw [hT a b (Nat.le_refl _), hT a (b + 1) (Nat.le_refl _)]
      unfold pFn aF
      simp [hf, show ¬ a + 1 ≤ a by omega]
    · unfold pFn
      by_cases h2 : l < a
      · simp [h, show l ≤ a by omega, show l + 1 ≤ a by omega]
      · simp [h, show ¬ l ≤ a by omega, show ¬ l + 1 ≤ a by omega]
  · unfold kT
    rw [filter_flt]
    refine List.filter_congr fun t ht => ?_
    obtain ⟨a, b⟩ := t
    dsimp only
    by_cases h : a = l + 1
    · subst h
      have e : decide ((l, b) ∈ F.filter (pFn T F (l + 1))) = aF T F l b := by
        rw [Bool.eq_iff_iff, decide_eq_true_eq, List.mem_filter]
        unfold pFn
        simp only [Bool.or_eq_true, decide_eq_true_eq]
        constructor
        · rintro ⟨h1, h2 | h2⟩
          · omega
          · exact h2
        · exact fun h => ⟨aF_mem h, .inr h⟩
      rw [e]
      unfold pTn
      rw [aT_succ]
      simp [ht]
    · unfold pTn
      by_cases h2 : l + 1 < a
      · simp [h, show l < a by omega, h2]
      · simp [h, show ¬ l < a by omega, h2]
theorem knk_st (T F : List Sp2) : ∀ (n s : Nat), knk (List.range' s n) (T.filter (pTn T F s)) (F.filter (pFn T F s)) = (T.filter (pTn T F (s + n)), F.filter (pFn T F (s + n)))
  | 0, s => rfl
  | n + 1, s => by
    rw [List.range'_succ]
    unfold knk
    obtain ⟨h1, h2⟩ := knk_step T F s
    rw [h1, h2, knk_st T F n (s + 1), show s + 1 + n = s + (n + 1) by omega]
/-- ahead of a storey nothing is to fall, if but a tent of it is taken -/
theorem low_ok {T F : List Sp2} (h : Sta T F) (s p : Nat) : ∀ a b, a ≤ s → aT (T.filter fun t => decide (t ≠ (s, p))) F a b = decide ((a, b) ∈ T.filter fun t => decide (t ≠ (s, p)))
  | 0, b, _ => rfl
  | a + 1, b, ha => by
    rw [aT_succ, Bool.eq_iff_iff, Bool.and_eq_true]
    refine ⟨fun z => z.1, fun z => ⟨z, ?_⟩⟩
    have z : (a + 1, b) ∈ T := by
      rw [decide_eq_true_eq, List.mem_filter] at z
      exact z.1
    have f := h.2 a b z
    have g := h.1 a b f
    unfold aF
    rw [low_ok h s p a b (by omega), low_ok h s p a (b + 1) (by omega)]
    simp only [Bool.and_eq_true, decide_eq_true_eq, List.mem_filter]
    exact ⟨f, ⟨g.1, by simp; omega⟩, g.2, by simp; omega⟩
theorem knk_all {T F : List Sp2} (h : Sta T F) (w s p : Nat) (hs : s ≤ w) (hT : ∀ t ∈ T, t.1 < w) (hF : ∀ f ∈ F, f.1 < w) :
    knk (List.range' s (w - s)) (T.filter fun t => decide (t ≠ (s, p))) F = (stT (T.filter fun t => decide (t ≠ (s, p))) F, stF (T.filter fun t => decide (t ≠ (s, p))) F) := by
  have lo := low_ok h s p
  generalize hT1 : (T.filter fun t => decide (t ≠ (s, p))) = T1 at lo ⊢
  have hT' : ∀ t ∈ T1, t.1 < w := fun t ht => hT t (by rw [← hT1] at ht; exact (List.mem_filter.mp ht).1)
  have sub : ∀ t ∈ T, t.1 ≠ s → t ∈ T1 := fun t ht hs => by
    rw [← hT1, List.mem_filter]
    exact ⟨ht, by simp; rintro rfl; exact hs rfl⟩
  have e1 : T1.filter (pTn T1 F s) = T1 := by
    rw [List.filter_eq_self]
    rintro ⟨a, b⟩ ht
    unfold pTn
    by_cases q : s < a
    · simp [q]
    · rw [lo a b (by omega)]; simp [ht]
  have e2 : F.filter (pFn T1 F s) = F := by
    rw [List.filter_eq_self]
    rintro ⟨a, b⟩ hf
    unfold pFn
    by_cases q : s ≤ a
    · simp [q]
    · have g := h.1 a b hf
      unfold aF
      rw [lo a b (by omega), lo a (b + 1) (by omega)]
      simp [hf, sub _ g.1 (by simp; omega), sub _ g.2 (by simp; omega)]
  have := knk_st T1 F (w - s) s
  rw [e1, e2, show s + (w - s) = w by omega] at this
  rw [this]
  unfold stT stF
  refine Prod.ext ?_ ?_
  · refine List.filter_congr fun t ht => ?_
    have := hT' t ht
    unfold pTn
    simp [show ¬ w < t.1 by omega]
  · refine List.filter_congr fun t ht => ?_
    have := hF t ht
    unfold pFn
    simp [show ¬ w ≤ t.1 by omega]
/-! ### the law's own way: all storeys again and again -/
def lF (T F : List Sp2) : List Sp2 := F.filter fun f => decide (f ∈ T) && decide ((f.1, f.2 + 1) ∈ T)
def lT (T F : List Sp2) : List Sp2 := T.filter fun t => decide (t.1 = 0) || decide ((t.1 - 1, t.2) ∈ F)
def lfall : Nat → List Sp2 → List Sp2 → List Sp2 × List Sp2
  | 0, T, F => (T, F)
  | n + 1, T, F => lfall n (lT T (lF T F)) (lF T F)
/-- right up to n; above, nothing that stands is lost -/
def Up (T F : List Sp2) (n : Nat) (p q : Sp2 → Bool) : Prop := (∀ a b, aT T F a b = true → p (a, b) = true) ∧ (∀ a b, aF T F a b = true → q (a, b) = true) ∧ (∀ a b, a ≤ n → (a, b) ∈ T → p (a, b) = true → aT T F a b = true) ∧ ∀ a b, a < n → (a, b) ∈ F → q (a, b) = true → aF T F a b = true
theorem up_step {T F : List Sp2} {n : Nat} {p q : Sp2 → Bool} (u : Up T F n p q) : ∃ p' q', Up T F (n + 1) p' q' ∧ lF (T.filter p) (F.filter q) = F.filter q' ∧ lT (T.filter p) (F.filter q') = T.filter p' := by
  obtain ⟨u1, u2, u3, u4⟩ := u
  refine ⟨fun t => p t && (decide (t.1 = 0) || decide ((t.1 - 1, t.2) ∈ F.filter fun f => q f && (decide (f ∈ T.filter p) && decide ((f.1, f.2 + 1) ∈ T.filter p)))), fun f => q f && (decide (f ∈ T.filter p) && decide ((f.1, f.2 + 1) ∈ T.filter p)), ?_, ?_, ?_⟩
  · have hTp : ∀ a b, aT T F a b = true → (a, b) ∈ T.filter p := fun a b h => List.mem_filter.mpr ⟨aT_mem h, u1 a b h⟩
    have hq : ∀ a b, aF T F a b = true → (q (a, b) && (decide ((a, b) ∈ T.filter p) && decide ((a, b + 1) ∈ T.filter p))) = true := fun a b h => by
      have h' := h
      unfold aF at h'
      simp only [Bool.and_eq_true] at h'
      simp only [Bool.and_eq_true, decide_eq_true_eq]
      exact ⟨u2 a b h, hTp a b h'.2.1, hTp a (b + 1) h'.2.2⟩
    have hq2 : ∀ a b, a ≤ n → (a, b) ∈ F → (q (a, b) && (decide ((a, b) ∈ T.filter p) && decide ((a, b + 1) ∈ T.filter p))) = true → aF T F a b = true := fun a b ha hf h => by
      simp only [Bool.and_eq_true, decide_eq_true_eq, List.mem_filter] at h
      unfold aF
      simp only [Bool.and_eq_true, decide_eq_true_eq]
      exact ⟨hf, u3 a b ha h.2.1.1 h.2.1.2, u3 a (b + 1) ha h.2.2.1 h.2.2.2⟩
    refine ⟨fun a b h => ?_, hq, fun a b ha ht h => ?_, fun a b ha hf h => hq2 a b (by omega) hf h⟩
    · rw [Bool.and_eq_true]
      refine ⟨u1 a b h, ?_⟩
      cases a with
      | zero => simp
      | succ a =>
        rw [aT_succ, Bool.and_eq_true] at h
        rw [Bool.or_eq_true, decide_eq_true_eq, decide_eq_true_eq]
        exact .inr (List.mem_filter.mpr ⟨aF_mem h.2, hq a b h.2⟩)
    · rw [Bool.and_eq_true] at h
      cases a with
      | zero => exact u3 0 b (by omega) ht h.1
      | succ a =>
        rw [aT_succ, Bool.and_eq_true]
        have h2 := h.2
        rw [Bool.or_eq_true, decide_eq_true_eq, decide_eq_true_eq] at h2
        rcases h2 with h2 | h2
        · exact absurd h2 (by simp)
        · have := List.mem_filter.mp h2
          exact ⟨by simpa using ht, hq2 a b (by omega) this.1 this.2⟩
  · unfold lF
    rw [filter_flt]
  · unfold lT
    rw [filter_flt]
theorem lfall_up {T F : List Sp2} : ∀ (m n : Nat) (p q : Sp2 → Bool), Up T F n p q → ∃ p' q', Up T F (n + m) p' q' ∧ lfall m (T.filter p) (F.filter q) = (T.filter p', F.filter q')
  | 0, n, p, q, u => ⟨p, q, u, rfl⟩
  | m + 1, n, p, q, u => by
    obtain ⟨p', q', u', e1, e2⟩ := up_step u
    obtain ⟨p2, q2, u2, e3⟩ := lfall_up m (n + 1) p' q' u'
    refine ⟨p2, q2, by rw [show n + (m + 1) = n + 1 + m by omega]; exact u2, ?_⟩
    unfold lfall
    rw [e1, e2, e3]
theorem lfall_st {T F : List Sp2} (m : Nat) (hT : ∀ t ∈ T, t.1 < m) (hF : ∀ f ∈ F, f.1 < m) : lfall m T F = (stT T F, stF T F) := by
  have u0 : Up T F 0 (fun _ => true) (fun _ => true) := ⟨fun _ _ _ => rfl, fun _ _ _ => rfl, fun a b ha ht _ => by
    obtain rfl : a = 0 := by omega
    simpa [aT] using ht, fun a b ha => absurd ha (by omega)⟩
  obtain ⟨p, q, ⟨u1, u2, u3, u4⟩, e⟩ := lfall_up m 0 _ _ u0
  rw [List.filter_eq_self.mpr (fun _ _ => rfl), List.filter_eq_self.mpr (fun _ _ => rfl)] at e
  rw [e]
  rw [Nat.zero_add] at u3 u4
  unfold stT stF
  refine Prod.ext (List.filter_congr fun t ht => ?_) (List.filter_congr fun t ht => ?_)
  · rw [Bool.eq_iff_iff]
    exact ⟨fun h => u3 t.1 t.2 (Nat.le_of_lt (hT t ht)) ht h, fun h => u1 t.1 t.2 h⟩
  · rw [Bool.eq_iff_iff]
    exact ⟨fun h => u4 t.1 t.2 (hF t ht) ht h, fun h => u2 t.1 t.2 h⟩
end CardH
end
section
set_option maxHeartbeats 4000000
namespace CardH
open PySem PySem.Spec PyProof.Rows L2
theorem pr0z (G : Gst) (s : Sp2) : vIx G (pr s) (.int (0 : Nat)) = some (.int s.1) := rfl
theorem pr_z (b : Nat) : Vl.tup [.int 0, .int (b : Int)] = pr (0, b) := rfl
theorem pr_p (a b : Nat) : Vl.tup [.int (a : Int), .int ((b : Int) + 1)] = pr (a, b + 1) := by
  show _ = Vl.tup [.int (a : Int), .int ((b + 1 : Nat) : Int)]
  rfl
theorem pr_m (a b : Nat) (h : 0 < a) : Vl.tup [.int ((a : Int) - 1), .int (b : Int)] = pr (a - 1, b) := by
  show _ = Vl.tup [.int ((a - 1 : Nat) : Int), .int (b : Int)]
  rw [show ((a - 1 : Nat) : Int) = (a : Int) - 1 by omega]
theorem c1_falls (G : Gst) (T F : List Sp2) (z2 : Option Fv) (hF : F.length ≤ 1000) : C1__law_falls [some (.val (.lst (T.map pr))), some (.val (.lst (F.map pr))), z2, none] G = .ok (.lst ((lF T F).map pr)) G := by
  unfold C1__law_falls
  rw [dLc_tm F pr (fun f => decide (f ∈ T) && decide ((f.1, f.2 + 1) ∈ T)) pr (G1 := G)]
  · rfl
  · simp [dSeq_ev, seqR_nx, seqR_rt, seqR_ct, seqR_bk, seqR_ex, seqR_ite, runF_ev, resR_nx, resR_rt, resR_ex, resR_ite, startE, wp_nxK, wp_rtK, wp_ctK, wp_bkK, wp_exK, wp_nxP, wp_rtP, wp_ite, R.bind_ok, R.bind_exn, sb_ok, sb_exn, opt_some, opt_ite, bind_ite, sb_ite, dC, dVar, dPk, Fv.toVl, dBin, dUn, dTest, vTru, dTB_ev, tbK_bl, dAnd, dOr, dNot, dBV, dIf, dChain_ev, chK_bl, daNil, daCons, dTup, dLst, dIx, doNone, doSome, dSl, dFn, diVal, diRng, dCall, dRet, dRetN, dExpr, dIfS_ev, dAsg, gSet, gUn, gsNil, gsCons, itemsOf, dNext, dBreak, dCont, dRaise, dxC, dxE, dTold_ev, toldR_ok, toldR_exn, toldR_ite, dMeth, dFld, List.lookup, dSetF, putN, dPar, dPar3, vNeg, vSub_int, vAdd_int, vEq_int, vNe_int, vLt_int, vGt_int, vLe_int, vGe_int, vIx_lst, vIx_tup, atI_int, vSl_tup, vSl_lst, cutL_toI, cutL_fromI, cutL_midI, cutL_all, oLen, seqOf, oInt, oAbs, oMax2, oMin2, oTuple, oList, vIsN_non, vIsN_str, vIsN_int, vIsN_tup, vIsN_lst, dBm, tStr, tTup, tLst, dCat, lstOf, dListO, dLstO, dBmW, dTupRev, walkOf, dAndV_ev, andK_bl, dOrV_ev, orK_bl, Int.ofNat_inj]
  · rintro ⟨a, b⟩ _
    refine ⟨_, rfl, ?_, fun _ => by simp [dSeq_ev, seqR_nx, seqR_rt, seqR_ct, seqR_bk, seqR_ex, seqR_ite, runF_ev, resR_nx, resR_rt, resR_ex, resR_ite, startE, wp_nxK, wp_rtK, wp_ctK, wp_bkK, wp_exK, wp_nxP, wp_rtP, wp_ite, R.bind_ok, R.bind_exn, sb_ok, sb_exn, opt_some, opt_ite, bind_ite, sb_ite, dC, dVar, dPk, Fv.toVl, dBin, dUn, dTest, vTru, dTB_ev, tbK_bl, dAnd, dOr, dNot, dBV, dIf, dChain_ev, chK_bl, daNil, daCons, dTup, dLst, dIx, doNone, doSome, dSl, dFn, diVal, diRng, dCall, dRet, dRetN, dExpr, dIfS_ev, dAsg, gSet, gUn, gsNil, gsCons, itemsOf, dNext, dBreak, dCont, dRaise, dxC, dxE, dTold_ev, toldR_ok, toldR_exn, toldR_ite, dMeth, dFld, List.lookup, dSetF, putN, dPar, dPar3, vNeg, vSub_int, vAdd_int, vEq_int, vNe_int, vLt_int, vGt_int, vLe_int, vGe_int, vIx_lst, vIx_tup, atI_int, vSl_tup, vSl_lst, cutL_toI, cutL_fromI, cutL_midI, cutL_all, oLen, seqOf, oInt, oAbs, oMax2, oMin2, oTuple, oList, vIsN_non, vIsN_str, vIsN_int, vIsN_tup, vIsN_lst, dBm, tStr, tTup, tLst, dCat, lstOf, dListO, dLstO, dBmW, dTupRev, walkOf, dAndV_ev, andK_bl, dOrV_ev, orK_bl, Int.ofNat_inj, wipeE]⟩
    by_cases h : (a, b) ∈ T
    · simp [dSeq_ev, seqR_nx, seqR_rt, seqR_ct, seqR_bk, seqR_ex, seqR_ite, runF_ev, resR_nx, resR_rt, resR_ex, resR_ite, startE, wp_nxK, wp_rtK, wp_ctK, wp_bkK, wp_exK, wp_nxP, wp_rtP, wp_ite, R.bind_ok, R.bind_exn, sb_ok, sb_exn, opt_some, opt_ite, bind_ite, sb_ite, dC, dVar, dPk, Fv.toVl, dBin, dUn, dTest, vTru, dTB_ev, tbK_bl, dAnd, dOr, dNot, dBV, dIf, dChain_ev, chK_bl, daNil, daCons, dTup, dLst, dIx, doNone, doSome, dSl, dFn, diVal, diRng, dCall, dRet, dRetN, dExpr, dIfS_ev, dAsg, gSet, gUn, gsNil, gsCons, itemsOf, dNext, dBreak, dCont, dRaise, dxC, dxE, dTold_ev, toldR_ok, toldR_exn, toldR_ite, dMeth, dFld, List.lookup, dSetF, putN, dPar, dPar3, vNeg, vSub_int, vAdd_int, vEq_int, vNe_int, vLt_int, vGt_int, vLe_int, vGe_int, vIx_lst, vIx_tup, atI_int, vSl_tup, vSl_lst, cutL_toI, cutL_fromI, cutL_midI, cutL_all, oLen, seqOf, oInt, oAbs, oMax2, oMin2, oTuple, oList, vIsN_non, vIsN_str, vIsN_int, vIsN_tup, vIsN_lst, dBm, tStr, tTup, tLst, dCat, lstOf, dListO, dLstO, dBmW, dTupRev, walkOf, dAndV_ev, andK_bl, dOrV_ev, orK_bl, Int.ofNat_inj, wipeE, pr_0, pr_1, pr_p, in_prsL, h]
    · simp [dSeq_ev, seqR_nx, seqR_rt, seqR_ct, seqR_bk, seqR_ex, seqR_ite, runF_ev, resR_nx, resR_rt, resR_ex, resR_ite, startE, wp_nxK, wp_rtK, wp_ctK, wp_bkK, wp_exK, wp_nxP, wp_rtP, wp_ite, R.bind_ok, R.bind_exn, sb_ok, sb_exn, opt_some, opt_ite, bind_ite, sb_ite, dC, dVar, dPk, Fv.toVl, dBin, dUn, dTest, vTru, dTB_ev, tbK_bl, dAnd, dOr, dNot, dBV, dIf, dChain_ev, chK_bl, daNil, daCons, dTup, dLst, dIx, doNone, doSome, dSl, dFn, diVal, diRng, dCall, dRet, dRetN, dExpr, dIfS_ev, dAsg, gSet, gUn, gsNil, gsCons, itemsOf, dNext, dBreak, dCont, dRaise, dxC, dxE, dTold_ev, toldR_ok, toldR_exn, toldR_ite, dMeth, dFld, List.lookup, dSetF, putN, dPar, dPar3, vNeg, vSub_int, vAdd_int, vEq_int, vNe_int, vLt_int, vGt_int, vLe_int, vGe_int, vIx_lst, vIx_tup, atI_int, vSl_tup, vSl_lst, cutL_toI, cutL_fromI, cutL_midI, cutL_all, oLen, seqOf, oInt, oAbs, oMax2, oMin2, oTuple, oList, vIsN_non, vIsN_str, vIsN_int, vIsN_tup, vIsN_lst, dBm, tStr, tTup, tLst, dCat, lstOf, dListO, dLstO, dBmW, dTupRev, walkOf, dAndV_ev, andK_bl, dOrV_ev, orK_bl, Int.ofNat_inj, wipeE, pr_0, pr_1, pr_p, in_prsL, h]
  · omega
theorem c2_falls (G : Gst) (T F : List Sp2) (z2 : Option Fv) (hT : T.length ≤ 1000) : C2__law_falls [some (.val (.lst (T.map pr))), some (.val (.lst (F.map pr))), z2, none] G = .ok (.lst ((lT T F).map pr)) G := by
  unfold C2__law_falls
  rw [dLc_tm T pr (fun t => decide (t.1 = 0) || decide ((t.1 - 1, t.2) ∈ F)) pr (G1 := G)]
  · rfl
  · simp [dSeq_ev, seqR_nx, seqR_rt, seqR_ct, seqR_bk, seqR_ex, seqR_ite, runF_ev, resR_nx, resR_rt, resR_ex, resR_ite, startE, wp_nxK, wp_rtK, wp_ctK, wp_bkK, wp_exK, wp_nxP, wp_rtP, wp_ite, R.bind_ok, R.bind_exn, sb_ok, sb_exn, opt_some, opt_ite, bind_ite, sb_ite, dC, dVar, dPk, Fv.toVl, dBin, dUn, dTest, vTru, dTB_ev, tbK_bl, dAnd, dOr, dNot, dBV, dIf, dChain_ev, chK_bl, daNil, daCons, dTup, dLst, dIx, doNone, doSome, dSl, dFn, diVal, diRng, dCall, dRet, dRetN, dExpr, dIfS_ev, dAsg, gSet, gUn, gsNil, gsCons, itemsOf, dNext, dBreak, dCont, dRaise, dxC, dxE, dTold_ev, toldR_ok, toldR_exn, toldR_ite, dMeth, dFld, List.lookup, dSetF, putN, dPar, dPar3, vNeg, vSub_int, vAdd_int, vEq_int, vNe_int, vLt_int, vGt_int, vLe_int, vGe_int, vIx_lst, vIx_tup, atI_int, vSl_tup, vSl_lst, cutL_toI, cutL_fromI, cutL_midI, cutL_all, oLen, seqOf, oInt, oAbs, oMax2, oMin2, oTuple, oList, vIsN_non, vIsN_str, vIsN_int, vIsN_tup, vIsN_lst, dBm, tStr, tTup, tLst, dCat, lstOf, dListO, dLstO, dBmW, dTupRev, walkOf, dAndV_ev, andK_bl, dOrV_ev, orK_bl, Int.ofNat_inj]
  · rintro ⟨a, b⟩ _
    refine ⟨_, rfl, ?_, fun _ => by simp [dSeq_ev, seqR_nx, seqR_rt, seqR_ct, seqR_bk, seqR_ex, seqR_ite, runF_ev, resR_nx, resR_rt, resR_ex, resR_ite, startE, wp_nxK, wp_rtK, wp_ctK, wp_bkK, wp_exK, wp_nxP, wp_rtP, wp_ite, R.bind_ok, R.bind_exn, sb_ok, sb_exn, opt_some, opt_ite, bind_ite, sb_ite, dC, dVar, dPk, Fv.toVl, dBin, dUn, dTest, vTru, dTB_ev, tbK_bl, dAnd, dOr, dNot, dBV, dIf, dChain_ev, chK_bl, daNil, daCons, dTup, dLst, dIx, doNone, doSome, dSl, dFn, diVal, diRng, dCall, dRet, dRetN, dExpr, dIfS_ev, dAsg, gSet, gUn, gsNil, gsCons, itemsOf, dNext, dBreak, dCont, dRaise, dxC, dxE, dTold_ev, toldR_ok, toldR_exn, toldR_ite, dMeth, dFld, List.lookup, dSetF, putN, dPar, dPar3, vNeg, vSub_int, vAdd_int, vEq_int, vNe_int, vLt_int, vGt_int, vLe_int, vGe_int, vIx_lst, vIx_tup, atI_int, vSl_tup, vSl_lst, cutL_toI, cutL_fromI, cutL_midI, cutL_all, oLen, seqOf, oInt, oAbs, oMax2, oMin2, oTuple, oList, vIsN_non, vIsN_str, vIsN_int, vIsN_tup, vIsN_lst, dBm, tStr, tTup, tLst, dCat, lstOf, dListO, dLstO, dBmW, dTupRev, walkOf, dAndV_ev, andK_bl, dOrV_ev, orK_bl, Int.ofNat_inj, wipeE]⟩
    by_cases h : a = 0
    · subst h
      simp [dSeq_ev, seqR_nx, seqR_rt, seqR_ct, seqR_bk, seqR_ex, seqR_ite, runF_ev, resR_nx, resR_rt, resR_ex, resR_ite, startE, wp_nxK, wp_rtK, wp_ctK, wp_bkK, wp_exK, wp_nxP, wp_rtP, wp_ite, R.bind_ok, R.bind_exn, sb_ok, sb_exn, opt_some, opt_ite, bind_ite, sb_ite, dC, dVar, dPk, Fv.toVl, dBin, dUn, dTest, vTru, dTB_ev, tbK_bl, dAnd, dOr, dNot, dBV, dIf, dChain_ev, chK_bl, daNil, daCons, dTup, dLst, dIx, doNone, doSome, dSl, dFn, diVal, diRng, dCall, dRet, dRetN, dExpr, dIfS_ev, dAsg, gSet, gUn, gsNil, gsCons, itemsOf, dNext, dBreak, dCont, dRaise, dxC, dxE, dTold_ev, toldR_ok, toldR_exn, toldR_ite, dMeth, dFld, List.lookup, dSetF, putN, dPar, dPar3, vNeg, vSub_int, vAdd_int, vEq_int, vNe_int, vLt_int, vGt_int, vLe_int, vGe_int, vIx_lst, vIx_tup, atI_int, vSl_tup, vSl_lst, cutL_toI, cutL_fromI, cutL_midI, cutL_all, oLen, seqOf, oInt, oAbs, oMax2, oMin2, oTuple, oList, vIsN_non, vIsN_str, vIsN_int, vIsN_tup, vIsN_lst, dBm, tStr, tTup, tLst, dCat, lstOf, dListO, dLstO, dBmW, dTupRev, walkOf, dAndV_ev, andK_bl, dOrV_ev, orK_bl, Int.ofNat_inj, wipeE, pr_0, pr_1]
    · have h' : ¬ (a : Int) = 0 := by omega
      simp [dSeq_ev, seqR_nx, seqR_rt, seqR_ct, seqR_bk, seqR_ex, seqR_ite, runF_ev, resR_nx, resR_rt, resR_ex, resR_ite, startE, wp_nxK, wp_rtK, wp_ctK, wp_bkK, wp_exK, wp_nxP, wp_rtP, wp_ite, R.bind_ok, R.bind_exn, sb_ok, sb_exn, opt_some, opt_ite, bind_ite, sb_ite, dC, dVar, dPk, Fv.toVl, dBin, dUn, dTest, vTru, dTB_ev, tbK_bl, dAnd, dOr, dNot, dBV, dIf, dChain_ev, chK_bl, daNil, daCons, dTup, dLst, dIx, doNone, doSome, dSl, dFn, diVal, diRng, dCall, dRet, dRetN, dExpr, dIfS_ev, dAsg, gSet, gUn, gsNil, gsCons, itemsOf, dNext, dBreak, dCont, dRaise, dxC, dxE, dTold_ev, toldR_ok, toldR_exn, toldR_ite, dMeth, dFld, List.lookup, dSetF, putN, dPar, dPar3, vNeg, vSub_int, vAdd_int, vEq_int, vNe_int, vLt_int, vGt_int, vLe_int, vGe_int, vIx_lst, vIx_tup, atI_int, vSl_tup, vSl_lst, cutL_toI, cutL_fromI, cutL_midI, cutL_all, oLen, seqOf, oInt, oAbs, oMax2, oMin2, oTuple, oList, vIsN_non, vIsN_str, vIsN_int, vIsN_tup, vIsN_lst, dBm, tStr, tTup, tLst, dCat, lstOf, dListO, dLstO, dBmW, dTupRev, walkOf, dAndV_ev, andK_bl, dOrV_ev, orK_bl, Int.ofNat_inj, wipeE, pr_0, pr_1, pr_m _ _ (Nat.pos_of_ne_zero h), in_prsL, h, h']
  · omega
theorem lfall_fold : ∀ (ls : List Nat) (T F : List Sp2), ls.foldl (fun (s : List Sp2 × List Sp2) _ => (lT s.1 (lF s.1 s.2), lF s.1 s.2)) (T, F) = lfall ls.length T F
  | [], T, F => rfl
  | l :: ls, T, F => by rw [List.foldl_cons]; exact lfall_fold ls _ _
theorem law_falls (G : Gst) (T F : List Sp2) (hT : T.length ≤ 1000) (hF : F.length ≤ 1000) : M__law_falls [.lst (T.map pr), .lst (F.map pr)] G = .ok (.tup [.lst ((lfall 12 T F).1.map pr), .lst ((lfall 12 T F).2.map pr)]) G := by
  obtain ⟨e', h1, h2, z2, h3⟩ := forL_foldN (g := gSet 2) (db := T2_0__law_falls) (fun l : Nat => Vl.int (0 + (l : Nat))) (fun (s : List Sp2 × List Sp2) _ => (lT s.1 (lF s.1 s.2), lF s.1 s.2)) (fun _ => G) (List.range 12)
    (fun _ s e => (s.1.length ≤ 1000 ∧ s.2.length ≤ 1000) ∧ ∃ z2, e = [some (.val (.lst (s.1.map pr))), some (.val (.lst (s.2.map pr))), z2, none]) (T, F) [some (.val (.lst (T.map pr))), some (.val (.lst (F.map pr))), none, none] ⟨⟨hT, hF⟩, _, rfl⟩ (by
      rintro k l hl ⟨T, F⟩ e ⟨⟨hT, hF⟩, z2, rfl⟩
      have l1 : (lF T F).length ≤ F.length := List.length_filter_le ..
      have l2 : (lT T (lF T F)).length ≤ T.length := List.length_filter_le ..
      refine ⟨_, rfl, [some (.val (.lst ((lT T (lF T F)).map pr))), some (.val (.lst ((lF T F).map pr))), some (.val (.int (0 + (l : Nat)))), none], .inl ?_, ⟨Nat.le_trans l2 hT, Nat.le_trans l1 hF⟩, _, rfl⟩
      have a1 := c1_falls G T F (some (.val (.int (0 + (l : Nat))))) hF
      have a2 := c2_falls G T (lF T F) (some (.val (.int (0 + (l : Nat))))) hT
      unfold T2_0__law_falls T2_1__law_falls
      simp only [Int.zero_add] at a1 a2 ⊢
      simp [dSeq_ev, seqR_nx, seqR_rt, seqR_ct, seqR_bk, seqR_ex, seqR_ite, runF_ev, resR_nx, resR_rt, resR_ex, resR_ite, startE, wp_nxK, wp_rtK, wp_ctK, wp_bkK, wp_exK, wp_nxP, wp_rtP, wp_ite, R.bind_ok, R.bind_exn, sb_ok, sb_exn, opt_some, opt_ite, bind_ite, sb_ite, dC, dVar, dPk, Fv.toVl, dBin, dUn, dTest, vTru, dTB_ev, tbK_bl, dAnd, dOr, dNot, dBV, dIf, dChain_ev, chK_bl, daNil, daCons, dTup, dLst, dIx, doNone, doSome, dSl, dFn, diVal, diRng, dCall, dRet, dRetN, dExpr, dIfS_ev, dAsg, gSet, gUn, gsNil, gsCons, itemsOf, dNext, dBreak, dCont, dRaise, dxC, dxE, dTold_ev, toldR_ok, toldR_exn, toldR_ite, dMeth, dFld, List.lookup, dSetF, putN, dPar, dPar3, vNeg, vSub_int, vAdd_int, vEq_int, vNe_int, vLt_int, vGt_int, vLe_int, vGe_int, vIx_lst, vIx_tup, atI_int, vSl_tup, vSl_lst, cutL_toI, cutL_fromI, cutL_midI, cutL_all, oLen, seqOf, oInt, oAbs, oMax2, oMin2, oTuple, oList, vIsN_non, vIsN_str, vIsN_int, vIsN_tup, vIsN_lst, dBm, tStr, tTup, tLst, dCat, lstOf, dListO, dLstO, dBmW, dTupRev, walkOf, dAndV_ev, andK_bl, dOrV_ev, orK_bl, Int.ofNat_inj, a1, a2])
  rw [lfall_fold, List.length_range] at h3
  have hr := rng1_nat 12 (by decide)
  unfold M__law_falls D__law_falls T1_1__law_falls
  have hr' : rng1 [.int 12] = some ((List.range 12).map fun l : Nat => Vl.int (0 + (l : Nat))) := hr
  generalize lfall 12 T F = k at h3 ⊢
  subst h3
  simp only [Int.zero_add] at h1 hr'
  simp [dSeq_ev, seqR_nx, seqR_rt, seqR_ct, seqR_bk, seqR_ex, seqR_ite, runF_ev, resR_nx, resR_rt, resR_ex, resR_ite, startE, wp_nxK, wp_rtK, wp_ctK, wp_bkK, wp_exK, wp_nxP, wp_rtP, wp_ite, R.bind_ok, R.bind_exn, sb_ok, sb_exn, opt_some, opt_ite, bind_ite, sb_ite, dC, dVar, dPk, Fv.toVl, dBin, dUn, dTest, vTru, dTB_ev, tbK_bl, dAnd, dOr, dNot, dBV, dIf, dChain_ev, chK_bl, daNil, daCons, dTup, dLst, dIx, doNone, doSome, dSl, dFn, diVal, diRng, dCall, dRet, dRetN, dExpr, dIfS_ev, dAsg, gSet, gUn, gsNil, gsCons, itemsOf, dNext, dBreak, dCont, dRaise, dxC, dxE, dTold_ev, toldR_ok, toldR_exn, toldR_ite, dMeth, dFld, List.lookup, dSetF, putN, dPar, dPar3, vNeg, vSub_int, vAdd_int, vEq_int, vNe_int, vLt_int, vGt_int, vLe_int, vGe_int, vIx_lst, vIx_tup, atI_int, vSl_tup, vSl_lst, cutL_toI, cutL_fromI, cutL_midI, cutL_all, oLen, seqOf, oInt, oAbs, oMax2, oMin2, oTuple, oList, vIsN_non, vIsN_str, vIsN_int, vIsN_tup, vIsN_lst, dBm, tStr, tTup, tLst, dCat, lstOf, dListO, dLstO, dBmW, dTupRev, walkOf, dAndV_ev, andK_bl, dOrV_ev, orK_bl, Int.ofNat_inj, dFor, hr', h1]
/-! ### what is free -/
def spots (w : Nat) : List Sp2 := (List.range w).flatMap fun s => (List.range (w - s)).map fun p => (s, p)
def frP (T F : List Sp2) (s : Sp2) : Bool := (decide (s.1 = 0) || decide ((s.1 - 1, s.2) ∈ F)) && !decide (s ∈ T)
theorem foldl_flatMap' {α β σ : Type} (f : α → List β) (g : σ → β → σ) : ∀ (l : List α) (s : σ), (l.flatMap f).foldl g s = l.foldl (fun s a => (f a).foldl g s) s
  | [], s => rfl
  | a :: l, s => by rw [List.flatMap_cons, List.foldl_append, foldl_flatMap' f g l]; rfl
theorem house_free (G : Gst) (i w : Nat) (T F : List Sp2) (h : G[i]? = some (houO w T F)) (hw : w ≤ 4) : M_House_free [.ref i] G = .ok (.tup (((spots w).filter (frP T F)).map pr)) G := by
  have inner : ∀ (s : Nat) (hs : s < w) (acc : List Sp2) (z3 z4 : Option Fv), acc.length ≤ 100 → ∃ z3' z4', forL (gSet 3) (dSeq (dAsg (dOrV (dBin vEq (dVar 2) (dC (.int 0))) (dBin vInV (dTup (daCons (dBin vSub (dVar 2) (dC (.int 1))) (daCons (dVar 3) daNil))) (dFld 2 (dVar 0)))) (gSet 4))
    (dIfS (dAnd (dTest (dVar 4)) (dTB (dBin vNotInV (dTup (daCons (dVar 2) (daCons (dVar 3) daNil))) (dFld 1 (dVar 0)))))
    (dApp 1 (dTup (daCons (dVar 2) (daCons (dVar 3) daNil))))
    dNext)) ((List.range (w - s)).map fun p : Nat => Vl.int (0 + (p : Nat))) [some (.val (.ref i)), some (.ol (acc.map pr)), some (.val (.int s)), z3, z4] G =
      .nx [some (.val (.ref i)), some (.ol ((acc ++ ((List.range (w - s)).map fun p => (s, p)).filter (frP T F)).map pr)), some (.val (.int s)), z3', z4'] G := by
    intro s hs acc z3 z4 ha
    obtain ⟨e', h1, h2, z3', z4', h3⟩ := forL_foldN (g := gSet 3) (db := dSeq (dAsg (dOrV (dBin vEq (dVar 2) (dC (.int 0))) (dBin vInV (dTup (daCons (dBin vSub (dVar 2) (dC (.int 1))) (daCons (dVar 3) daNil))) (dFld 2 (dVar 0)))) (gSet 4))
    (dIfS (dAnd (dTest (dVar 4)) (dTB (dBin vNotInV (dTup (daCons (dVar 2) (daCons (dVar 3) daNil))) (dFld 1 (dVar 0)))))
    (dApp 1 (dTup (daCons (dVar 2) (daCons (dVar 3) daNil))))
    dNext)) (fun p : Nat => Vl.int (0 + (p : Nat))) (fun (k : List Sp2) p => if frP T F (s, p) = true then k ++ [(s, p)] else k) (fun _ => G) (List.range (w - s))
      (fun k a e => a.length ≤ 100 + k ∧ ∃ z3 z4, e = [some (.val (.ref i)), some (.ol (a.map pr)), some (.val (.int s)), z3, z4]) acc _ ⟨by omega, z3, z4, rfl⟩ (by
        rintro k p hp a e ⟨hl, z3, z4, rfl⟩
        have hk : k < w - s := by simpa using (List.getElem?_eq_some_iff.mp hp).1
        refine ⟨_, rfl, [some (.val (.ref i)), some (.ol ((if frP T F (s, p) = true then a ++ [(s, p)] else a).map pr)), some (.val (.int s)), some (.val (.int (0 + (p : Nat)))), some (.val (.bl (decide (s = 0) || decide ((s - 1, p) ∈ F))))], .inl ?_, ?_, _, _, rfl⟩
        · have hl' : a.length < 16777216 := by omega
          unfold frP
          simp only [Int.zero_add]
          by_cases q : s = 0
          · subst q
            by_cases q3 : (0, p) ∈ T
            · simp [dSeq_ev, seqR_nx, seqR_rt, seqR_ct, seqR_bk, seqR_ex, seqR_ite, runF_ev, resR_nx, resR_rt, resR_ex, resR_ite, startE, wp_nxK, wp_rtK, wp_ctK, wp_bkK, wp_exK, wp_nxP, wp_rtP, wp_ite, R.bind_ok, R.bind_exn, sb_ok, sb_exn, opt_some, opt_ite, bind_ite, sb_ite, dC, dVar, dPk, Fv.toVl, dBin, dUn, dTest, vTru, dTB_ev, tbK_bl, dAnd, dOr, dNot, dBV, dIf, dChain_ev, chK_bl, daNil, daCons, dTup, dLst, dIx, doNone, doSome, dSl, dFn, diVal, diRng, dCall, dRet, dRetN, dExpr, dIfS_ev, dAsg, gSet, gUn, gsNil, gsCons, itemsOf, dNext, dBreak, dCont, dRaise, dxC, dxE, dTold_ev, toldR_ok, toldR_exn, toldR_ite, dMeth, dFld, List.lookup, dSetF, putN, dPar, dPar3, vNeg, vSub_int, vAdd_int, vEq_int, vNe_int, vLt_int, vGt_int, vLe_int, vGe_int, vIx_lst, vIx_tup, atI_int, vSl_tup, vSl_lst, cutL_toI, cutL_fromI, cutL_midI, cutL_all, oLen, seqOf, oInt, oAbs, oMax2, oMin2, oTuple, oList, vIsN_non, vIsN_str, vIsN_int, vIsN_tup, vIsN_lst, dBm, tStr, tTup, tLst, dCat, lstOf, dListO, dLstO, dBmW, dTupRev, walkOf, dAndV_ev, andK_bl, dOrV_ev, orK_bl, Int.ofNat_inj, pr_z, notin_prsT, h, q3]
            · simp [dSeq_ev, seqR_nx, seqR_rt, seqR_ct, seqR_bk, seqR_ex, seqR_ite, runF_ev, resR_nx, resR_rt, resR_ex, resR_ite, startE, wp_nxK, wp_rtK, wp_ctK, wp_bkK, wp_exK, wp_nxP, wp_rtP, wp_ite, R.bind_ok, R.bind_exn, sb_ok, sb_exn, opt_some, opt_ite, bind_ite, sb_ite, dC, dVar, dPk, Fv.toVl, dBin, dUn, dTest, vTru, dTB_ev, tbK_bl, dAnd, dOr, dNot, dBV, dIf, dChain_ev, chK_bl, daNil, daCons, dTup, dLst, dIx, doNone, doSome, dSl, dFn, diVal, diRng, dCall, dRet, dRetN, dExpr, dIfS_ev, dAsg, gSet, gUn, gsNil, gsCons, itemsOf, dNext, dBreak, dCont, dRaise, dxC, dxE, dTold_ev, toldR_ok, toldR_exn, toldR_ite, dMeth, dFld, List.lookup, dSetF, putN, dPar, dPar3, vNeg, vSub_int, vAdd_int, vEq_int, vNe_int, vLt_int, vGt_int, vLe_int, vGe_int, vIx_lst, vIx_tup, atI_int, vSl_tup, vSl_lst, cutL_toI, cutL_fromI, cutL_midI, cutL_all, oLen, seqOf, oInt, oAbs, oMax2, oMin2, oTuple, oList, vIsN_non, vIsN_str, vIsN_int, vIsN_tup, vIsN_lst, dBm, tStr, tTup, tLst, dCat, lstOf, dListO, dLstO, dBmW, dTupRev, walkOf, dAndV_ev, andK_bl, dOrV_ev, orK_bl, Int.ofNat_inj, pr_z, notin_prsT, h, q3, dApp, hl']
          · have q' : ¬ (s : Int) = 0 := by omega
            by_cases q2 : (s - 1, p) ∈ F
            · by_cases q3 : (s, p) ∈ T
              · simp [dSeq_ev, seqR_nx, seqR_rt, seqR_ct, seqR_bk, seqR_ex, seqR_ite, runF_ev, resR_nx, resR_rt, resR_ex, resR_ite, startE, wp_nxK, wp_rtK, wp_ctK, wp_bkK, wp_exK, wp_nxP, wp_rtP, wp_ite, R.bind_ok, R.bind_exn, sb_ok, sb_exn, opt_some, opt_ite, bind_ite, sb_ite, dC, dVar, dPk, Fv.toVl, dBin, dUn, dTest, vTru, dTB_ev, tbK_bl, dAnd, dOr, dNot, dBV, dIf, dChain_ev, chK_bl, daNil, daCons, dTup, dLst, dIx, doNone, doSome, dSl, dFn, diVal, diRng, dCall, dRet, dRetN, dExpr, dIfS_ev, dAsg, gSet, gUn, gsNil, gsCons, itemsOf, dNext, dBreak, dCont, dRaise, dxC, dxE, dTold_ev, toldR_ok, toldR_exn, toldR_ite, dMeth, dFld, List.lookup, dSetF, putN, dPar, dPar3, vNeg, vSub_int, vAdd_int, vEq_int, vNe_int, vLt_int, vGt_int, vLe_int, vGe_int, vIx_lst, vIx_tup, atI_int, vSl_tup, vSl_lst, cutL_toI, cutL_fromI, cutL_midI, cutL_all, oLen, seqOf, oInt, oAbs, oMax2, oMin2, oTuple, oList, vIsN_non, vIsN_str, vIsN_int, vIsN_tup, vIsN_lst, dBm, tStr, tTup, tLst, dCat, lstOf, dListO, dLstO, dBmW, dTupRev, walkOf, dAndV_ev, andK_bl, dOrV_ev, orK_bl, Int.ofNat_inj, pr_eq, pr_m _ _ (Nat.pos_of_ne_zero q), in_prsT, notin_prsT, h, q, q', q2, q3]
              · simp [dSeq_ev, seqR_nx, seqR_rt, seqR_ct, seqR_bk, seqR_ex, seqR_ite, runF_ev, resR_nx, resR_rt, resR_ex, resR_ite, startE, wp_nxK, wp_rtK, wp_ctK, wp_bkK, wp_exK, wp_nxP, wp_rtP, wp_ite, R.bind_ok, R.bind_exn, sb_ok, sb_exn, opt_some, opt_ite, bind_ite, sb_ite, dC, dVar, dPk, Fv.toVl, dBin, dUn, dTest, vTru, dTB_ev, tbK_bl, dAnd, dOr, dNot, dBV, dIf, dChain_ev, chK_bl, daNil, daCons, dTup, dLst, dIx, doNone, doSome, dSl, dFn, diVal, diRng, dCall, dRet, dRetN, dExpr, dIfS_ev, dAsg, gSet, gUn, gsNil, gsCons, itemsOf, dNext, dBreak, dCont, dRaise, dxC, dxE, dTold_ev, toldR_ok, toldR_exn, toldR_ite, dMeth, dFld, List.lookup, dSetF, putN, dPar, dPar3, vNeg, vSub_int, vAdd_int, vEq_int, vNe_int, vLt_int, vGt_int, vLe_int, vGe_int, vIx_lst, vIx_tup, atI_int, vSl_tup, vSl_lst, cutL_toI, cutL_fromI, cutL_midI, cutL_all, oLen, seqOf, oInt, oAbs, oMax2, oMin2, oTuple, oList, vIsN_non, vIsN_str, vIsN_int, vIsN_tup, vIsN_lst, dBm, tStr, tTup, tLst, dCat, lstOf, dListO, dLstO, dBmW, dTupRev, walkOf, dAndV_ev, andK_bl, dOrV_ev, orK_bl, Int.ofNat_inj, pr_eq, pr_m _ _ (Nat.pos_of_ne_zero q), in_prsT, notin_prsT, h, q, q', q2, q3, dApp, hl']
            · simp [dSeq_ev, seqR_nx, seqR_rt, seqR_ct, seqR_bk, seqR_ex, seqR_ite, runF_ev, resR_nx, resR_rt, resR_ex, resR_ite, startE, wp_nxK, wp_rtK, wp_ctK, wp_bkK, wp_exK, wp_nxP, wp_rtP, wp_ite, R.bind_ok, R.bind_exn, sb_ok, sb_exn, opt_some, opt_ite, bind_ite, sb_ite, dC, dVar, dPk, Fv.toVl, dBin, dUn, dTest, vTru, dTB_ev, tbK_bl, dAnd, dOr, dNot, dBV, dIf, dChain_ev, chK_bl, daNil, daCons, dTup, dLst, dIx, doNone, doSome, dSl, dFn, diVal, diRng, dCall, dRet, dRetN, dExpr, dIfS_ev, dAsg, gSet, gUn, gsNil, gsCons, itemsOf, dNext, dBreak, dCont, dRaise, dxC, dxE, dTold_ev, toldR_ok, toldR_exn, toldR_ite, dMeth, dFld, List.lookup, dSetF, putN, dPar, dPar3, vNeg, vSub_int, vAdd_int, vEq_int, vNe_int, vLt_int, vGt_int, vLe_int, vGe_int, vIx_lst, vIx_tup, atI_int, vSl_tup, vSl_lst, cutL_toI, cutL_fromI, cutL_midI, cutL_all, oLen, seqOf, oInt, oAbs, oMax2, oMin2, oTuple, oList, vIsN_non, vIsN_str, vIsN_int, vIsN_tup, vIsN_lst, dBm, tStr, tTup, tLst, dCat, lstOf, dListO, dLstO, dBmW, dTupRev, walkOf, dAndV_ev, andK_bl, dOrV_ev, orK_bl, Int.ofNat_inj, pr_eq, pr_m _ _ (Nat.pos_of_ne_zero q), in_prsT, notin_prsT, h, q, q', q2]
        · by_cases q : frP T F (s, p) = true <;> simp [q] <;> omega)
    have ef : ∀ (l : List Nat) (acc : List Sp2), l.foldl (fun (k : List Sp2) p => if frP T F (s, p) = true then k ++ [(s, p)] else k) acc = acc ++ (l.map fun p => (s, p)).filter (frP T F) := by
      intro l acc
      rw [← foldl_filter, List.foldl_map]
    rw [ef] at h3
    exact ⟨z3', z4', by rw [h1, h3]⟩
  obtain ⟨e', h1, h2, z2', z3', z4', h3⟩ := forL_foldN (g := gSet 2) (db := dFor (diRng rng1 (daCons (dBin vSub (dFld 0 (dVar 0)) (dVar 2)) daNil)) (gSet 3)
    (dSeq (dAsg (dOrV (dBin vEq (dVar 2) (dC (.int 0))) (dBin vInV (dTup (daCons (dBin vSub (dVar 2) (dC (.int 1))) (daCons (dVar 3) daNil))) (dFld 2 (dVar 0)))) (gSet 4))
    (dIfS (dAnd (dTest (dVar 4)) (dTB (dBin vNotInV (dTup (daCons (dVar 2) (daCons (dVar 3) daNil))) (dFld 1 (dVar 0)))))
    (dApp 1 (dTup (daCons (dVar 2) (daCons (dVar 3) daNil))))
    dNext))) (fun s : Nat => Vl.int (0 + (s : Nat))) (fun (k : List Sp2) s => k ++ ((List.range (w - s)).map fun p => (s, p)).filter (frP T F)) (fun _ => G) (List.range w)
      (fun k a e => a.length ≤ 4 * k ∧ ∃ z2 z3 z4, e = [some (.val (.ref i)), some (.ol (a.map pr)), z2, z3, z4]) [] [some (.val (.ref i)), some (.ol []), none, none, none] ⟨by simp, _, _, _, rfl⟩ (by
      rintro k s hs a e ⟨hl, z2, z3, z4, rfl⟩
      obtain ⟨hk, hks⟩ := List.getElem?_eq_some_iff.mp hs
      have hk : k < w := by simpa using hk
      have hsk : s = k := by simp at hks; exact hks.symm
      obtain ⟨z3', z4', hi⟩ := inner s (by omega) a z3 z4 (by omega)
      refine ⟨_, rfl, [some (.val (.ref i)), some (.ol ((a ++ ((List.range (w - s)).map fun p => (s, p)).filter (frP T F)).map pr)), some (.val (.int s)), z3', z4'], .inl ?_, ?_, _, _, _, rfl⟩
      rotate_left
      · have : (((List.range (w - s)).map fun p => (s, p)).filter (frP T F)).length ≤ w - s := by
          refine Nat.le_trans (List.length_filter_le ..) ?_
          simp
        simp only [List.length_append]
        omega
      · have hr := rng1_nat (w - s) (by omega)
        rw [show ((w - s : Nat) : Int) = (w : Int) - s by omega] at hr
        unfold rgL at hr
        simp only [Int.zero_add] at hi hr ⊢
        simp [dSeq_ev, seqR_nx, seqR_rt, seqR_ct, seqR_bk, seqR_ex, seqR_ite, runF_ev, resR_nx, resR_rt, resR_ex, resR_ite, startE, wp_nxK, wp_rtK, wp_ctK, wp_bkK, wp_exK, wp_nxP, wp_rtP, wp_ite, R.bind_ok, R.bind_exn, sb_ok, sb_exn, opt_some, opt_ite, bind_ite, sb_ite, dC, dVar, dPk, Fv.toVl, dBin, dUn, dTest, vTru, dTB_ev, tbK_bl, dAnd, dOr, dNot, dBV, dIf, dChain_ev, chK_bl, daNil, daCons, dTup, dLst, dIx, doNone, doSome, dSl, dFn, diVal, diRng, dCall, dRet, dRetN, dExpr, dIfS_ev, dAsg, gSet, gUn, gsNil, gsCons, itemsOf, dNext, dBreak, dCont, dRaise, dxC, dxE, dTold_ev, toldR_ok, toldR_exn, toldR_ite, dMeth, dFld, List.lookup, dSetF, putN, dPar, dPar3, vNeg, vSub_int, vAdd_int, vEq_int, vNe_int, vLt_int, vGt_int, vLe_int, vGe_int, vIx_lst, vIx_tup, atI_int, vSl_tup, vSl_lst, cutL_toI, cutL_fromI, cutL_midI, cutL_all, oLen, seqOf, oInt, oAbs, oMax2, oMin2, oTuple, oList, vIsN_non, vIsN_str, vIsN_int, vIsN_tup, vIsN_lst, dBm, tStr, tTup, tLst, dCat, lstOf, dListO, dLstO, dBmW, dTupRev, walkOf, dAndV_ev, andK_bl, dOrV_ev, orK_bl, Int.ofNat_inj, dFor, h, hr, hi])
  have ef : ∀ (l : List Nat) (acc : List Sp2), l.foldl (fun (k : List Sp2) s => k ++ ((List.range (w - s)).map fun p => (s, p)).filter (frP T F)) acc = acc ++ (l.flatMap fun s => (List.range (w - s)).map fun p => (s, p)).filter (frP T F) := by
    intro l
    induction l with
    | nil => intro acc; simp
    | cons s l ih => intro acc; rw [List.foldl_cons, ih, List.flatMap_cons, List.filter_append, List.append_assoc]
  rw [ef, List.nil_append] at h3
  have hr := rng1_nat w (by omega)
  unfold rgL at hr
  simp only [Int.zero_add] at h1 hr
  unfold M_House_free D_House_free
  unfold spots
  subst h3
  simp [dSeq_ev, seqR_nx, seqR_rt, seqR_ct, seqR_bk, seqR_ex, seqR_ite, runF_ev, resR_nx, resR_rt, resR_ex, resR_ite, startE, wp_nxK, wp_rtK, wp_ctK, wp_bkK, wp_exK, wp_nxP, wp_rtP, wp_ite, R.bind_ok, R.bind_exn, sb_ok, sb_exn, opt_some, opt_ite, bind_ite, sb_ite, dC, dVar, dPk, Fv.toVl, dBin, dUn, dTest, vTru, dTB_ev, tbK_bl, dAnd, dOr, dNot, dBV, dIf, dChain_ev, chK_bl, daNil, daCons, dTup, dLst, dIx, doNone, doSome, dSl, dFn, diVal, diRng, dCall, dRet, dRetN, dExpr, dIfS_ev, dAsg, gSet, gUn, gsNil, gsCons, itemsOf, dNext, dBreak, dCont, dRaise, dxC, dxE, dTold_ev, toldR_ok, toldR_exn, toldR_ite, dMeth, dFld, List.lookup, dSetF, putN, dPar, dPar3, vNeg, vSub_int, vAdd_int, vEq_int, vNe_int, vLt_int, vGt_int, vLe_int, vGe_int, vIx_lst, vIx_tup, atI_int, vSl_tup, vSl_lst, cutL_toI, cutL_fromI, cutL_midI, cutL_all, oLen, seqOf, oInt, oAbs, oMax2, oMin2, oTuple, oList, vIsN_non, vIsN_str, vIsN_int, vIsN_tup, vIsN_lst, dBm, tStr, tTup, tLst, dCat, lstOf, dListO, dLstO, dBmW, dTupRev, walkOf, dAndV_ev, andK_bl, dOrV_ev, orK_bl, Int.ofNat_inj, dFor, h, hr, h1, dOwnL]
end CardH
end
section
set_option maxHeartbeats 4000000
namespace CardH
open PySem PySem.Spec PyProof.Rows L2
def bT (s p : Nat) (t : Sp2) : Bool := decide (s < t.1) && (decide ((p : Int) - (t.1 - s) ≤ t.2) && decide (t.2 ≤ p))
def bF (s p : Nat) (t : Sp2) : Bool := decide (s ≤ t.1) && (decide ((p : Int) - (t.1 - s) - 1 ≤ t.2) && decide (t.2 ≤ p))
theorem foldl_cnt {α : Type} (p : α → Bool) (c : Int) : ∀ (l : List α) (n : Int), l.foldl (fun n a => if p a = true then n + c else n) n = n + c * (l.filter p).length
  | [], n => by simp
  | a :: l, n => by
    rw [List.foldl_cons, foldl_cnt p c l]
    by_cases h : p a = true
    · simp only [h, if_true, List.filter_cons_of_pos, List.length_cons]
      rw [show ((((l.filter p).length + 1 : Nat)) : Int) = ((l.filter p).length : Int) + 1 by omega, Int.mul_add]
      omega
    · simp [h]
theorem gUn2 (e : LEnv) (i j : Nat) (s : Sp2) : gUn 2 (gsCons (gSet i) (gsCons (gSet j) gsNil)) e (pr s) = some ((e.set i (some (.val (.int s.1)))).set j (some (.val (.int s.2)))) := rfl
theorem house_bears (G : Gst) (i w : Nat) (T F : List Sp2) (s p : Nat) (h : G[i]? = some (houO w T F)) : M_House_bears [.ref i, .int s, .int p] G =
    if (s, p) ∈ T then .ok (.int (2 * (T.filter (bT s p)).length + (F.filter (bF s p)).length)) G else .exn { cls := 5 } G := by
  have vI : ∀ a b : Int, vAddI (.int a) (.int b) = some (.int (a + b)) := fun _ _ => rfl
  unfold M_House_bears D_House_bears
  by_cases h1 : (s, p) ∈ T
  · rw [if_pos h1]
    obtain ⟨e', h2, z4, z5, h3⟩ := forL_foldN (g := gUn 2 (gsCons (gSet 4) (gsCons (gSet 5) gsNil))) (db := dIfS (dAnd (dTB (dBin vGt (dVar 4) (dVar 1))) (dTB (dChain vLe vLe (dBin vSub (dVar 2) (dBin vSub (dVar 4) (dVar 1))) (dVar 5) (dVar 2))))
      (dAug 3 vAddI (dC (.int 2))) dNext) pr (fun (n : Int) t => if bT s p t = true then n + 2 else n) (fun _ => G) T
      (fun _ n e => ∃ z4 z5, e = [some (.val (.ref i)), some (.val (.int s)), some (.val (.int p)), some (.val (.int n)), z4, z5]) 0 [some (.val (.ref i)), some (.val (.int s)), some (.val (.int p)), some (.val (.int 0)), none, none] ⟨_, _, rfl⟩ (by
        rintro k ⟨a, b⟩ _ n e ⟨z4, z5, rfl⟩
        refine ⟨_, gUn2 .., [some (.val (.ref i)), some (.val (.int s)), some (.val (.int p)), some (.val (.int (if bT s p (a, b) = true then n + 2 else n))), some (.val (.int a)), some (.val (.int b))], .inl ?_, _, _, rfl⟩
        unfold bT
        by_cases q1 : s < a
        · by_cases q2 : (p : Int) - (a - s) ≤ b
          · by_cases q3 : b ≤ p
            · simp [dSeq_ev, seqR_nx, seqR_rt, seqR_ct, seqR_bk, seqR_ex, seqR_ite, runF_ev, resR_nx, resR_rt, resR_ex, resR_ite, startE, wp_nxK, wp_rtK, wp_ctK, wp_bkK, wp_exK, wp_nxP, wp_rtP, wp_ite, R.bind_ok, R.bind_exn, sb_ok, sb_exn, opt_some, opt_ite, bind_ite, sb_ite, dC, dVar, dPk, Fv.toVl, dBin, dUn, dTest, vTru, dTB_ev, tbK_bl, dAnd, dOr, dNot, dBV, dIf, dChain_ev, chK_bl, daNil, daCons, dTup, dLst, dIx, doNone, doSome, dSl, dFn, diVal, diRng, dCall, dRet, dRetN, dExpr, dIfS_ev, dAsg, gSet, gUn, gsNil, gsCons, itemsOf, dNext, dBreak, dCont, dRaise, dxC, dxE, dTold_ev, toldR_ok, toldR_exn, toldR_ite, dMeth, dFld, List.lookup, dSetF, putN, dPar, dPar3, vNeg, vSub_int, vAdd_int, vEq_int, vNe_int, vLt_int, vGt_int, vLe_int, vGe_int, vIx_lst, vIx_tup, atI_int, vSl_tup, vSl_lst, cutL_toI, cutL_fromI, cutL_midI, cutL_all, oLen, seqOf, oInt, oAbs, oMax2, oMin2, oTuple, oList, vIsN_non, vIsN_str, vIsN_int, vIsN_tup, vIsN_lst, dBm, tStr, tTup, tLst, dCat, lstOf, dListO, dLstO, dBmW, dTupRev, walkOf, dAndV_ev, andK_bl, dOrV_ev, orK_bl, Int.ofNat_inj, q1, q2, q3, dAug, vI]
            · simp [dSeq_ev, seqR_nx, seqR_rt, seqR_ct, seqR_bk, seqR_ex, seqR_ite, runF_ev, resR_nx, resR_rt, resR_ex, resR_ite, startE, wp_nxK, wp_rtK, wp_ctK, wp_bkK, wp_exK, wp_nxP, wp_rtP, wp_ite, R.bind_ok, R.bind_exn, sb_ok, sb_exn, opt_some, opt_ite, bind_ite, sb_ite, dC, dVar, dPk, Fv.toVl, dBin, dUn, dTest, vTru, dTB_ev, tbK_bl, dAnd, dOr, dNot, dBV, dIf, dChain_ev, chK_bl, daNil, daCons, dTup, dLst, dIx, doNone, doSome, dSl, dFn, diVal, diRng, dCall, dRet, dRetN, dExpr, dIfS_ev, dAsg, gSet, gUn, gsNil, gsCons, itemsOf, dNext, dBreak, dCont, dRaise, dxC, dxE, dTold_ev, toldR_ok, toldR_exn, toldR_ite, dMeth, dFld, List.lookup, dSetF, putN, dPar, dPar3, vNeg, vSub_int, vAdd_int, vEq_int, vNe_int, vLt_int, vGt_int, vLe_int, vGe_int, vIx_lst, vIx_tup, atI_int, vSl_tup, vSl_lst, cutL_toI, cutL_fromI, cutL_midI, cutL_all, oLen, seqOf, oInt, oAbs, oMax2, oMin2, oTuple, oList, vIsN_non, vIsN_str, vIsN_int, vIsN_tup, vIsN_lst, dBm, tStr, tTup, tLst, dCat, lstOf, dListO, dLstO, dBmW, dTupRev, walkOf, dAndV_ev, andK_bl, dOrV_ev, orK_bl, Int.ofNat_inj, q1, q2, q3, dAug, vI]
          · simp [dSeq_ev, seqR_nx, seqR_rt, seqR_ct, seqR_bk, seqR_ex, seqR_ite, runF_ev, resR_nx, resR_rt, resR_ex, resR_ite, startE, wp_nxK, wp_rtK, wp_ctK, wp_bkK, wp_exK, wp_nxP, wp_rtP, wp_ite, R.bind_ok, R.bind_exn, sb_ok, sb_exn, opt_some, opt_ite, bind_ite, sb_ite, dC, dVar, dPk, Fv.toVl, dBin, dUn, dTest, vTru, dTB_ev, tbK_bl, dAnd, dOr, dNot, dBV, dIf, dChain_ev, chK_bl, daNil, daCons, dTup, dLst, dIx, doNone, doSome, dSl, dFn, diVal, diRng, dCall, dRet, dRetN, dExpr, dIfS_ev, dAsg, gSet, gUn, gsNil, gsCons, itemsOf, dNext, dBreak, dCont, dRaise, dxC, dxE, dTold_ev, toldR_ok, toldR_exn, toldR_ite, dMeth, dFld, List.lookup, dSetF, putN, dPar, dPar3, vNeg, vSub_int, vAdd_int, vEq_int, vNe_int, vLt_int, vGt_int, vLe_int, vGe_int, vIx_lst, vIx_tup, atI_int, vSl_tup, vSl_lst, cutL_toI, cutL_fromI, cutL_midI, cutL_all, oLen, seqOf, oInt, oAbs, oMax2, oMin2, oTuple, oList, vIsN_non, vIsN_str, vIsN_int, vIsN_tup, vIsN_lst, dBm, tStr, tTup, tLst, dCat, lstOf, dListO, dLstO, dBmW, dTupRev, walkOf, dAndV_ev, andK_bl, dOrV_ev, orK_bl, Int.ofNat_inj, q1, q2, dAug, vI]
        · simp [dSeq_ev, seqR_nx, seqR_rt, seqR_ct, seqR_bk, seqR_ex, seqR_ite, runF_ev, resR_nx, resR_rt, resR_ex, resR_ite, startE, wp_nxK, wp_rtK, wp_ctK, wp_bkK, wp_exK, wp_nxP, wp_rtP, wp_ite, R.bind_ok, R.bind_exn, sb_ok, sb_exn, opt_some, opt_ite, bind_ite, sb_ite, dC, dVar, dPk, Fv.toVl, dBin, dUn, dTest, vTru, dTB_ev, tbK_bl, dAnd, dOr, dNot, dBV, dIf, dChain_ev, chK_bl, daNil, daCons, dTup, dLst, dIx, doNone, doSome, dSl, dFn, diVal, diRng, dCall, dRet, dRetN, dExpr, dIfS_ev, dAsg, gSet, gUn, gsNil, gsCons, itemsOf, dNext, dBreak, dCont, dRaise, dxC, dxE, dTold_ev, toldR_ok, toldR_exn, toldR_ite, dMeth, dFld, List.lookup, dSetF, putN, dPar, dPar3, vNeg, vSub_int, vAdd_int, vEq_int, vNe_int, vLt_int, vGt_int, vLe_int, vGe_int, vIx_lst, vIx_tup, atI_int, vSl_tup, vSl_lst, cutL_toI, cutL_fromI, cutL_midI, cutL_all, oLen, seqOf, oInt, oAbs, oMax2, oMin2, oTuple, oList, vIsN_non, vIsN_str, vIsN_int, vIsN_tup, vIsN_lst, dBm, tStr, tTup, tLst, dCat, lstOf, dListO, dLstO, dBmW, dTupRev, walkOf, dAndV_ev, andK_bl, dOrV_ev, orK_bl, Int.ofNat_inj, q1, dAug, vI])
    rw [foldl_cnt, Int.zero_add] at h3
    generalize hn : (2 : Int) * (T.filter (bT s p)).length = n at h3 ⊢
    subst h3
    obtain ⟨e2, h4, z4', z5', h5⟩ := forL_foldN (g := gUn 2 (gsCons (gSet 4) (gsCons (gSet 5) gsNil))) (db := dIfS (dAnd (dTB (dBin vGe (dVar 4) (dVar 1))) (dTB (dChain vLe vLe (dBin vSub (dBin vSub (dVar 2) (dBin vSub (dVar 4) (dVar 1))) (dC (.int 1))) (dVar 5) (dVar 2))))
      (dAug 3 vAddI (dC (.int 1))) dNext) pr (fun (n : Int) t => if bF s p t = true then n + 1 else n) (fun _ => G) F
      (fun _ n e => ∃ z4 z5, e = [some (.val (.ref i)), some (.val (.int s)), some (.val (.int p)), some (.val (.int n)), z4, z5]) n [some (.val (.ref i)), some (.val (.int s)), some (.val (.int p)), some (.val (.int n)), z4, z5] ⟨_, _, rfl⟩ (by
        rintro k ⟨a, b⟩ _ n e ⟨z4, z5, rfl⟩
        refine ⟨_, gUn2 .., [some (.val (.ref i)), some (.val (.int s)), some (.val (.int p)), some (.val (.int (if bF s p (a, b) = true then n + 1 else n))), some (.val (.int a)), some (.val (.int b))], .inl ?_, _, _, rfl⟩
        unfold bF
        by_cases q1 : s ≤ a
        · by_cases q2 : (p : Int) - (a - s) - 1 ≤ b
          · by_cases q3 : b ≤ p
            · simp [dSeq_ev, seqR_nx, seqR_rt, seqR_ct, seqR_bk, seqR_ex, seqR_ite, runF_ev, resR_nx, resR_rt, resR_ex, resR_ite, startE, wp_nxK, wp_rtK, wp_ctK, wp_bkK, wp_exK, wp_nxP, wp_rtP, wp_ite, R.bind_ok, R.bind_exn, sb_ok, sb_exn, opt_some, opt_ite, bind_ite, sb_ite, dC, dVar, dPk, Fv.toVl, dBin, dUn, dTest, vTru, dTB_ev, tbK_bl, dAnd, dOr, dNot, dBV, dIf, dChain_ev, chK_bl, daNil, daCons, dTup, dLst, dIx, doNone, doSome, dSl, dFn, diVal, diRng, dCall, dRet, dRetN, dExpr, dIfS_ev, dAsg, gSet, gUn, gsNil, gsCons, itemsOf, dNext, dBreak, dCont, dRaise, dxC, dxE, dTold_ev, toldR_ok, toldR_exn, toldR_ite, dMeth, dFld, List.lookup, dSetF, putN, dPar, dPar3, vNeg, vSub_int, vAdd_int, vEq_int, vNe_int, vLt_int, vGt_int, vLe_int, vGe_int, vIx_lst, vIx_tup, atI_int, vSl_tup, vSl_lst, cutL_toI, cutL_fromI, cutL_midI, cutL_all, oLen, seqOf, oInt, oAbs, oMax2, oMin2, oTuple, oList, vIsN_non, vIsN_str, vIsN_int, vIsN_tup, vIsN_lst, dBm, tStr, tTup, tLst, dCat, lstOf, dListO, dLstO, dBmW, dTupRev, walkOf, dAndV_ev, andK_bl, dOrV_ev, orK_bl, Int.ofNat_inj, q1, q2, q3, dAug, vI]
            · simp [dSeq_ev, seqR_nx, seqR_rt, seqR_ct, seqR_bk, seqR_ex, seqR_ite, runF_ev, resR_nx, resR_rt, resR_ex, resR_ite, startE, wp_nxK, wp_rtK, wp_ctK, wp_bkK, wp_exK, wp_nxP, wp_rtP, wp_ite, R.bind_ok, R.bind_exn, sb_ok, sb_exn, opt_some, opt_ite, bind_ite, sb_ite, dC, dVar, dPk, Fv.toVl, dBin, dUn, dTest, vTru, dTB_ev, tbK_bl, dAnd, dOr, dNot, dBV, dIf, dChain_ev, chK_bl, daNil, daCons, dTup, dLst, dIx, doNone, doSome, dSl, dFn, diVal, diRng, dCall, dRet, dRetN, dExpr, dIfS_ev, dAsg, gSet, gUn, gsNil, gsCons, itemsOf, dNext, dBreak, dCont, dRaise, dxC, dxE, dTold_ev, toldR_ok, toldR_exn, toldR_ite, dMeth, dFld, List.lookup, dSetF, putN, dPar, dPar3, vNeg, vSub_int, vAdd_int, vEq_int, vNe_int, vLt_int, vGt_int, vLe_int, vGe_int, vIx_lst, vIx_tup, atI_int, vSl_tup, vSl_lst, cutL_toI, cutL_fromI, cutL_midI, cutL_all, oLen, seqOf, oInt, oAbs, oMax2, oMin2, oTuple, oList, vIsN_non, vIsN_str, vIsN_int, vIsN_tup, vIsN_lst, dBm, tStr, tTup, tLst, dCat, lstOf, dListO, dLstO, dBmW, dTupRev, walkOf, dAndV_ev, andK_bl, dOrV_ev, orK_bl, Int.ofNat_inj, q1, q2, q3, dAug, vI]
          · simp [dSeq_ev, seqR_nx, seqR_rt, seqR_ct, seqR_bk, seqR_ex, seqR_ite, runF_ev, resR_nx, resR_rt, resR_ex, resR_ite, startE, wp_nxK, wp_rtK, wp_ctK, wp_bkK, wp_exK, wp_nxP, wp_rtP, wp_ite, R.bind_ok, R.bind_exn, sb_ok, sb_exn, opt_some, opt_ite, bind_ite, sb_ite, dC, dVar, dPk, Fv.toVl, dBin, dUn, dTest, vTru, dTB_ev, tbK_bl, dAnd, dOr, dNot, dBV, dIf, dChain_ev, chK_bl, daNil, daCons, dTup, dLst, dIx, doNone, doSome, dSl, dFn, diVal, diRng, dCall, dRet, dRetN, dExpr, dIfS_ev, dAsg, gSet, gUn, gsNil, gsCons, itemsOf, dNext, dBreak, dCont, dRaise, dxC, dxE, dTold_ev, toldR_ok, toldR_exn, toldR_ite, dMeth, dFld, List.lookup, dSetF, putN, dPar, dPar3, vNeg, vSub_int, vAdd_int, vEq_int, vNe_int, vLt_int, vGt_int, vLe_int, vGe_int, vIx_lst, vIx_tup, atI_int, vSl_tup, vSl_lst, cutL_toI, cutL_fromI, cutL_midI, cutL_all, oLen, seqOf, oInt, oAbs, oMax2, oMin2, oTuple, oList, vIsN_non, vIsN_str, vIsN_int, vIsN_tup, vIsN_lst, dBm, tStr, tTup, tLst, dCat, lstOf, dListO, dLstO, dBmW, dTupRev, walkOf, dAndV_ev, andK_bl, dOrV_ev, orK_bl, Int.ofNat_inj, q1, q2, dAug, vI]
        · simp [dSeq_ev, seqR_nx, seqR_rt, seqR_ct, seqR_bk, seqR_ex, seqR_ite, runF_ev, resR_nx, resR_rt, resR_ex, resR_ite, startE, wp_nxK, wp_rtK, wp_ctK, wp_bkK, wp_exK, wp_nxP, wp_rtP, wp_ite, R.bind_ok, R.bind_exn, sb_ok, sb_exn, opt_some, opt_ite, bind_ite, sb_ite, dC, dVar, dPk, Fv.toVl, dBin, dUn, dTest, vTru, dTB_ev, tbK_bl, dAnd, dOr, dNot, dBV, dIf, dChain_ev, chK_bl, daNil, daCons, dTup, dLst, dIx, doNone, doSome, dSl, dFn, diVal, diRng, dCall, dRet, dRetN, dExpr, dIfS_ev, dAsg, gSet, gUn, gsNil, gsCons, itemsOf, dNext, dBreak, dCont, dRaise, dxC, dxE, dTold_ev, toldR_ok, toldR_exn, toldR_ite, dMeth, dFld, List.lookup, dSetF, putN, dPar, dPar3, vNeg, vSub_int, vAdd_int, vEq_int, vNe_int, vLt_int, vGt_int, vLe_int, vGe_int, vIx_lst, vIx_tup, atI_int, vSl_tup, vSl_lst, cutL_toI, cutL_fromI, cutL_midI, cutL_all, oLen, seqOf, oInt, oAbs, oMax2, oMin2, oTuple, oList, vIsN_non, vIsN_str, vIsN_int, vIsN_tup, vIsN_lst, dBm, tStr, tTup, tLst, dCat, lstOf, dListO, dLstO, dBmW, dTupRev, walkOf, dAndV_ev, andK_bl, dOrV_ev, orK_bl, Int.ofNat_inj, q1, dAug, vI])
    rw [foldl_cnt, Int.one_mul] at h5
    subst h5
    simp [dSeq_ev, seqR_nx, seqR_rt, seqR_ct, seqR_bk, seqR_ex, seqR_ite, runF_ev, resR_nx, resR_rt, resR_ex, resR_ite, startE, wp_nxK, wp_rtK, wp_ctK, wp_bkK, wp_exK, wp_nxP, wp_rtP, wp_ite, R.bind_ok, R.bind_exn, sb_ok, sb_exn, opt_some, opt_ite, bind_ite, sb_ite, dC, dVar, dPk, Fv.toVl, dBin, dUn, dTest, vTru, dTB_ev, tbK_bl, dAnd, dOr, dNot, dBV, dIf, dChain_ev, chK_bl, daNil, daCons, dTup, dLst, dIx, doNone, doSome, dSl, dFn, diVal, diRng, dCall, dRet, dRetN, dExpr, dIfS_ev, dAsg, gSet, gUn, gsNil, gsCons, itemsOf, dNext, dBreak, dCont, dRaise, dxC, dxE, dTold_ev, toldR_ok, toldR_exn, toldR_ite, dMeth, dFld, List.lookup, dSetF, putN, dPar, dPar3, vNeg, vSub_int, vAdd_int, vEq_int, vNe_int, vLt_int, vGt_int, vLe_int, vGe_int, vIx_lst, vIx_tup, atI_int, vSl_tup, vSl_lst, cutL_toI, cutL_fromI, cutL_midI, cutL_all, oLen, seqOf, oInt, oAbs, oMax2, oMin2, oTuple, oList, vIsN_non, vIsN_str, vIsN_int, vIsN_tup, vIsN_lst, dBm, tStr, tTup, tLst, dCat, lstOf, dListO, dLstO, dBmW, dTupRev, walkOf, dAndV_ev, andK_bl, dOrV_ev, orK_bl, Int.ofNat_inj, h, h1, pr_eq, notin_prsT, dFor, h2, h4]
  · simp [dSeq_ev, seqR_nx, seqR_rt, seqR_ct, seqR_bk, seqR_ex, seqR_ite, runF_ev, resR_nx, resR_rt, resR_ex, resR_ite, startE, wp_nxK, wp_rtK, wp_ctK, wp_bkK, wp_exK, wp_nxP, wp_rtP, wp_ite, R.bind_ok, R.bind_exn, sb_ok, sb_exn, opt_some, opt_ite, bind_ite, sb_ite, dC, dVar, dPk, Fv.toVl, dBin, dUn, dTest, vTru, dTB_ev, tbK_bl, dAnd, dOr, dNot, dBV, dIf, dChain_ev, chK_bl, daNil, daCons, dTup, dLst, dIx, doNone, doSome, dSl, dFn, diVal, diRng, dCall, dRet, dRetN, dExpr, dIfS_ev, dAsg, gSet, gUn, gsNil, gsCons, itemsOf, dNext, dBreak, dCont, dRaise, dxC, dxE, dTold_ev, toldR_ok, toldR_exn, toldR_ite, dMeth, dFld, List.lookup, dSetF, putN, dPar, dPar3, vNeg, vSub_int, vAdd_int, vEq_int, vNe_int, vLt_int, vGt_int, vLe_int, vGe_int, vIx_lst, vIx_tup, atI_int, vSl_tup, vSl_lst, cutL_toI, cutL_fromI, cutL_midI, cutL_all, oLen, seqOf, oInt, oAbs, oMax2, oMin2, oTuple, oList, vIsN_non, vIsN_str, vIsN_int, vIsN_tup, vIsN_lst, dBm, tStr, tTup, tLst, dCat, lstOf, dListO, dLstO, dBmW, dTupRev, walkOf, dAndV_ev, andK_bl, dOrV_ev, orK_bl, Int.ofNat_inj, h, h1, pr_eq, notin_prsT]
/-! ### how many storeys -/
def stor (w : Nat) (T : List Sp2) : List Nat := (List.range w).filter fun k => T.any fun t => decide (t.1 = k)
theorem stor_len (w : Nat) (T : List Sp2) (h : ∀ t ∈ T, t.1 < w) : (uniq [] (T.map fun t : Sp2 => keyOf (.int (t.1 : Int)))).length = (stor w T).length := by
  have hn := uniq_nodup (T.map fun t : Sp2 => keyOf (.int (t.1 : Int))) [] List.nodup_nil
  have p : (uniq [] (T.map fun t : Sp2 => keyOf (.int (t.1 : Int)))).Perm ((stor w T).map fun k : Nat => keyOf (.int (k : Int))) := by
    rw [List.perm_ext_iff_of_nodup hn]
    · intro x
      rw [mem_uniq]
      simp only [List.not_mem_nil, false_or, List.mem_map, stor, List.mem_filter, List.mem_range, List.any_eq_true, decide_eq_true_eq]
      constructor
      · rintro ⟨t, h1, rfl⟩
        exact ⟨t.1, ⟨h t h1, t, h1, rfl⟩, rfl⟩
      · rintro ⟨k, ⟨h1, t, h2, rfl⟩, rfl⟩
        exact ⟨t, h2, rfl⟩
    · refine List.pairwise_map.mpr ((List.Pairwise.filter _ List.pairwise_lt_range).imp fun {a b} hab z => ?_)
      have : (a : Int) = b := by simpa [keyOf] using z
      omega
  rw [p.length_eq, List.length_map]
theorem house_storeys (G : Gst) (i w : Nat) (T F : List Sp2) (h : G[i]? = some (houO w T F)) (hT : T.length ≤ 1000) (hw : ∀ t ∈ T, t.1 < w) : M_House_storeys [.ref i] G = .ok (.int (stor w T).length) G := by
  have e1 := oPairs_map (G := G) (fun t : Sp2 => Vl.tup [.int t.1, .int 1]) (fun t => .int t.1) (fun _ => .int 1) T fun _ _ => rfl
  have e2 := merge_len (T.map fun t : Sp2 => (Vl.int (t.1 : Int), Vl.int 1)) (by intro q hq; obtain ⟨t, _, rfl⟩ := List.mem_map.mp hq; rfl)
  rw [List.map_map] at e2
  have e3 := stor_len w T hw
  have e4 : ((fun p : Vl × Vl => keyOf p.1) ∘ fun t : Sp2 => (Vl.int (t.1 : Int), Vl.int 1)) = fun t : Sp2 => keyOf (.int (t.1 : Int)) := rfl
  rw [e4, e3] at e2
  have hc : dLc [1, 2] (diVal (dFld 1 (dVar 0))) (gUn 2 (gsCons (gSet 1) (gsCons (gSet 2) gsNil))) dYes (dTup (daCons (dVar 1) (daCons (dC (.int 1)) daNil))) [some (.val (.ref i)), none, none] G = .ok (.lst (T.map fun t : Sp2 => Vl.tup [.int t.1, .int 1])) G := by
    rw [dLc_map T pr (fun t : Sp2 => Vl.tup [.int t.1, .int 1]) (G1 := G)]
    · simp [dSeq_ev, seqR_nx, seqR_rt, seqR_ct, seqR_bk, seqR_ex, seqR_ite, runF_ev, resR_nx, resR_rt, resR_ex, resR_ite, startE, wp_nxK, wp_rtK, wp_ctK, wp_bkK, wp_exK, wp_nxP, wp_rtP, wp_ite, R.bind_ok, R.bind_exn, sb_ok, sb_exn, opt_some, opt_ite, bind_ite, sb_ite, dC, dVar, dPk, Fv.toVl, dBin, dUn, dTest, vTru, dTB_ev, tbK_bl, dAnd, dOr, dNot, dBV, dIf, dChain_ev, chK_bl, daNil, daCons, dTup, dLst, dIx, doNone, doSome, dSl, dFn, diVal, diRng, dCall, dRet, dRetN, dExpr, dIfS_ev, dAsg, gSet, gUn, gsNil, gsCons, itemsOf, dNext, dBreak, dCont, dRaise, dxC, dxE, dTold_ev, toldR_ok, toldR_exn, toldR_ite, dMeth, dFld, List.lookup, dSetF, putN, dPar, dPar3, vNeg, vSub_int, vAdd_int, vEq_int, vNe_int, vLt_int, vGt_int, vLe_int, vGe_int, vIx_lst, vIx_tup, atI_int, vSl_tup, vSl_lst, cutL_toI, cutL_fromI, cutL_midI, cutL_all, oLen, seqOf, oInt, oAbs, oMax2, oMin2, oTuple, oList, vIsN_non, vIsN_str, vIsN_int, vIsN_tup, vIsN_lst, dBm, tStr, tTup, tLst, dCat, lstOf, dListO, dLstO, dBmW, dTupRev, walkOf, dAndV_ev, andK_bl, dOrV_ev, orK_bl, Int.ofNat_inj, h]
    · intro t _
      exact ⟨_, gUn2 .., by simp [dSeq_ev, seqR_nx, seqR_rt, seqR_ct, seqR_bk, seqR_ex, seqR_ite, runF_ev, resR_nx, resR_rt, resR_ex, resR_ite, startE, wp_nxK, wp_rtK, wp_ctK, wp_bkK, wp_exK, wp_nxP, wp_rtP, wp_ite, R.bind_ok, R.bind_exn, sb_ok, sb_exn, opt_some, opt_ite, bind_ite, sb_ite, dC, dVar, dPk, Fv.toVl, dBin, dUn, dTest, vTru, dTB_ev, tbK_bl, dAnd, dOr, dNot, dBV, dIf, dChain_ev, chK_bl, daNil, daCons, dTup, dLst, dIx, doNone, doSome, dSl, dFn, diVal, diRng, dCall, dRet, dRetN, dExpr, dIfS_ev, dAsg, gSet, gUn, gsNil, gsCons, itemsOf, dNext, dBreak, dCont, dRaise, dxC, dxE, dTold_ev, toldR_ok, toldR_exn, toldR_ite, dMeth, dFld, List.lookup, dSetF, putN, dPar, dPar3, vNeg, vSub_int, vAdd_int, vEq_int, vNe_int, vLt_int, vGt_int, vLe_int, vGe_int, vIx_lst, vIx_tup, atI_int, vSl_tup, vSl_lst, cutL_toI, cutL_fromI, cutL_midI, cutL_all, oLen, seqOf, oInt, oAbs, oMax2, oMin2, oTuple, oList, vIsN_non, vIsN_str, vIsN_int, vIsN_tup, vIsN_lst, dBm, tStr, tTup, tLst, dCat, lstOf, dListO, dLstO, dBmW, dTupRev, walkOf, dAndV_ev, andK_bl, dOrV_ev, orK_bl, Int.ofNat_inj, wipeE]⟩
    · omega
  unfold M_House_storeys D_House_storeys
  generalize mergeV [] (T.map fun t : Sp2 => (Vl.int (t.1 : Int), Vl.int 1)) = M at e1 e2
  simp [dSeq_ev, seqR_nx, seqR_rt, seqR_ct, seqR_bk, seqR_ex, seqR_ite, runF_ev, resR_nx, resR_rt, resR_ex, resR_ite, startE, wp_nxK, wp_rtK, wp_ctK, wp_bkK, wp_exK, wp_nxP, wp_rtP, wp_ite, R.bind_ok, R.bind_exn, sb_ok, sb_exn, opt_some, opt_ite, bind_ite, sb_ite, dC, dVar, dPk, Fv.toVl, dBin, dUn, dTest, vTru, dTB_ev, tbK_bl, dAnd, dOr, dNot, dBV, dIf, dChain_ev, chK_bl, daNil, daCons, dTup, dLst, dIx, doNone, doSome, dSl, dFn, diVal, diRng, dCall, dRet, dRetN, dExpr, dIfS_ev, dAsg, gSet, gUn, gsNil, gsCons, itemsOf, dNext, dBreak, dCont, dRaise, dxC, dxE, dTold_ev, toldR_ok, toldR_exn, toldR_ite, dMeth, dFld, List.lookup, dSetF, putN, dPar, dPar3, vNeg, vSub_int, vAdd_int, vEq_int, vNe_int, vLt_int, vGt_int, vLe_int, vGe_int, vIx_lst, vIx_tup, atI_int, vSl_tup, vSl_lst, cutL_toI, cutL_fromI, cutL_midI, cutL_all, oLen, seqOf, oInt, oAbs, oMax2, oMin2, oTuple, oList, vIsN_non, vIsN_str, vIsN_int, vIsN_tup, vIsN_lst, dBm, tStr, tTup, tLst, dCat, lstOf, dListO, dLstO, dBmW, dTupRev, walkOf, dAndV_ev, andK_bl, dOrV_ev, orK_bl, Int.ofNat_inj, hc, dDictV, e1, e2]
end CardH
end
section
set_option maxHeartbeats 4000000
namespace CardH
open PySem PySem.Spec PyProof.Rows L2
def ordV (w : Nat) : List Vl := (List.range w).flatMap fun s => ((List.range (w - s)).map fun p : Nat => Vl.tup [.int (s : Nat), .int (p : Nat), .str "tent"]) ++ ((List.range (w - s - 1)).map fun p : Nat => Vl.tup [.int (s : Nat), .int (p : Nat), .str "flat"])
def wholeN (w : Nat) : Int := ((List.range w).map fun k : Nat => 2 * ((w : Int) - k) + w - k - 1).sum
section
variable (d : D3) (o p : Ob) (x0 x2 x3 x4 x6 x16 x17 : Option Fv)
theorem order_ok : ∀ w : Nat, 1 ≤ w → w ≤ 4 → T1_4__law_rest1 [x0, some (.val (.int w)), x2, x3, x4, some (.val (.int (wholeN w))), x6, none, none, none, none, none, none, none, none, none, x16, x17, none, none, none, none, none, none, none, none, none, none] [dO d, o] =
    T1_7__law_rest1 [x0, some (.val (.int w)), x2, x3, x4, some (.val (.int (wholeN w))), x6, some (.val (.lst (ordV w))), some (.val (.int ((w - 1 : Nat) : Nat))), none, none, none, none, none, none, none, x16, x17, none, none, none, none, none, none, none, none, none, none] [dO d, o, .lst (ordV w)]
  | 0, h, _ => absurd h (by omega)
  | 1, _, _ => by kernel_rfl
  | 2, _, _ => by kernel_rfl
  | 3, _, _ => by kernel_rfl
  | 4, _, _ => by kernel_rfl
  | n + 5, _, h => absurd h (by omega)

def hiN (c : Nat) : Nat := if c < 2 then 0 else if c < 7 then 1 else if c < 15 then 2 else if c < 26 then 3 else if c < 40 then 4 else if c < 57 then 5 else if c < 77 then 6 else if c < 100 then 7 else 8
abbrev e8 (x0 x2 x3 x4 x6 x7 x8 x9 x10 x16 x17 x19 : Option Fv) (w c : Nat) : LEnv := [x0, some (.val (.int w)), x2, x3, x4, some (.val (.int (wholeN w))), x6, x7, x8, x9, x10, none, none, none, none, none, x16, x17, some (.val (.int c)), x19, none, none, none, none, none, none, none, none]
def szV : List Vl := [.int 0, .int 2, .int 7, .int 15, .int 26, .int 40, .int 57, .int 77, .int 100, .int 126, .int 155, .int 187]
theorem sizes_ok (x7 x8 x19 : Option Fv) (w c : Nat) : T1_8__law_rest1 (e8 x0 x2 x3 x4 x6 x7 x8 none none x16 x17 x19 w c) [dO d, o, p] = T1_9__law_rest1 (e8 x0 x2 x3 x4 x6 x7 x8 (some (.val (.lst szV))) none x16 x17 x19 w c) [dO d, o, p] := by kernel_rfl
theorem high_ok (x7 x8 x19 : Option Fv) (w : Nat) : ∀ c, c < 120 → T1_9__law_rest1 (e8 x0 x2 x3 x4 x6 x7 x8 (some (.val (.lst szV))) none x16 x17 x19 w c) [dO d, o, p] = T1_11__law_rest1 (e8 x0 x2 x3 x4 x6 x7 x8 (some (.val (.lst szV))) (some (.val (.int (hiN c)))) x16 x17 x19 w c) [dO d, o, p] :=
  tab (by kernel_rfl)

theorem cards_for (G : Gst) : ∀ w : Nat, 1 ≤ w → w ≤ 4 → M_cards_for [.int w] G = .ok (.int (wholeN w)) G
  | 0, h, _ => absurd h (by omega)
  | 1, _, _ => by kernel_rfl
  | 2, _, _ => by kernel_rfl
  | 3, _, _ => by kernel_rfl
  | 4, _, _ => by kernel_rfl
  | n + 5, _, h => absurd h (by omega)
def whN (w : Nat) : Nat := if w = 1 then 2 else if w = 2 then 7 else if w = 3 then 15 else 26
theorem whole_nat : ∀ w : Nat, 1 ≤ w → w ≤ 4 → wholeN w = (whN w : Nat)
  | 0, h, _ => absurd h (by omega)
  | 1, _, _ => rfl
  | 2, _, _ => rfl
  | 3, _, _ => rfl
  | 4, _, _ => rfl
  | n + 5, _, h => absurd h (by omega)
theorem packs_ok (x7 x8 x9 x10 : Option Fv) (c : Nat) (G : Gst) (w k : Nat) (h1 : 1 ≤ w) (h4 : w ≤ 4) (hk : k < 60) (P : SR → Prop)
    (h : Wp (T1_12__law_rest1 (e8 x0 x2 x3 x4 x6 x7 x8 x9 x10 x16 x17 (some (.val (.int (1 + (k : Nat))))) w c) G) P) : Wp (T1_11__law_rest1 (e8 x0 x2 x3 x4 x6 x7 x8 x9 x10 x16 x17 (some (.val (.int (1 + (k : Nat))))) w c) G) P := by
  have hc := cards_for G w h1 h4
  have hw := whole_nat w h1 h4
  have hn : whN w ≤ 26 := by
    unfold whN
    by_cases a1 : w = 1
    · simp [a1]
    · by_cases a2 : w = 2
      · simp [a2]
      · by_cases a3 : w = 3
        · simp [a3]
        · simp [a1, a2, a3]
  generalize whN w = n at hw hn
  unfold e8 at h ⊢
  rw [hw] at hc h ⊢
  have ek : (1 : Int) + (k : Nat) = ((1 + k : Nat) : Int) := by omega
  rw [ek] at h ⊢
  have hk' : 1 ≤ 1 + k ∧ 1 + k ≤ 60 := by omega
  generalize 1 + k = m at h hk' ⊢
  have e1 := oRgL_pos n m hk'.1 (by omega) (by omega)
  have e2 := ceil_div n m hk'.1
  have hd : ∀ x : Int, vFdiv (.int x) (.int m) = some (.int (x / m)) := fun x => vFdiv_int _ _ (by omega) (by omega)
  have h0 : ¬ (m : Int) < 1 := by omega
  have hl : (rgC 0 (m : Int) ((n + m - 1) / m)).length = (n + m - 1) / m := by simp [rgC]
  have hp : M_packs_for [.int w, .int m] G = .ok (.int (((n + m - 1) / m : Nat) : Int)) G := by
    unfold M_packs_for D_packs_for
    rw [← e2]
    simp [dSeq_ev, seqR_nx, seqR_rt, seqR_ct, seqR_bk, seqR_ex, seqR_ite, runF_ev, resR_nx, resR_rt, resR_ex, resR_ite, startE, wp_nxK, wp_rtK, wp_ctK, wp_bkK, wp_exK, wp_nxP, wp_rtP, wp_ite, R.bind_ok, R.bind_exn, sb_ok, sb_exn, opt_some, opt_ite, bind_ite, sb_ite, dC, dVar, dPk, Fv.toVl, dBin, dUn, dTest, vTru, dTB_ev, tbK_bl, dAnd, dOr, dNot, dBV, dIf, dChain_ev, chK_bl, daNil, daCons, dTup, dLst, dIx, doNone, doSome, dSl, dFn, diVal, diRng, dCall, dRet, dRetN, dExpr, dIfS_ev, dAsg, gSet, gUn, gsNil, gsCons, itemsOf, dNext, dBreak, dCont, dRaise, dxC, dxE, dTold_ev, toldR_ok, toldR_exn, toldR_ite, dMeth, dFld, List.lookup, dSetF, putN, dPar, dPar3, vNeg, vSub_int, vAdd_int, vEq_int, vNe_int, vLt_int, vGt_int, vLe_int, vGe_int, vIx_lst, vIx_tup, atI_int, vSl_tup, vSl_lst, cutL_toI, cutL_fromI, cutL_midI, cutL_all, oLen, seqOf, oInt, oAbs, oMax2, oMin2, oTuple, oList, vIsN_non, vIsN_str, vIsN_int, vIsN_tup, vIsN_lst, dBm, tStr, tTup, tLst, dCat, lstOf, dListO, dLstO, dBmW, dTupRev, walkOf, dAndV_ev, andK_bl, dOrV_ev, orK_bl, Int.ofNat_inj, h0, hc, hd]
  generalize (n + m - 1) / m = q at hp e1 hl
  unfold T1_11__law_rest1
  refine wp_chk (G1 := G) ?_ h
  simp [dSeq_ev, seqR_nx, seqR_rt, seqR_ct, seqR_bk, seqR_ex, seqR_ite, runF_ev, resR_nx, resR_rt, resR_ex, resR_ite, startE, wp_nxK, wp_rtK, wp_ctK, wp_bkK, wp_exK, wp_nxP, wp_rtP, wp_ite, R.bind_ok, R.bind_exn, sb_ok, sb_exn, opt_some, opt_ite, bind_ite, sb_ite, dC, dVar, dPk, Fv.toVl, dBin, dUn, dTest, vTru, dTB_ev, tbK_bl, dAnd, dOr, dNot, dBV, dIf, dChain_ev, chK_bl, daNil, daCons, dTup, dLst, dIx, doNone, doSome, dSl, dFn, diVal, diRng, dCall, dRet, dRetN, dExpr, dIfS_ev, dAsg, gSet, gUn, gsNil, gsCons, itemsOf, dNext, dBreak, dCont, dRaise, dxC, dxE, dTold_ev, toldR_ok, toldR_exn, toldR_ite, dMeth, dFld, List.lookup, dSetF, putN, dPar, dPar3, vNeg, vSub_int, vAdd_int, vEq_int, vNe_int, vLt_int, vGt_int, vLe_int, vGe_int, vIx_lst, vIx_tup, atI_int, vSl_tup, vSl_lst, cutL_toI, cutL_fromI, cutL_midI, cutL_all, oLen, seqOf, oInt, oAbs, oMax2, oMin2, oTuple, oList, vIsN_non, vIsN_str, vIsN_int, vIsN_tup, vIsN_lst, dBm, tStr, tTup, tLst, dCat, lstOf, dListO, dLstO, dBmW, dTupRev, walkOf, dAndV_ev, andK_bl, dOrV_ev, orK_bl, Int.ofNat_inj, hp, e1, hl]
abbrev e13 (x1 x5 x7 x8 x9 x10 x11 x18 x19 : Option Fv) (a s b : Nat) : LEnv := [x0, x1, x2, x3, x4, x5, x6, x7, x8, x9, x10, x11, none, none, none, none, x16, x17, x18, x19, some (.val (.int a)), some (.val (.int s)), some (.val (.int b)), none, none, none, none, none]
def stP (a b : Nat) (k : Nat) : Bool := decide ((b : Int) < a + 2 * (k : Int))
theorem steady (G : Gst) (a s b : Nat) (h : s ≤ 1000) : M_steady_to [.int a, .int s, .int b] G = .ok (.int (((List.range s).find? (stP a b)).getD s : Nat)) G := by
  have hr := rng1_nat s (by omega)
  have key := forL_first (i := 3) (db := dIfS (dTB (dBin vGt (dBin vAdd (dVar 0) (dVar 3)) (dBin vSub (dVar 2) (dVar 3)))) (dRet (dVar 3)) dNext) (G := G) (fun k : Nat => Vl.int (0 + (k : Nat))) (stP a b) (fun k : Nat => Vl.int (k : Nat))
    (fun e => ∃ z, e = [some (.val (.int a)), some (.val (.int s)), some (.val (.int b)), z]) (fun e v ⟨z, hz⟩ => ⟨some (.val v), by subst hz; rfl⟩) (List.range s) [some (.val (.int a)), some (.val (.int s)), some (.val (.int b)), none] ⟨none, rfl⟩ (by
      rintro k _ e ⟨z, rfl⟩
      unfold stP
      by_cases q : (b : Int) < a + 2 * (k : Int)
      · have q' : (b : Int) - k < a + k := by omega
        simp [dSeq_ev, seqR_nx, seqR_rt, seqR_ct, seqR_bk, seqR_ex, seqR_ite, runF_ev, resR_nx, resR_rt, resR_ex, resR_ite, startE, wp_nxK, wp_rtK, wp_ctK, wp_bkK, wp_exK, wp_nxP, wp_rtP, wp_ite, R.bind_ok, R.bind_exn, sb_ok, sb_exn, opt_some, opt_ite, bind_ite, sb_ite, dC, dVar, dPk, Fv.toVl, dBin, dUn, dTest, vTru, dTB_ev, tbK_bl, dAnd, dOr, dNot, dBV, dIf, dChain_ev, chK_bl, daNil, daCons, dTup, dLst, dIx, doNone, doSome, dSl, dFn, diVal, diRng, dCall, dRet, dRetN, dExpr, dIfS_ev, dAsg, gSet, gUn, gsNil, gsCons, itemsOf, dNext, dBreak, dCont, dRaise, dxC, dxE, dTold_ev, toldR_ok, toldR_exn, toldR_ite, dMeth, dFld, List.lookup, dSetF, putN, dPar, dPar3, vNeg, vSub_int, vAdd_int, vEq_int, vNe_int, vLt_int, vGt_int, vLe_int, vGe_int, vIx_lst, vIx_tup, atI_int, vSl_tup, vSl_lst, cutL_toI, cutL_fromI, cutL_midI, cutL_all, oLen, seqOf, oInt, oAbs, oMax2, oMin2, oTuple, oList, vIsN_non, vIsN_str, vIsN_int, vIsN_tup, vIsN_lst, dBm, tStr, tTup, tLst, dCat, lstOf, dListO, dLstO, dBmW, dTupRev, walkOf, dAndV_ev, andK_bl, dOrV_ev, orK_bl, Int.ofNat_inj, q, q']
      · have q' : ¬ (b : Int) - k < a + k := by omega
        simp [dSeq_ev, seqR_nx, seqR_rt, seqR_ct, seqR_bk, seqR_ex, seqR_ite, runF_ev, resR_nx, resR_rt, resR_ex, resR_ite, startE, wp_nxK, wp_rtK, wp_ctK, wp_bkK, wp_exK, wp_nxP, wp_rtP, wp_ite, R.bind_ok, R.bind_exn, sb_ok, sb_exn, opt_some, opt_ite, bind_ite, sb_ite, dC, dVar, dPk, Fv.toVl, dBin, dUn, dTest, vTru, dTB_ev, tbK_bl, dAnd, dOr, dNot, dBV, dIf, dChain_ev, chK_bl, daNil, daCons, dTup, dLst, dIx, doNone, doSome, dSl, dFn, diVal, diRng, dCall, dRet, dRetN, dExpr, dIfS_ev, dAsg, gSet, gUn, gsNil, gsCons, itemsOf, dNext, dBreak, dCont, dRaise, dxC, dxE, dTold_ev, toldR_ok, toldR_exn, toldR_ite, dMeth, dFld, List.lookup, dSetF, putN, dPar, dPar3, vNeg, vSub_int, vAdd_int, vEq_int, vNe_int, vLt_int, vGt_int, vLe_int, vGe_int, vIx_lst, vIx_tup, atI_int, vSl_tup, vSl_lst, cutL_toI, cutL_fromI, cutL_midI, cutL_all, oLen, seqOf, oInt, oAbs, oMax2, oMin2, oTuple, oList, vIsN_non, vIsN_str, vIsN_int, vIsN_tup, vIsN_lst, dBm, tStr, tTup, tLst, dCat, lstOf, dListO, dLstO, dBmW, dTupRev, walkOf, dAndV_ev, andK_bl, dOrV_ev, orK_bl, Int.ofNat_inj, q, q'])
  unfold rgL at hr
  have hm : ¬ (if (b : Int) < (if (s : Int) < (a : Int) then (s : Int) else (a : Int)) then (b : Int) else (if (s : Int) < (a : Int) then (s : Int) else (a : Int))) < 0 := by
    split <;> split <;> omega
  unfold M_steady_to D_steady_to
  cases hq : (List.range s).find? (stP a b) with
  | none =>
    rw [hq] at key
    obtain ⟨e', ⟨z, rfl⟩, key⟩ := key
    simp only [Int.zero_add] at hr key
    simp [dSeq_ev, seqR_nx, seqR_rt, seqR_ct, seqR_bk, seqR_ex, seqR_ite, runF_ev, resR_nx, resR_rt, resR_ex, resR_ite, startE, wp_nxK, wp_rtK, wp_ctK, wp_bkK, wp_exK, wp_nxP, wp_rtP, wp_ite, R.bind_ok, R.bind_exn, sb_ok, sb_exn, opt_some, opt_ite, bind_ite, sb_ite, dC, dVar, dPk, Fv.toVl, dBin, dUn, dTest, vTru, dTB_ev, tbK_bl, dAnd, dOr, dNot, dBV, dIf, dChain_ev, chK_bl, daNil, daCons, dTup, dLst, dIx, doNone, doSome, dSl, dFn, diVal, diRng, dCall, dRet, dRetN, dExpr, dIfS_ev, dAsg, gSet, gUn, gsNil, gsCons, itemsOf, dNext, dBreak, dCont, dRaise, dxC, dxE, dTold_ev, toldR_ok, toldR_exn, toldR_ite, dMeth, dFld, List.lookup, dSetF, putN, dPar, dPar3, vNeg, vSub_int, vAdd_int, vEq_int, vNe_int, vLt_int, vGt_int, vLe_int, vGe_int, vIx_lst, vIx_tup, atI_int, vSl_tup, vSl_lst, cutL_toI, cutL_fromI, cutL_midI, cutL_all, oLen, seqOf, oInt, oAbs, oMax2, oMin2, oTuple, oList, vIsN_non, vIsN_str, vIsN_int, vIsN_tup, vIsN_lst, dBm, tStr, tTup, tLst, dCat, lstOf, dListO, dLstO, dBmW, dTupRev, walkOf, dAndV_ev, andK_bl, dOrV_ev, orK_bl, Int.ofNat_inj, dFor, oMin3, hm, hr, key]
    split <;> split <;> omega
  | some k =>
    rw [hq] at key
    simp only [Int.zero_add] at hr key
    simp [dSeq_ev, seqR_nx, seqR_rt, seqR_ct, seqR_bk, seqR_ex, seqR_ite, runF_ev, resR_nx, resR_rt, resR_ex, resR_ite, startE, wp_nxK, wp_rtK, wp_ctK, wp_bkK, wp_exK, wp_nxP, wp_rtP, wp_ite, R.bind_ok, R.bind_exn, sb_ok, sb_exn, opt_some, opt_ite, bind_ite, sb_ite, dC, dVar, dPk, Fv.toVl, dBin, dUn, dTest, vTru, dTB_ev, tbK_bl, dAnd, dOr, dNot, dBV, dIf, dChain_ev, chK_bl, daNil, daCons, dTup, dLst, dIx, doNone, doSome, dSl, dFn, diVal, diRng, dCall, dRet, dRetN, dExpr, dIfS_ev, dAsg, gSet, gUn, gsNil, gsCons, itemsOf, dNext, dBreak, dCont, dRaise, dxC, dxE, dTold_ev, toldR_ok, toldR_exn, toldR_ite, dMeth, dFld, List.lookup, dSetF, putN, dPar, dPar3, vNeg, vSub_int, vAdd_int, vEq_int, vNe_int, vLt_int, vGt_int, vLe_int, vGe_int, vIx_lst, vIx_tup, atI_int, vSl_tup, vSl_lst, cutL_toI, cutL_fromI, cutL_midI, cutL_all, oLen, seqOf, oInt, oAbs, oMax2, oMin2, oTuple, oList, vIsN_non, vIsN_str, vIsN_int, vIsN_tup, vIsN_lst, dBm, tStr, tTup, tLst, dCat, lstOf, dListO, dLstO, dBmW, dTupRev, walkOf, dAndV_ev, andK_bl, dOrV_ev, orK_bl, Int.ofNat_inj, dFor, oMin3, hm, hr, key]
    split <;> split <;> omega
theorem head_filter {α : Type} (p : α → Bool) (l : List α) : (l.filter p).head? = l.find? p := by
  induction l with
  | nil => rfl
  | cons a l ih =>
    by_cases h : p a = true
    · simp [h]
    · simp [h, ih]
theorem steady_ok (x1 x5 x7 x8 x9 x10 x18 x19 : Option Fv) (G : Gst) (P : SR → Prop) (a s b : Nat) (hs : s ≤ 1000) (k : ∀ z11, Wp (T1_15__law_rest1 (e13 x0 x2 x3 x4 x6 x16 x17 x1 x5 x7 x8 x9 x10 z11 x18 x19 a s b) G) P) :
    Wp (T1_13__law_rest1 (e13 x0 x2 x3 x4 x6 x16 x17 x1 x5 x7 x8 x9 x10 none x18 x19 a s b) G) P := by
  unfold T1_13__law_rest1
  have hr := rng1_nat s (by omega)
  have m2 : ∀ j : Int, vMul (.int 2) (.int j) = _ := vMul_l (by omega)
  refine wp_asg (x := .lst (((List.range s).filter (stP a b)).map fun k : Nat => .int (0 + (k : Nat)))) (G1 := G) ?_ rfl ?_
  · unfold C8__law_rest1
    rw [dLc_tm (List.range s) (fun k : Nat => .int (0 + (k : Nat))) (stP a b) (fun k : Nat => .int (0 + (k : Nat))) (G1 := G)]
    · simp [dSeq_ev, seqR_nx, seqR_rt, seqR_ct, seqR_bk, seqR_ex, seqR_ite, runF_ev, resR_nx, resR_rt, resR_ex, resR_ite, startE, wp_nxK, wp_rtK, wp_ctK, wp_bkK, wp_exK, wp_nxP, wp_rtP, wp_ite, R.bind_ok, R.bind_exn, sb_ok, sb_exn, opt_some, opt_ite, bind_ite, sb_ite, dC, dVar, dPk, Fv.toVl, dBin, dUn, dTest, vTru, dTB_ev, tbK_bl, dAnd, dOr, dNot, dBV, dIf, dChain_ev, chK_bl, daNil, daCons, dTup, dLst, dIx, doNone, doSome, dSl, dFn, diVal, diRng, dCall, dRet, dRetN, dExpr, dIfS_ev, dAsg, gSet, gUn, gsNil, gsCons, itemsOf, dNext, dBreak, dCont, dRaise, dxC, dxE, dTold_ev, toldR_ok, toldR_exn, toldR_ite, dMeth, dFld, List.lookup, dSetF, putN, dPar, dPar3, vNeg, vSub_int, vAdd_int, vEq_int, vNe_int, vLt_int, vGt_int, vLe_int, vGe_int, vIx_lst, vIx_tup, atI_int, vSl_tup, vSl_lst, cutL_toI, cutL_fromI, cutL_midI, cutL_all, oLen, seqOf, oInt, oAbs, oMax2, oMin2, oTuple, oList, vIsN_non, vIsN_str, vIsN_int, vIsN_tup, vIsN_lst, dBm, tStr, tTup, tLst, dCat, lstOf, dListO, dLstO, dBmW, dTupRev, walkOf, dAndV_ev, andK_bl, dOrV_ev, orK_bl, Int.ofNat_inj, hr, rgL]
    · intro k _
      refine ⟨_, rfl, ?_, fun _ => by simp [dSeq_ev, seqR_nx, seqR_rt, seqR_ct, seqR_bk, seqR_ex, seqR_ite, runF_ev, resR_nx, resR_rt, resR_ex, resR_ite, startE, wp_nxK, wp_rtK, wp_ctK, wp_bkK, wp_exK, wp_nxP, wp_rtP, wp_ite, R.bind_ok, R.bind_exn, sb_ok, sb_exn, opt_some, opt_ite, bind_ite, sb_ite, dC, dVar, dPk, Fv.toVl, dBin, dUn, dTest, vTru, dTB_ev, tbK_bl, dAnd, dOr, dNot, dBV, dIf, dChain_ev, chK_bl, daNil, daCons, dTup, dLst, dIx, doNone, doSome, dSl, dFn, diVal, diRng, dCall, dRet, dRetN, dExpr, dIfS_ev, dAsg, gSet, gUn, gsNil, gsCons, itemsOf, dNext, dBreak, dCont, dRaise, dxC, dxE, dTold_ev, toldR_ok, toldR_exn, toldR_ite, dMeth, dFld, List.lookup, dSetF, putN, dPar, dPar3, vNeg, vSub_int, vAdd_int, vEq_int, vNe_int, vLt_int, vGt_int, vLe_int, vGe_int, vIx_lst, vIx_tup, atI_int, vSl_tup, vSl_lst, cutL_toI, cutL_fromI, cutL_midI, cutL_all, oLen, seqOf, oInt, oAbs, oMax2, oMin2, oTuple, oList, vIsN_non, vIsN_str, vIsN_int, vIsN_tup, vIsN_lst, dBm, tStr, tTup, tLst, dCat, lstOf, dListO, dLstO, dBmW, dTupRev, walkOf, dAndV_ev, andK_bl, dOrV_ev, orK_bl, Int.ofNat_inj, wipeE]⟩
      unfold stP
      simp [dSeq_ev, seqR_nx, seqR_rt, seqR_ct, seqR_bk, seqR_ex, seqR_ite, runF_ev, resR_nx, resR_rt, resR_ex, resR_ite, startE, wp_nxK, wp_rtK, wp_ctK, wp_bkK, wp_exK, wp_nxP, wp_rtP, wp_ite, R.bind_ok, R.bind_exn, sb_ok, sb_exn, opt_some, opt_ite, bind_ite, sb_ite, dC, dVar, dPk, Fv.toVl, dBin, dUn, dTest, vTru, dTB_ev, tbK_bl, dAnd, dOr, dNot, dBV, dIf, dChain_ev, chK_bl, daNil, daCons, dTup, dLst, dIx, doNone, doSome, dSl, dFn, diVal, diRng, dCall, dRet, dRetN, dExpr, dIfS_ev, dAsg, gSet, gUn, gsNil, gsCons, itemsOf, dNext, dBreak, dCont, dRaise, dxC, dxE, dTold_ev, toldR_ok, toldR_exn, toldR_ite, dMeth, dFld, List.lookup, dSetF, putN, dPar, dPar3, vNeg, vSub_int, vAdd_int, vEq_int, vNe_int, vLt_int, vGt_int, vLe_int, vGe_int, vIx_lst, vIx_tup, atI_int, vSl_tup, vSl_lst, cutL_toI, cutL_fromI, cutL_midI, cutL_all, oLen, seqOf, oInt, oAbs, oMax2, oMin2, oTuple, oList, vIsN_non, vIsN_str, vIsN_int, vIsN_tup, vIsN_lst, dBm, tStr, tTup, tLst, dCat, lstOf, dListO, dLstO, dBmW, dTupRev, walkOf, dAndV_ev, andK_bl, dOrV_ev, orK_bl, Int.ofNat_inj, wipeE, m2]
    · simp; omega
  · simp only [List.set_cons_succ, List.set_cons_zero]
    unfold T1_14__law_rest1
    refine wp_chk (G1 := G) ?_ (k _)
    have hst := steady G a s b hs
    have hf := head_filter (stP a b) (List.range s)
    have hle : ((List.range s).filter (stP a b)).length ≤ s := by simpa using List.length_filter_le (stP a b) (List.range s)
    cases hq : (List.range s).filter (stP a b) with
    | nil =>
      rw [hq] at hf
      simp only [List.head?_nil] at hf
      rw [← hf] at hst
      simp [dSeq_ev, seqR_nx, seqR_rt, seqR_ct, seqR_bk, seqR_ex, seqR_ite, runF_ev, resR_nx, resR_rt, resR_ex, resR_ite, startE, wp_nxK, wp_rtK, wp_ctK, wp_bkK, wp_exK, wp_nxP, wp_rtP, wp_ite, R.bind_ok, R.bind_exn, sb_ok, sb_exn, opt_some, opt_ite, bind_ite, sb_ite, dC, dVar, dPk, Fv.toVl, dBin, dUn, dTest, vTru, dTB_ev, tbK_bl, dAnd, dOr, dNot, dBV, dIf, dChain_ev, chK_bl, daNil, daCons, dTup, dLst, dIx, doNone, doSome, dSl, dFn, diVal, diRng, dCall, dRet, dRetN, dExpr, dIfS_ev, dAsg, gSet, gUn, gsNil, gsCons, itemsOf, dNext, dBreak, dCont, dRaise, dxC, dxE, dTold_ev, toldR_ok, toldR_exn, toldR_ite, dMeth, dFld, List.lookup, dSetF, putN, dPar, dPar3, vNeg, vSub_int, vAdd_int, vEq_int, vNe_int, vLt_int, vGt_int, vLe_int, vGe_int, vIx_lst, vIx_tup, atI_int, vSl_tup, vSl_lst, cutL_toI, cutL_fromI, cutL_midI, cutL_all, oLen, seqOf, oInt, oAbs, oMax2, oMin2, oTuple, oList, vIsN_non, vIsN_str, vIsN_int, vIsN_tup, vIsN_lst, dBm, tStr, tTup, tLst, dCat, lstOf, dListO, dLstO, dBmW, dTupRev, walkOf, dAndV_ev, andK_bl, dOrV_ev, orK_bl, Int.ofNat_inj, hst, vAdd, atI_int]
    | cons j l =>
      rw [hq] at hf hle
      simp only [List.head?_cons] at hf
      rw [← hf] at hst
      simp only [List.length_cons] at hle
      have hl : l.length + 1 + 1 ≤ 16777216 := by omega
      simp [dSeq_ev, seqR_nx, seqR_rt, seqR_ct, seqR_bk, seqR_ex, seqR_ite, runF_ev, resR_nx, resR_rt, resR_ex, resR_ite, startE, wp_nxK, wp_rtK, wp_ctK, wp_bkK, wp_exK, wp_nxP, wp_rtP, wp_ite, R.bind_ok, R.bind_exn, sb_ok, sb_exn, opt_some, opt_ite, bind_ite, sb_ite, dC, dVar, dPk, Fv.toVl, dBin, dUn, dTest, vTru, dTB_ev, tbK_bl, dAnd, dOr, dNot, dBV, dIf, dChain_ev, chK_bl, daNil, daCons, dTup, dLst, dIx, doNone, doSome, dSl, dFn, diVal, diRng, dCall, dRet, dRetN, dExpr, dIfS_ev, dAsg, gSet, gUn, gsNil, gsCons, itemsOf, dNext, dBreak, dCont, dRaise, dxC, dxE, dTold_ev, toldR_ok, toldR_exn, toldR_ite, dMeth, dFld, List.lookup, dSetF, putN, dPar, dPar3, vNeg, vSub_int, vAdd_int, vEq_int, vNe_int, vLt_int, vGt_int, vLe_int, vGe_int, vIx_lst, vIx_tup, atI_int, vSl_tup, vSl_lst, cutL_toI, cutL_fromI, cutL_midI, cutL_all, oLen, seqOf, oInt, oAbs, oMax2, oMin2, oTuple, oList, vIsN_non, vIsN_str, vIsN_int, vIsN_tup, vIsN_lst, dBm, tStr, tTup, tLst, dCat, lstOf, dListO, dLstO, dBmW, dTupRev, walkOf, dAndV_ev, andK_bl, dOrV_ev, orK_bl, Int.ofNat_inj, hst, vAdd, atI_int, hl]
theorem cases_ok : M__law_cases1 [] [dO d, o, p] = .ok (.bl true) [dO d, o, p, .ins 0 []] := by kernel_rfl
end
end CardH
end
section
set_option maxHeartbeats 4000000
namespace CardH
open PySem PySem.Spec PyProof.Rows L2
/-! ### the best builder -/
def nts (l : List Nat) : Vl := .lst (l.map fun k : Nat => .int (k : Int))
def mxI (l : List Nat) : Int := (maxI (l.map fun k : Nat => (k : Int))).getD 0
def rowD (n : Str) (l : List Nat) : Vl := .tup [.int (0 - mxI l), .int (0 - (((l.map fun k : Nat => (k : Int)).count (mxI l) : Nat) : Int)), .str n]
theorem oMaxA_ints (G : Gst) (l : List Nat) (h : l ≠ []) : oMaxA G [nts l] = some (.int (mxI l)) := by
  have e := oMaxI_lst (G := G) (l := l.map fun k : Nat => (k : Int))
  rw [List.map_map] at e
  unfold oMaxA orF nts
  have e2 : oMaxI G [.lst (l.map fun k : Nat => Vl.int (k : Int))] = (maxI (l.map fun k : Nat => (k : Int))).map .int := e
  rw [e2]
  unfold mxI
  cases l with
  | nil => exact absurd rfl h
  | cons a l => rfl
theorem oLCnt_ints (G : Gst) (l : List Nat) (m : Int) : oLCnt G (nts l) [.int m] = some (.int (((l.map fun k : Nat => (k : Int)).count m : Nat) : Int)) := by
  have e := iList1_lst (G := G) (l := l.map fun k : Nat => (k : Int))
  rw [List.map_map] at e
  have e' : iList1 G [nts l] = some (l.map fun k : Nat => (k : Int)) := e
  unfold oLCnt
  dsimp only
  rw [e']; rfl
theorem ne_ints (l : List Nat) : vNe (nts l) (.lst []) = some (.bl (!l.isEmpty)) := by
  unfold nts
  rw [vNe_lst0 (gds_map _ _ _ fun _ => gd_int)]
  cases l <;> rfl
theorem len_nts (G : Gst) (l : List Nat) : oLen G [nts l] = some (.int (l.length : Nat)) := by
  show some (Vl.int ((l.map fun k : Nat => Vl.int (k : Int)).length : Nat)) = _
  rw [List.length_map]
abbrev Tri := List (Str × List Nat)
def trD (t : Tri) : Vl := .dct false (t.map fun q => (.str q.1, nts q.2))
def rowsD (t : Tri) : List Vl := (t.filter fun q => !q.2.isEmpty).map fun q => rowD q.1 q.2
theorem best (G : Gst) (t : Tri) (h : t.length ≤ 100) : M_best_builder [trD t] G = if (rowsD t).isEmpty = true then .exn { cls := 4 } G else match oMinA G [.lst (rowsD t)] with
    | some z => opt (vIx G z (.int 2)) G
    | none => .bad := by
  obtain ⟨e', h1, h2, z2, z3, h3⟩ := forL_foldN (g := gUn 2 (gsCons (gSet 2) (gsCons (gSet 3) gsNil))) (db := dIfS (dTB (dBin vGt (dFn oLen (daCons (dVar 3) daNil)) (dC (.int 0))))
    (dApp 1 (dTup (daCons (dBin vSub (dC (.int 0)) (dFn oMaxA (daCons (dVar 3) daNil))) (daCons (dBin vSub (dC (.int 0)) (dBm tLst oLCnt (dVar 3) (daCons (dFn oMaxA (daCons (dVar 3) daNil)) daNil))) (daCons (dVar 2) daNil)))))
    dNext) (fun q : Str × List Nat => Vl.stp [.str q.1, nts q.2]) (fun (k : List Vl) q => if (!q.2.isEmpty) = true then k ++ [rowD q.1 q.2] else k) (fun _ => G) t
    (fun k a e => a.length ≤ k ∧ ∃ z2 z3, e = [some (.val (trD t)), some (.ol a), z2, z3]) [] [some (.val (trD t)), some (.ol []), none, none] ⟨Nat.le_refl _, _, _, rfl⟩ (by
      rintro k ⟨n, l⟩ hq a e ⟨hl, z2, z3, rfl⟩
      have hk : k < t.length := (List.getElem?_eq_some_iff.mp hq).1
      refine ⟨_, rfl, [some (.val (trD t)), some (.ol (if (!l.isEmpty) = true then a ++ [rowD n l] else a)), some (.val (.str n)), some (.val (nts l))], .inl ?_, ?_, _, _, rfl⟩
      · have ha : a.length < 16777216 := by omega
        cases l with
        | nil =>
          have e3 := len_nts G []
          generalize hX : nts [] = X at *
          simp only [List.length_nil] at e3
          simp [dSeq_ev, seqR_nx, seqR_rt, seqR_ct, seqR_bk, seqR_ex, seqR_ite, runF_ev, resR_nx, resR_rt, resR_ex, resR_ite, startE, wp_nxK, wp_rtK, wp_ctK, wp_bkK, wp_exK, wp_nxP, wp_rtP, wp_ite, R.bind_ok, R.bind_exn, sb_ok, sb_exn, opt_some, opt_ite, bind_ite, sb_ite, dC, dVar, dPk, Fv.toVl, dBin, dUn, dTest, vTru, dTB_ev, tbK_bl, dAnd, dOr, dNot, dBV, dIf, dChain_ev, chK_bl, daNil, daCons, dTup, dLst, dIx, doNone, doSome, dSl, dFn, diVal, diRng, dCall, dRet, dRetN, dExpr, dIfS_ev, dAsg, gSet, gUn, gsNil, gsCons, itemsOf, dNext, dBreak, dCont, dRaise, dxC, dxE, dTold_ev, toldR_ok, toldR_exn, toldR_ite, dMeth, dFld, List.lookup, dSetF, putN, dPar, dPar3, vNeg, vSub_int, vAdd_int, vEq_int, vNe_int, vLt_int, vGt_int, vLe_int, vGe_int, vIx_lst, vIx_tup, atI_int, vSl_tup, vSl_lst, cutL_toI, cutL_fromI, cutL_midI, cutL_all, oLen, seqOf, oInt, oAbs, oMax2, oMin2, oTuple, oList, vIsN_non, vIsN_str, vIsN_int, vIsN_tup, vIsN_lst, dBm, tStr, tTup, tLst, dCat, lstOf, dListO, dLstO, dBmW, dTupRev, walkOf, dAndV_ev, andK_bl, dOrV_ev, orK_bl, Int.ofNat_inj, e3, -oLen]
        | cons x l =>
          have e1 := oMaxA_ints G (x :: l) (by simp)
          have e2 := oLCnt_ints G (x :: l) (mxI (x :: l))
          have e3 := len_nts G (x :: l)
          have e4 : seqOf G (nts (x :: l)) = some (false, (x :: l).map fun k : Nat => Vl.int (k : Int)) := rfl
          generalize hX : nts (x :: l) = X at *
          have e5 : (0 : Int) < (((x :: l).length : Nat) : Int) := by simp
          unfold rowD
          simp only [List.length_cons] at e3 e5
          simp [dSeq_ev, seqR_nx, seqR_rt, seqR_ct, seqR_bk, seqR_ex, seqR_ite, runF_ev, resR_nx, resR_rt, resR_ex, resR_ite, startE, wp_nxK, wp_rtK, wp_ctK, wp_bkK, wp_exK, wp_nxP, wp_rtP, wp_ite, R.bind_ok, R.bind_exn, sb_ok, sb_exn, opt_some, opt_ite, bind_ite, sb_ite, dC, dVar, dPk, Fv.toVl, dBin, dUn, dTest, vTru, dTB_ev, tbK_bl, dAnd, dOr, dNot, dBV, dIf, dChain_ev, chK_bl, daNil, daCons, dTup, dLst, dIx, doNone, doSome, dSl, dFn, diVal, diRng, dCall, dRet, dRetN, dExpr, dIfS_ev, dAsg, gSet, gUn, gsNil, gsCons, itemsOf, dNext, dBreak, dCont, dRaise, dxC, dxE, dTold_ev, toldR_ok, toldR_exn, toldR_ite, dMeth, dFld, List.lookup, dSetF, putN, dPar, dPar3, vNeg, vSub_int, vAdd_int, vEq_int, vNe_int, vLt_int, vGt_int, vLe_int, vGe_int, vIx_lst, vIx_tup, atI_int, vSl_tup, vSl_lst, cutL_toI, cutL_fromI, cutL_midI, cutL_all, oLen, seqOf, oInt, oAbs, oMax2, oMin2, oTuple, oList, vIsN_non, vIsN_str, vIsN_int, vIsN_tup, vIsN_lst, dBm, tStr, tTup, tLst, dCat, lstOf, dListO, dLstO, dBmW, dTupRev, walkOf, dAndV_ev, andK_bl, dOrV_ev, orK_bl, Int.ofNat_inj, e1, e2, e3, e4, e5, dApp, ha, -oLen, -seqOf, -List.map_cons, -Int.natCast_add]
      · by_cases hh : (!l.isEmpty) = true <;> simp [hh] <;> omega)
  have ef : ∀ (l : Tri) (acc : List Vl), l.foldl (fun (k : List Vl) q => if (!q.2.isEmpty) = true then k ++ [rowD q.1 q.2] else k) acc = acc ++ rowsD l := by
    intro l
    induction l with
    | nil => intro acc; simp [rowsD]
    | cons q l ih =>
      intro acc
      rw [List.foldl_cons, ih]
      unfold rowsD
      by_cases hh : (!q.2.isEmpty) = true
      · rw [if_pos hh, List.filter_cons_of_pos (p := fun q : Str × List Nat => !q.2.isEmpty) hh]; simp
      · rw [if_neg hh, List.filter_cons_of_neg (p := fun q : Str × List Nat => !q.2.isEmpty) hh]
  rw [ef, List.nil_append] at h3
  have hw : wkItems (trD t) G = some (t.map fun q : Str × List Nat => Vl.stp [.str q.1, nts q.2]) := by
    show some ((t.map fun q => (Vl.str q.1, nts q.2)).map fun q => Vl.stp [q.1, q.2]) = _
    rw [List.map_map]; rfl
  have hg : gds 59 (rowsD t) = true := gds_map _ _ _ fun _ => rfl
  have h0 := vEq_lst0 hg
  unfold M_best_builder D_best_builder
  generalize rowsD t = Rw at h3 h0 ⊢
  subst h3
  cases Rw with
  | nil => simp [dSeq_ev, seqR_nx, seqR_rt, seqR_ct, seqR_bk, seqR_ex, seqR_ite, runF_ev, resR_nx, resR_rt, resR_ex, resR_ite, startE, wp_nxK, wp_rtK, wp_ctK, wp_bkK, wp_exK, wp_nxP, wp_rtP, wp_ite, R.bind_ok, R.bind_exn, sb_ok, sb_exn, opt_some, opt_ite, bind_ite, sb_ite, dC, dVar, dPk, Fv.toVl, dBin, dUn, dTest, vTru, dTB_ev, tbK_bl, dAnd, dOr, dNot, dBV, dIf, dChain_ev, chK_bl, daNil, daCons, dTup, dLst, dIx, doNone, doSome, dSl, dFn, diVal, diRng, dCall, dRet, dRetN, dExpr, dIfS_ev, dAsg, gSet, gUn, gsNil, gsCons, itemsOf, dNext, dBreak, dCont, dRaise, dxC, dxE, dTold_ev, toldR_ok, toldR_exn, toldR_ite, dMeth, dFld, List.lookup, dSetF, putN, dPar, dPar3, vNeg, vSub_int, vAdd_int, vEq_int, vNe_int, vLt_int, vGt_int, vLe_int, vGe_int, vIx_lst, vIx_tup, atI_int, vSl_tup, vSl_lst, cutL_toI, cutL_fromI, cutL_midI, cutL_all, oLen, seqOf, oInt, oAbs, oMax2, oMin2, oTuple, oList, vIsN_non, vIsN_str, vIsN_int, vIsN_tup, vIsN_lst, dBm, tStr, tTup, tLst, dCat, lstOf, dListO, dLstO, dBmW, dTupRev, walkOf, dAndV_ev, andK_bl, dOrV_ev, orK_bl, Int.ofNat_inj, dOwnL, dFor, diItems, hw, h1, vEq_lst0, gd_str, gd_int, gd_bl, gd_non, gd_tup, gd_lst, gds_nil, gds_cons, gds_append, gds_str, gds_int, gds_take, gds_drop, gds_ints]
  | cons r Rw =>
    simp only [List.isEmpty_cons] at h0
    simp [dSeq_ev, seqR_nx, seqR_rt, seqR_ct, seqR_bk, seqR_ex, seqR_ite, runF_ev, resR_nx, resR_rt, resR_ex, resR_ite, startE, wp_nxK, wp_rtK, wp_ctK, wp_bkK, wp_exK, wp_nxP, wp_rtP, wp_ite, R.bind_ok, R.bind_exn, sb_ok, sb_exn, opt_some, opt_ite, bind_ite, sb_ite, dC, dVar, dPk, Fv.toVl, dBin, dUn, dTest, vTru, dTB_ev, tbK_bl, dAnd, dOr, dNot, dBV, dIf, dChain_ev, chK_bl, daNil, daCons, dTup, dLst, dIx, doNone, doSome, dSl, dFn, diVal, diRng, dCall, dRet, dRetN, dExpr, dIfS_ev, dAsg, gSet, gUn, gsNil, gsCons, itemsOf, dNext, dBreak, dCont, dRaise, dxC, dxE, dTold_ev, toldR_ok, toldR_exn, toldR_ite, dMeth, dFld, List.lookup, dSetF, putN, dPar, dPar3, vNeg, vSub_int, vAdd_int, vEq_int, vNe_int, vLt_int, vGt_int, vLe_int, vGe_int, vIx_lst, vIx_tup, atI_int, vSl_tup, vSl_lst, cutL_toI, cutL_fromI, cutL_midI, cutL_all, oLen, seqOf, oInt, oAbs, oMax2, oMin2, oTuple, oList, vIsN_non, vIsN_str, vIsN_int, vIsN_tup, vIsN_lst, dBm, tStr, tTup, tLst, dCat, lstOf, dListO, dLstO, dBmW, dTupRev, walkOf, dAndV_ev, andK_bl, dOrV_ev, orK_bl, Int.ofNat_inj, dOwnL, dFor, diItems, hw, h1, h0]
    generalize oMinA G [.lst (r :: Rw)] = o9
    cases o9 with
    | none => rfl
    | some z =>
      show resR (sb _ (opt (vIx G z (.int 2)) G) _) = opt (vIx G z (.int 2)) G
      generalize vIx G z (.int 2) = o8
      cases o8 <;> rfl
end CardH
end
section
set_option maxHeartbeats 4000000
namespace CardH
open PySem PySem.Spec PyProof.Rows L2
/-! ### the least of (number, number, name) -/
abbrev Tr3 := Int × Int × Str
def t3 (x : Tr3) : Vl := .tup [.int x.1, .int x.2.1, .str x.2.2]
def t3D (x : Tr3) : PyData := .tuple [.int x.1, .int x.2.1, .str x.2.2]
theorem pys_t3 : ∀ (l : List Tr3) (n : Nat), 0 < n → pys (l.map t3) n = some (l.map t3D)
  | [], _, _ => rfl
  | s :: l, n + 1, h => by
    rw [List.map_cons]
    unfold pys
    rw [pys_t3 l (n + 1) h]; rfl
theorem cns_t3 : ∀ l : List Tr3, cns 60 (l.map t3) = true
  | [] => rfl
  | s :: l => by
    rw [List.map_cons]
    unfold cns
    rw [cns_t3 l]; rfl
theorem alike_t3 (a b : Tr3) : PySem.W.alike (t3D a) (t3D b) = true := by
  simp [t3D, PySem.W.alike, PySem.W.alikeAll]
theorem mmOk_t3 (l : List Tr3) : mmOk (l.map t3) = true := by
  unfold mmOk
  rw [pys_t3 l 60 (by decide), cns_t3]
  simp only [Bool.and_eq_true, List.all_eq_true, List.mem_map, true_and]
  refine ⟨?_, ?_⟩
  · rintro d ⟨a, _, rfl⟩ e ⟨b, _, rfl⟩
    exact alike_t3 a b
  · rintro d ⟨a, _, rfl⟩
    rfl
theorem pick_mem {α : Type} (c : α → α → Bool) : ∀ (ys : List α) (y : α), ys.foldl (fun a z => if c z a = true then z else a) y ∈ y :: ys
  | [], y => by simp
  | z :: ys, y => by
    rw [List.foldl_cons]
    have h := pick_mem c ys (if c z y = true then z else y)
    rw [List.mem_cons] at h
    rcases h with h | h
    · rw [h]
      by_cases q : c z y = true <;> simp [q]
    · simp [h]
theorem oMinA_t3 (G : Gst) (l : List Tr3) (h : l ≠ []) : ∃ x ∈ l, oMinA G [.lst (l.map t3)] = some (t3 x) := by
  cases l with
  | nil => exact absurd rfl h
  | cons y ys =>
    have h1 : oMinI G [.lst ((y :: ys).map t3)] = none := rfl
    have h2 : minV (t3 y) (ys.map t3) ∈ t3 y :: ys.map t3 := pick_mem (fun z a => PySem.W.dataLt (pyD z) (pyD a)) _ _
    rw [← List.map_cons, List.mem_map] at h2
    obtain ⟨x, hx, h2⟩ := h2
    refine ⟨x, hx, ?_⟩
    unfold oMinA orF
    rw [h1]
    show (if mmOk ((y :: ys).map t3) = true then some (minV (t3 y) (ys.map t3)) else none) = _
    rw [if_pos (mmOk_t3 _), h2]
theorem best_told (G : Gst) (t : Tri) (h : t.length ≤ 100) : ∃ n : Str, toldR toldF (M_best_builder [trD t] G) = .ok (.str n) G ∧ ((rowsD t = [] ∧ n = "no way") ∨ (rowsD t ≠ [] ∧ ∃ z, oMinA G [.lst (rowsD t)] = some z ∧ vIx G z (.int 2) = some (.str n))) := by
  have hb := best G t h
  have hr : rowsD t = ((t.filter fun q => !q.2.isEmpty).map fun q : Str × List Nat => ((0 - mxI q.2, 0 - (((q.2.map fun k : Nat => (k : Int)).count (mxI q.2) : Nat) : Int), q.1) : Tr3)).map t3 := by
    rw [List.map_map]; rfl
  generalize ((t.filter fun q => !q.2.isEmpty).map fun q : Str × List Nat => ((0 - mxI q.2, 0 - (((q.2.map fun k : Nat => (k : Int)).count (mxI q.2) : Nat) : Int), q.1) : Tr3)) = l at hr
  by_cases hl : l = []
  · subst hl
    rw [hr] at hb ⊢
    refine ⟨"no way", ?_, .inl ⟨rfl, rfl⟩⟩
    rw [hb]; rfl
  · obtain ⟨x, _, hx⟩ := oMinA_t3 G l hl
    have he : (rowsD t).isEmpty = false := by
      rw [hr]
      cases l with
      | nil => exact absurd rfl hl
      | cons a l => rfl
    rw [hr] at he
    have hv : vIx G (t3 x) (.int 2) = some (.str x.2.2) := rfl
    rw [hr] at hb ⊢
    refine ⟨x.2.2, ?_, .inr ⟨by simpa using hl, t3 x, hx, hv⟩⟩
    rw [hb, he, hx]
    dsimp only
    rw [hv]; rfl
/-! ### the tries -/
def n3 (a b c : List Nat) : Tri := [("ann", a), ("bo", b), ("cy", c)]
section
variable (x0 x1 x2 x3 x4 x5 x6 x7 x8 x9 x10 x11 x12 x13 x14 x15 x16 x17 x18 x19 x20 x21 x22 x23 x24 x25 x26 x27 : Option Fv)
theorem c9 (T : Gst) (d : D3) (hT : T.length ≤ 100) : ∃ (ks : List Nat) (d' : D3), C9__law_rest1 [some (.val (.ref 0)), x1, x2, x3, x4, x5, x6, x7, x8, x9, x10, x11, x12, x13, x14, x15, x16, x17, x18, x19, x20, x21, x22, x23, x24, x25, x26, x27] (dO d :: T) = .ok (nts ks) (dO d' :: T) := by
  generalize hX : C9__law_rest1 _ _ = X
  unfold C9__law_rest1 at hX
  have h4 := rv_lt (m := 4) d (by decide)
  obtain ⟨ks, d4, e1, e2, rfl⟩ := dLc_rolls hX T 6 (by decide) (fun k => .int (k : Nat)) (rgL 0 (rv 4 d)) (rd 4 d) (by simp [seqR_nx, seqR_rt, seqR_ct, seqR_bk, seqR_ex, seqR_ite, runF_ev, resR_nx, resR_rt, resR_ex, resR_ite, startE, wp_nxK, wp_rtK, wp_ctK, wp_bkK, wp_exK, wp_nxP, wp_rtP, wp_ite, R.bind_ok, R.bind_exn, sb_ok, sb_exn, opt_some, opt_ite, bind_ite, sb_ite, dC, dVar, dPk, Fv.toVl, dBin, dUn, dTest, vTru, dTB_ev, tbK_bl, dAnd, dOr, dNot, dBV, dIf, dChain_ev, chK_bl, daNil, daCons, dTup, dLst, dIx, doNone, doSome, dSl, dFn, diVal, diRng, dCall, dRet, dRetN, dExpr, dIfS_ev, dAsg, gSet, gUn, gsNil, gsCons, itemsOf, dNext, dBreak, dCont, dRaise, dxC, dxE, dTold_ev, toldR_ok, toldR_exn, toldR_ite, dMeth, dFld, List.lookup, dSetF, putN, dPar, dPar3, vNeg, vSub_int, vAdd_int, vEq_int, vNe_int, vLt_int, vGt_int, vLe_int, vGe_int, vIx_lst, vIx_tup, atI_int, vSl_tup, vSl_lst, cutL_toI, cutL_fromI, cutL_midI, cutL_all, oLen, seqOf, oInt, oAbs, oMax2, oMin2, oTuple, oList, vIsN_non, vIsN_str, vIsN_int, vIsN_tup, vIsN_lst, dBm, tStr, tTup, tLst, dCat, lstOf, dListO, dLstO, dBmW, dTupRev, walkOf, dAndV_ev, andK_bl, dOrV_ev, orK_bl, Int.ofNat_inj, roll0, rng1_nat (rv 4 d) (by omega)])
    (fun a ha => ⟨_, rfl, fun d => by simp [seqR_nx, seqR_rt, seqR_ct, seqR_bk, seqR_ex, seqR_ite, runF_ev, resR_nx, resR_rt, resR_ex, resR_ite, startE, wp_nxK, wp_rtK, wp_ctK, wp_bkK, wp_exK, wp_nxP, wp_rtP, wp_ite, R.bind_ok, R.bind_exn, sb_ok, sb_exn, opt_some, opt_ite, bind_ite, sb_ite, dC, dVar, dPk, Fv.toVl, dBin, dUn, dTest, vTru, dTB_ev, tbK_bl, dAnd, dOr, dNot, dBV, dIf, dChain_ev, chK_bl, daNil, daCons, dTup, dLst, dIx, doNone, doSome, dSl, dFn, diVal, diRng, dCall, dRet, dRetN, dExpr, dIfS_ev, dAsg, gSet, gUn, gsNil, gsCons, itemsOf, dNext, dBreak, dCont, dRaise, dxC, dxE, dTold_ev, toldR_ok, toldR_exn, toldR_ite, dMeth, dFld, List.lookup, dSetF, putN, dPar, dPar3, vNeg, vSub_int, vAdd_int, vEq_int, vNe_int, vLt_int, vGt_int, vLe_int, vGe_int, vIx_lst, vIx_tup, atI_int, vSl_tup, vSl_lst, cutL_toI, cutL_fromI, cutL_midI, cutL_all, oLen, seqOf, oInt, oAbs, oMax2, oMin2, oTuple, oList, vIsN_non, vIsN_str, vIsN_int, vIsN_tup, vIsN_lst, dBm, tStr, tTup, tLst, dCat, lstOf, dListO, dLstO, dBmW, dTupRev, walkOf, dAndV_ev, andK_bl, dOrV_ev, orK_bl, Int.ofNat_inj, wipeE, roll0]⟩) (by simp [rgL]; omega)
  exact ⟨ks, d4, rfl⟩
theorem c10 (T : Gst) (d : D3) (hT : T.length ≤ 100) : ∃ (a b c : List Nat) (d' : D3), C10__law_rest1 [some (.val (.ref 0)), x1, x2, x3, x4, x5, x6, x7, x8, x9, x10, x11, x12, x13, x14, x15, x16, x17, x18, x19, x20, x21, x22, x23, x24, x25, x26, x27] (dO d :: T) =
    .ok (.lst ((n3 a b c).map fun q => Vl.tup [.str q.1, nts q.2])) (dO d' :: T) := by
  obtain ⟨a, d1, e1⟩ := c9 x1 x2 x3 x4 x5 x6 x7 x8 x9 x10 x11 x12 x13 x14 x15 x16 x17 x18 x19 x20 x21 x22 x23 (some (.val (.str "ann"))) x25 x26 x27 T d hT
  obtain ⟨b, d2, e2⟩ := c9 x1 x2 x3 x4 x5 x6 x7 x8 x9 x10 x11 x12 x13 x14 x15 x16 x17 x18 x19 x20 x21 x22 x23 (some (.val (.str "bo"))) x25 x26 x27 T d1 hT
  obtain ⟨c, d3, e3⟩ := c9 x1 x2 x3 x4 x5 x6 x7 x8 x9 x10 x11 x12 x13 x14 x15 x16 x17 x18 x19 x20 x21 x22 x23 (some (.val (.str "cy"))) x25 x26 x27 T d2 hT
  refine ⟨a, b, c, d3, ?_⟩
  unfold C10__law_rest1 dLc
  simp [seqR_nx, seqR_rt, seqR_ct, seqR_bk, seqR_ex, seqR_ite, runF_ev, resR_nx, resR_rt, resR_ex, resR_ite, startE, wp_nxK, wp_rtK, wp_ctK, wp_bkK, wp_exK, wp_nxP, wp_rtP, wp_ite, R.bind_ok, R.bind_exn, sb_ok, sb_exn, opt_some, opt_ite, bind_ite, sb_ite, dC, dVar, dPk, Fv.toVl, dBin, dUn, dTest, vTru, dTB_ev, tbK_bl, dAnd, dOr, dNot, dBV, dIf, dChain_ev, chK_bl, daNil, daCons, dTup, dLst, dIx, doNone, doSome, dSl, dFn, diVal, diRng, dCall, dRet, dRetN, dExpr, dIfS_ev, dAsg, gSet, gUn, gsNil, gsCons, itemsOf, dNext, dBreak, dCont, dRaise, dxC, dxE, dTold_ev, toldR_ok, toldR_exn, toldR_ite, dMeth, dFld, List.lookup, dSetF, putN, dPar, dPar3, vNeg, vSub_int, vAdd_int, vEq_int, vNe_int, vLt_int, vGt_int, vLe_int, vGe_int, vIx_lst, vIx_tup, atI_int, vSl_tup, vSl_lst, cutL_toI, cutL_fromI, cutL_midI, cutL_all, oLen, seqOf, oInt, oAbs, oMax2, oMin2, oTuple, oList, vIsN_non, vIsN_str, vIsN_int, vIsN_tup, vIsN_lst, dBm, tStr, tTup, tLst, dCat, lstOf, dListO, dLstO, dBmW, dTupRev, walkOf, dAndV_ev, andK_bl, dOrV_ev, orK_bl, Int.ofNat_inj, walkOf, wipeE, compL, dYes, e1, e2, e3, n3]
  rfl
theorem dict3 (G : Gst) (a b c : List Nat) : oPairs G [.lst ((n3 a b c).map fun q => Vl.tup [.str q.1, nts q.2])] = some ((n3 a b c).map fun q => (Vl.str q.1, nts q.2)) := by
  rw [oPairs_map _ (fun q : Str × List Nat => .str q.1) (fun q => nts q.2) _ fun _ _ => rfl, merge_new]
  · rfl
  · intro p hp
    obtain ⟨q, _, rfl⟩ := List.mem_map.mp hp
    rfl
  · simp [n3, keysK, keyOf]
    exact ⟨⟨by decide, by decide⟩, by decide⟩
end

theorem tr_ix (G : Gst) (a b c : List Nat) (q : Str × List Nat) (h : q ∈ n3 a b c) : vIx G (trD (n3 a b c)) (.str q.1) = some (nts q.2) := by
  simp only [n3, List.mem_cons, List.not_mem_nil, or_false] at h
  rcases h with rfl | rfl | rfl <;> rfl
section
variable (x1 x2 x3 x4 x5 x6 x7 x8 x9 x10 x11 x16 x17 x18 x19 x20 x21 x22 : Option Fv)
abbrev e15 (x12 x13 x14 x15 : Option Fv) : LEnv := [some (.val (.ref 0)), x1, x2, x3, x4, x5, x6, x7, x8, x9, x10, x11, x12, x13, x14, x15, x16, x17, x18, x19, x20, x21, x22, none, none, none, none, none]
theorem c11 (G : Gst) (a b c : List Nat) : C11__law_rest1 (e15 x1 x2 x3 x4 x5 x6 x7 x8 x9 x10 x11 x16 x17 x18 x19 x20 x21 x22 (some (.val (trD (n3 a b c)))) none none none) G = .ok (.lst (rowsD (n3 a b c))) G := by
  have hk : wkKeys (trD (n3 a b c)) G = some ((n3 a b c).map fun q => Vl.str q.1) := rfl
  have hix := tr_ix G a b c
  have hl : (n3 a b c).length ≤ 16777216 := by simp [n3]
  unfold C11__law_rest1 rowsD
  generalize n3 a b c = t at hk hix hl ⊢
  generalize trD t = D at hk hix ⊢
  rw [dLc_tm t (fun q => Vl.str q.1) (fun q => !q.2.isEmpty) (fun q => rowD q.1 q.2) (G1 := G)]
  · simp [dSeq_ev, seqR_nx, seqR_rt, seqR_ct, seqR_bk, seqR_ex, seqR_ite, runF_ev, resR_nx, resR_rt, resR_ex, resR_ite, startE, wp_nxK, wp_rtK, wp_ctK, wp_bkK, wp_exK, wp_nxP, wp_rtP, wp_ite, R.bind_ok, R.bind_exn, sb_ok, sb_exn, opt_some, opt_ite, bind_ite, sb_ite, dC, dVar, dPk, Fv.toVl, dBin, dUn, dTest, vTru, dTB_ev, tbK_bl, dAnd, dOr, dNot, dBV, dIf, dChain_ev, chK_bl, daNil, daCons, dTup, dLst, dIx, doNone, doSome, dSl, dFn, diVal, diRng, dCall, dRet, dRetN, dExpr, dIfS_ev, dAsg, gSet, gUn, gsNil, gsCons, itemsOf, dNext, dBreak, dCont, dRaise, dxC, dxE, dTold_ev, toldR_ok, toldR_exn, toldR_ite, dMeth, dFld, List.lookup, dSetF, putN, dPar, dPar3, vNeg, vSub_int, vAdd_int, vEq_int, vNe_int, vLt_int, vGt_int, vLe_int, vGe_int, vIx_lst, vIx_tup, atI_int, vSl_tup, vSl_lst, cutL_toI, cutL_fromI, cutL_midI, cutL_all, oLen, seqOf, oInt, oAbs, oMax2, oMin2, oTuple, oList, vIsN_non, vIsN_str, vIsN_int, vIsN_tup, vIsN_lst, dBm, tStr, tTup, tLst, dCat, lstOf, dListO, dLstO, dBmW, dTupRev, walkOf, dAndV_ev, andK_bl, dOrV_ev, orK_bl, Int.ofNat_inj, diKeys, hk]
  · rintro ⟨n, l⟩ hq
    have h1 := hix _ hq
    refine ⟨_, rfl, ?_, fun hn => ?_⟩
    · have h2 := ne_ints l
      generalize nts l = X at h1 h2
      simp [dSeq_ev, seqR_nx, seqR_rt, seqR_ct, seqR_bk, seqR_ex, seqR_ite, runF_ev, resR_nx, resR_rt, resR_ex, resR_ite, startE, wp_nxK, wp_rtK, wp_ctK, wp_bkK, wp_exK, wp_nxP, wp_rtP, wp_ite, R.bind_ok, R.bind_exn, sb_ok, sb_exn, opt_some, opt_ite, bind_ite, sb_ite, dC, dVar, dPk, Fv.toVl, dBin, dUn, dTest, vTru, dTB_ev, tbK_bl, dAnd, dOr, dNot, dBV, dIf, dChain_ev, chK_bl, daNil, daCons, dTup, dLst, dIx, doNone, doSome, dSl, dFn, diVal, diRng, dCall, dRet, dRetN, dExpr, dIfS_ev, dAsg, gSet, gUn, gsNil, gsCons, itemsOf, dNext, dBreak, dCont, dRaise, dxC, dxE, dTold_ev, toldR_ok, toldR_exn, toldR_ite, dMeth, dFld, List.lookup, dSetF, putN, dPar, dPar3, vNeg, vSub_int, vAdd_int, vEq_int, vNe_int, vLt_int, vGt_int, vLe_int, vGe_int, vIx_lst, vIx_tup, atI_int, vSl_tup, vSl_lst, cutL_toI, cutL_fromI, cutL_midI, cutL_all, oLen, seqOf, oInt, oAbs, oMax2, oMin2, oTuple, oList, vIsN_non, vIsN_str, vIsN_int, vIsN_tup, vIsN_lst, dBm, tStr, tTup, tLst, dCat, lstOf, dListO, dLstO, dBmW, dTupRev, walkOf, dAndV_ev, andK_bl, dOrV_ev, orK_bl, Int.ofNat_inj, wipeE, h1, h2, -vIx]
    · have hne : l ≠ [] := by
        intro h0
        subst h0
        exact absurd hn (by simp)
      have e1 := oMaxA_ints G l hne
      have e2 := oLCnt_ints G l (mxI l)
      have e4 : seqOf G (nts l) = some (false, l.map fun k : Nat => Vl.int (k : Int)) := rfl
      unfold rowD
      generalize nts l = X at *
      simp [dSeq_ev, seqR_nx, seqR_rt, seqR_ct, seqR_bk, seqR_ex, seqR_ite, runF_ev, resR_nx, resR_rt, resR_ex, resR_ite, startE, wp_nxK, wp_rtK, wp_ctK, wp_bkK, wp_exK, wp_nxP, wp_rtP, wp_ite, R.bind_ok, R.bind_exn, sb_ok, sb_exn, opt_some, opt_ite, bind_ite, sb_ite, dC, dVar, dPk, Fv.toVl, dBin, dUn, dTest, vTru, dTB_ev, tbK_bl, dAnd, dOr, dNot, dBV, dIf, dChain_ev, chK_bl, daNil, daCons, dTup, dLst, dIx, doNone, doSome, dSl, dFn, diVal, diRng, dCall, dRet, dRetN, dExpr, dIfS_ev, dAsg, gSet, gUn, gsNil, gsCons, itemsOf, dNext, dBreak, dCont, dRaise, dxC, dxE, dTold_ev, toldR_ok, toldR_exn, toldR_ite, dMeth, dFld, List.lookup, dSetF, putN, dPar, dPar3, vNeg, vSub_int, vAdd_int, vEq_int, vNe_int, vLt_int, vGt_int, vLe_int, vGe_int, vIx_lst, vIx_tup, atI_int, vSl_tup, vSl_lst, cutL_toI, cutL_fromI, cutL_midI, cutL_all, oLen, seqOf, oInt, oAbs, oMax2, oMin2, oTuple, oList, vIsN_non, vIsN_str, vIsN_int, vIsN_tup, vIsN_lst, dBm, tStr, tTup, tLst, dCat, lstOf, dListO, dLstO, dBmW, dTupRev, walkOf, dAndV_ev, andK_bl, dOrV_ev, orK_bl, Int.ofNat_inj, wipeE, h1, e1, e2, e4, -seqOf, -vIx]
  · exact hl
theorem tries_ok (T : Gst) (d : D3) (hT : T.length ≤ 100) (P : SR → Prop)
    (k : ∀ d' z12 z13, Wp (T1_18__law_rest1 (e15 x1 x2 x3 x4 x5 x6 x7 x8 x9 x10 x11 x16 x17 x18 x19 x20 x21 x22 z12 z13 none none) (dO d' :: T)) P) :
    Wp (T1_15__law_rest1 (e15 x1 x2 x3 x4 x5 x6 x7 x8 x9 x10 x11 x16 x17 x18 x19 x20 x21 x22 none none none none) (dO d :: T)) P := by
  obtain ⟨a, b, c, d1, h1⟩ := c10 x1 x2 x3 x4 x5 x6 x7 x8 x9 x10 x11 none none none none x16 x17 x18 x19 x20 x21 x22 none none none none none T d hT
  have h2 := dict3 (dO d1 :: T) a b c
  have h3 := c11 x1 x2 x3 x4 x5 x6 x7 x8 x9 x10 x11 x16 x17 x18 x19 x20 x21 x22 (dO d1 :: T) a b c
  obtain ⟨n, h4, h5⟩ := best_told (dO d1 :: T) (n3 a b c) (by simp [n3])
  have hg : gds 59 (rowsD (n3 a b c)) = true := gds_map _ _ _ fun _ => rfl
  have h6 := vNe_lst0 hg
  have ht : Vl.dct false ((n3 a b c).map fun q => (Vl.str q.1, nts q.2)) = trD (n3 a b c) := rfl
  rw [← ht] at h3 h4
  generalize ((n3 a b c).map fun q : Str × List Nat => (Vl.str q.1, nts q.2)) = M at h2 h3 h4
  generalize ((n3 a b c).map fun q : Str × List Nat => Vl.tup [.str q.1, nts q.2]) = L at h1 h2
  generalize rowsD (n3 a b c) = Rw at h3 h5 h6
  unfold T1_15__law_rest1
  refine wp_asg (x := .dct false M) (G1 := dO d1 :: T) (by simp [seqR_nx, seqR_rt, seqR_ct, seqR_bk, seqR_ex, seqR_ite, runF_ev, resR_nx, resR_rt, resR_ex, resR_ite, startE, wp_nxK, wp_rtK, wp_ctK, wp_bkK, wp_exK, wp_nxP, wp_rtP, wp_ite, R.bind_ok, R.bind_exn, sb_ok, sb_exn, opt_some, opt_ite, bind_ite, sb_ite, dC, dVar, dPk, Fv.toVl, dBin, dUn, dTest, vTru, dTB_ev, tbK_bl, dAnd, dOr, dNot, dBV, dIf, dChain_ev, chK_bl, daNil, daCons, dTup, dLst, dIx, doNone, doSome, dSl, dFn, diVal, diRng, dCall, dRet, dRetN, dExpr, dIfS_ev, dAsg, gSet, gUn, gsNil, gsCons, itemsOf, dNext, dBreak, dCont, dRaise, dxC, dxE, dTold_ev, toldR_ok, toldR_exn, toldR_ite, dMeth, dFld, List.lookup, dSetF, putN, dPar, dPar3, vNeg, vSub_int, vAdd_int, vEq_int, vNe_int, vLt_int, vGt_int, vLe_int, vGe_int, vIx_lst, vIx_tup, atI_int, vSl_tup, vSl_lst, cutL_toI, cutL_fromI, cutL_midI, cutL_all, oLen, seqOf, oInt, oAbs, oMax2, oMin2, oTuple, oList, vIsN_non, vIsN_str, vIsN_int, vIsN_tup, vIsN_lst, dBm, tStr, tTup, tLst, dCat, lstOf, dListO, dLstO, dBmW, dTupRev, walkOf, dAndV_ev, andK_bl, dOrV_ev, orK_bl, Int.ofNat_inj, dDictV, h1, h2]) rfl ?_
  simp only [List.set_cons_succ, List.set_cons_zero]
  unfold T1_16__law_rest1
  refine wp_asg (x := .lst Rw) (G1 := dO d1 :: T) h3 rfl ?_
  simp only [List.set_cons_succ, List.set_cons_zero]
  unfold T1_17__law_rest1
  refine wp_chk (G1 := dO d1 :: T) ?_ (k d1 _ _)
  rcases h5 with ⟨rfl, rfl⟩ | ⟨hn, z, hz, hv⟩
  · simp [dSeq_ev, seqR_nx, seqR_rt, seqR_ct, seqR_bk, seqR_ex, seqR_ite, runF_ev, resR_nx, resR_rt, resR_ex, resR_ite, startE, wp_nxK, wp_rtK, wp_ctK, wp_bkK, wp_exK, wp_nxP, wp_rtP, wp_ite, R.bind_ok, R.bind_exn, sb_ok, sb_exn, opt_some, opt_ite, bind_ite, sb_ite, dC, dVar, dPk, Fv.toVl, dBin, dUn, dTest, vTru, dTB_ev, tbK_bl, dAnd, dOr, dNot, dBV, dIf, dChain_ev, chK_bl, daNil, daCons, dTup, dLst, dIx, doNone, doSome, dSl, dFn, diVal, diRng, dCall, dRet, dRetN, dExpr, dIfS_ev, dAsg, gSet, gUn, gsNil, gsCons, itemsOf, dNext, dBreak, dCont, dRaise, dxC, dxE, dTold_ev, toldR_ok, toldR_exn, toldR_ite, dMeth, dFld, List.lookup, dSetF, putN, dPar, dPar3, vNeg, vSub_int, vAdd_int, vEq_int, vNe_int, vLt_int, vGt_int, vLe_int, vGe_int, vIx_lst, vIx_tup, atI_int, vSl_tup, vSl_lst, cutL_toI, cutL_fromI, cutL_midI, cutL_all, oLen, seqOf, oInt, oAbs, oMax2, oMin2, oTuple, oList, vIsN_non, vIsN_str, vIsN_int, vIsN_tup, vIsN_lst, dBm, tStr, tTup, tLst, dCat, lstOf, dListO, dLstO, dBmW, dTupRev, walkOf, dAndV_ev, andK_bl, dOrV_ev, orK_bl, Int.ofNat_inj, h4, h6, vNe_str]
  · have hn' : Rw.isEmpty = false := by
      cases Rw with
      | nil => exact absurd rfl hn
      | cons x y => rfl
    rw [hn'] at h6
    simp [dSeq_ev, seqR_nx, seqR_rt, seqR_ct, seqR_bk, seqR_ex, seqR_ite, runF_ev, resR_nx, resR_rt, resR_ex, resR_ite, startE, wp_nxK, wp_rtK, wp_ctK, wp_bkK, wp_exK, wp_nxP, wp_rtP, wp_ite, R.bind_ok, R.bind_exn, sb_ok, sb_exn, opt_some, opt_ite, bind_ite, sb_ite, dC, dVar, dPk, Fv.toVl, dBin, dUn, dTest, vTru, dTB_ev, tbK_bl, dAnd, dOr, dNot, dBV, dIf, dChain_ev, chK_bl, daNil, daCons, dTup, dLst, dIx, doNone, doSome, dSl, dFn, diVal, diRng, dCall, dRet, dRetN, dExpr, dIfS_ev, dAsg, gSet, gUn, gsNil, gsCons, itemsOf, dNext, dBreak, dCont, dRaise, dxC, dxE, dTold_ev, toldR_ok, toldR_exn, toldR_ite, dMeth, dFld, List.lookup, dSetF, putN, dPar, dPar3, vNeg, vSub_int, vAdd_int, vEq_int, vNe_int, vLt_int, vGt_int, vLe_int, vGe_int, vIx_lst, vIx_tup, atI_int, vSl_tup, vSl_lst, cutL_toI, cutL_fromI, cutL_midI, cutL_all, oLen, seqOf, oInt, oAbs, oMax2, oMin2, oTuple, oList, vIsN_non, vIsN_str, vIsN_int, vIsN_tup, vIsN_lst, dBm, tStr, tTup, tLst, dCat, lstOf, dListO, dLstO, dBmW, dTupRev, walkOf, dAndV_ev, andK_bl, dOrV_ev, orK_bl, Int.ofNat_inj, h4, h6, hz, hv, vNe_str]
end
end CardH
end
section
set_option maxHeartbeats 4000000
namespace CardH
open PySem PySem.Spec PyProof.Rows L2
section
variable (G : Gst) (x0 x1 x4 x5 x6 : Option Fv) (T F : List Sp2) (s p : Nat)
abbrev eA (x6 : Option Fv) : LEnv := [x0, x1, some (.val (.lst (T.map pr))), some (.val (.lst (F.map pr))), x4, x5, x6, none, none, none, none, none, none, none, none, none, some (.val (.int s)), some (.val (.int p)), none, none, none, none, none, none, none, none, none, none]
theorem c1_bears (hT : T.length ≤ 1000) : C1__law_rest1 (eA x0 x1 x4 x5 T F s p x6) G = .ok (.lst ((T.filter (bT s p)).map fun _ => .int 1)) G := by
  unfold C1__law_rest1
  rw [dLc_tm T pr (bT s p) (fun _ => .int 1) (G1 := G)]
  · simp [dSeq_ev, seqR_nx, seqR_rt, seqR_ct, seqR_bk, seqR_ex, seqR_ite, runF_ev, resR_nx, resR_rt, resR_ex, resR_ite, startE, wp_nxK, wp_rtK, wp_ctK, wp_bkK, wp_exK, wp_nxP, wp_rtP, wp_ite, R.bind_ok, R.bind_exn, sb_ok, sb_exn, opt_some, opt_ite, bind_ite, sb_ite, dC, dVar, dPk, Fv.toVl, dBin, dUn, dTest, vTru, dTB_ev, tbK_bl, dAnd, dOr, dNot, dBV, dIf, dChain_ev, chK_bl, daNil, daCons, dTup, dLst, dIx, doNone, doSome, dSl, dFn, diVal, diRng, dCall, dRet, dRetN, dExpr, dIfS_ev, dAsg, gSet, gUn, gsNil, gsCons, itemsOf, dNext, dBreak, dCont, dRaise, dxC, dxE, dTold_ev, toldR_ok, toldR_exn, toldR_ite, dMeth, dFld, List.lookup, dSetF, putN, dPar, dPar3, vNeg, vSub_int, vAdd_int, vEq_int, vNe_int, vLt_int, vGt_int, vLe_int, vGe_int, vIx_lst, vIx_tup, atI_int, vSl_tup, vSl_lst, cutL_toI, cutL_fromI, cutL_midI, cutL_all, oLen, seqOf, oInt, oAbs, oMax2, oMin2, oTuple, oList, vIsN_non, vIsN_str, vIsN_int, vIsN_tup, vIsN_lst, dBm, tStr, tTup, tLst, dCat, lstOf, dListO, dLstO, dBmW, dTupRev, walkOf, dAndV_ev, andK_bl, dOrV_ev, orK_bl, Int.ofNat_inj]
  · rintro ⟨a, b⟩ _
    refine ⟨_, gUn2 .., ?_, fun _ => by simp [dSeq_ev, seqR_nx, seqR_rt, seqR_ct, seqR_bk, seqR_ex, seqR_ite, runF_ev, resR_nx, resR_rt, resR_ex, resR_ite, startE, wp_nxK, wp_rtK, wp_ctK, wp_bkK, wp_exK, wp_nxP, wp_rtP, wp_ite, R.bind_ok, R.bind_exn, sb_ok, sb_exn, opt_some, opt_ite, bind_ite, sb_ite, dC, dVar, dPk, Fv.toVl, dBin, dUn, dTest, vTru, dTB_ev, tbK_bl, dAnd, dOr, dNot, dBV, dIf, dChain_ev, chK_bl, daNil, daCons, dTup, dLst, dIx, doNone, doSome, dSl, dFn, diVal, diRng, dCall, dRet, dRetN, dExpr, dIfS_ev, dAsg, gSet, gUn, gsNil, gsCons, itemsOf, dNext, dBreak, dCont, dRaise, dxC, dxE, dTold_ev, toldR_ok, toldR_exn, toldR_ite, dMeth, dFld, List.lookup, dSetF, putN, dPar, dPar3, vNeg, vSub_int, vAdd_int, vEq_int, vNe_int, vLt_int, vGt_int, vLe_int, vGe_int, vIx_lst, vIx_tup, atI_int, vSl_tup, vSl_lst, cutL_toI, cutL_fromI, cutL_midI, cutL_all, oLen, seqOf, oInt, oAbs, oMax2, oMin2, oTuple, oList, vIsN_non, vIsN_str, vIsN_int, vIsN_tup, vIsN_lst, dBm, tStr, tTup, tLst, dCat, lstOf, dListO, dLstO, dBmW, dTupRev, walkOf, dAndV_ev, andK_bl, dOrV_ev, orK_bl, Int.ofNat_inj, wipeE]⟩
    unfold bT
    by_cases q1 : s < a
    · by_cases q2 : (p : Int) - (a - s) ≤ b
      · have q2' : (p : Int) - a + s ≤ b := by omega
        by_cases q3 : b ≤ p <;> simp [dSeq_ev, seqR_nx, seqR_rt, seqR_ct, seqR_bk, seqR_ex, seqR_ite, runF_ev, resR_nx, resR_rt, resR_ex, resR_ite, startE, wp_nxK, wp_rtK, wp_ctK, wp_bkK, wp_exK, wp_nxP, wp_rtP, wp_ite, R.bind_ok, R.bind_exn, sb_ok, sb_exn, opt_some, opt_ite, bind_ite, sb_ite, dC, dVar, dPk, Fv.toVl, dBin, dUn, dTest, vTru, dTB_ev, tbK_bl, dAnd, dOr, dNot, dBV, dIf, dChain_ev, chK_bl, daNil, daCons, dTup, dLst, dIx, doNone, doSome, dSl, dFn, diVal, diRng, dCall, dRet, dRetN, dExpr, dIfS_ev, dAsg, gSet, gUn, gsNil, gsCons, itemsOf, dNext, dBreak, dCont, dRaise, dxC, dxE, dTold_ev, toldR_ok, toldR_exn, toldR_ite, dMeth, dFld, List.lookup, dSetF, putN, dPar, dPar3, vNeg, vSub_int, vAdd_int, vEq_int, vNe_int, vLt_int, vGt_int, vLe_int, vGe_int, vIx_lst, vIx_tup, atI_int, vSl_tup, vSl_lst, cutL_toI, cutL_fromI, cutL_midI, cutL_all, oLen, seqOf, oInt, oAbs, oMax2, oMin2, oTuple, oList, vIsN_non, vIsN_str, vIsN_int, vIsN_tup, vIsN_lst, dBm, tStr, tTup, tLst, dCat, lstOf, dListO, dLstO, dBmW, dTupRev, walkOf, dAndV_ev, andK_bl, dOrV_ev, orK_bl, Int.ofNat_inj, wipeE, q1, q2, q2', q3]
      · have q2' : ¬ (p : Int) - a + s ≤ b := by omega
        simp [dSeq_ev, seqR_nx, seqR_rt, seqR_ct, seqR_bk, seqR_ex, seqR_ite, runF_ev, resR_nx, resR_rt, resR_ex, resR_ite, startE, wp_nxK, wp_rtK, wp_ctK, wp_bkK, wp_exK, wp_nxP, wp_rtP, wp_ite, R.bind_ok, R.bind_exn, sb_ok, sb_exn, opt_some, opt_ite, bind_ite, sb_ite, dC, dVar, dPk, Fv.toVl, dBin, dUn, dTest, vTru, dTB_ev, tbK_bl, dAnd, dOr, dNot, dBV, dIf, dChain_ev, chK_bl, daNil, daCons, dTup, dLst, dIx, doNone, doSome, dSl, dFn, diVal, diRng, dCall, dRet, dRetN, dExpr, dIfS_ev, dAsg, gSet, gUn, gsNil, gsCons, itemsOf, dNext, dBreak, dCont, dRaise, dxC, dxE, dTold_ev, toldR_ok, toldR_exn, toldR_ite, dMeth, dFld, List.lookup, dSetF, putN, dPar, dPar3, vNeg, vSub_int, vAdd_int, vEq_int, vNe_int, vLt_int, vGt_int, vLe_int, vGe_int, vIx_lst, vIx_tup, atI_int, vSl_tup, vSl_lst, cutL_toI, cutL_fromI, cutL_midI, cutL_all, oLen, seqOf, oInt, oAbs, oMax2, oMin2, oTuple, oList, vIsN_non, vIsN_str, vIsN_int, vIsN_tup, vIsN_lst, dBm, tStr, tTup, tLst, dCat, lstOf, dListO, dLstO, dBmW, dTupRev, walkOf, dAndV_ev, andK_bl, dOrV_ev, orK_bl, Int.ofNat_inj, wipeE, q1, q2, q2']
    · simp [dSeq_ev, seqR_nx, seqR_rt, seqR_ct, seqR_bk, seqR_ex, seqR_ite, runF_ev, resR_nx, resR_rt, resR_ex, resR_ite, startE, wp_nxK, wp_rtK, wp_ctK, wp_bkK, wp_exK, wp_nxP, wp_rtP, wp_ite, R.bind_ok, R.bind_exn, sb_ok, sb_exn, opt_some, opt_ite, bind_ite, sb_ite, dC, dVar, dPk, Fv.toVl, dBin, dUn, dTest, vTru, dTB_ev, tbK_bl, dAnd, dOr, dNot, dBV, dIf, dChain_ev, chK_bl, daNil, daCons, dTup, dLst, dIx, doNone, doSome, dSl, dFn, diVal, diRng, dCall, dRet, dRetN, dExpr, dIfS_ev, dAsg, gSet, gUn, gsNil, gsCons, itemsOf, dNext, dBreak, dCont, dRaise, dxC, dxE, dTold_ev, toldR_ok, toldR_exn, toldR_ite, dMeth, dFld, List.lookup, dSetF, putN, dPar, dPar3, vNeg, vSub_int, vAdd_int, vEq_int, vNe_int, vLt_int, vGt_int, vLe_int, vGe_int, vIx_lst, vIx_tup, atI_int, vSl_tup, vSl_lst, cutL_toI, cutL_fromI, cutL_midI, cutL_all, oLen, seqOf, oInt, oAbs, oMax2, oMin2, oTuple, oList, vIsN_non, vIsN_str, vIsN_int, vIsN_tup, vIsN_lst, dBm, tStr, tTup, tLst, dCat, lstOf, dListO, dLstO, dBmW, dTupRev, walkOf, dAndV_ev, andK_bl, dOrV_ev, orK_bl, Int.ofNat_inj, wipeE, q1]
  · omega
theorem c2_bears (hF : F.length ≤ 1000) : C2__law_rest1 (eA x0 x1 x4 x5 T F s p x6) G = .ok (.lst ((F.filter (bF s p)).map fun _ => .int 1)) G := by
  unfold C2__law_rest1
  rw [dLc_tm F pr (bF s p) (fun _ => .int 1) (G1 := G)]
  · simp [dSeq_ev, seqR_nx, seqR_rt, seqR_ct, seqR_bk, seqR_ex, seqR_ite, runF_ev, resR_nx, resR_rt, resR_ex, resR_ite, startE, wp_nxK, wp_rtK, wp_ctK, wp_bkK, wp_exK, wp_nxP, wp_rtP, wp_ite, R.bind_ok, R.bind_exn, sb_ok, sb_exn, opt_some, opt_ite, bind_ite, sb_ite, dC, dVar, dPk, Fv.toVl, dBin, dUn, dTest, vTru, dTB_ev, tbK_bl, dAnd, dOr, dNot, dBV, dIf, dChain_ev, chK_bl, daNil, daCons, dTup, dLst, dIx, doNone, doSome, dSl, dFn, diVal, diRng, dCall, dRet, dRetN, dExpr, dIfS_ev, dAsg, gSet, gUn, gsNil, gsCons, itemsOf, dNext, dBreak, dCont, dRaise, dxC, dxE, dTold_ev, toldR_ok, toldR_exn, toldR_ite, dMeth, dFld, List.lookup, dSetF, putN, dPar, dPar3, vNeg, vSub_int, vAdd_int, vEq_int, vNe_int, vLt_int, vGt_int, vLe_int, vGe_int, vIx_lst, vIx_tup, atI_int, vSl_tup, vSl_lst, cutL_toI, cutL_fromI, cutL_midI, cutL_all, oLen, seqOf, oInt, oAbs, oMax2, oMin2, oTuple, oList, vIsN_non, vIsN_str, vIsN_int, vIsN_tup, vIsN_lst, dBm, tStr, tTup, tLst, dCat, lstOf, dListO, dLstO, dBmW, dTupRev, walkOf, dAndV_ev, andK_bl, dOrV_ev, orK_bl, Int.ofNat_inj]
  · rintro ⟨a, b⟩ _
    refine ⟨_, gUn2 .., ?_, fun _ => by simp [dSeq_ev, seqR_nx, seqR_rt, seqR_ct, seqR_bk, seqR_ex, seqR_ite, runF_ev, resR_nx, resR_rt, resR_ex, resR_ite, startE, wp_nxK, wp_rtK, wp_ctK, wp_bkK, wp_exK, wp_nxP, wp_rtP, wp_ite, R.bind_ok, R.bind_exn, sb_ok, sb_exn, opt_some, opt_ite, bind_ite, sb_ite, dC, dVar, dPk, Fv.toVl, dBin, dUn, dTest, vTru, dTB_ev, tbK_bl, dAnd, dOr, dNot, dBV, dIf, dChain_ev, chK_bl, daNil, daCons, dTup, dLst, dIx, doNone, doSome, dSl, dFn, diVal, diRng, dCall, dRet, dRetN, dExpr, dIfS_ev, dAsg, gSet, gUn, gsNil, gsCons, itemsOf, dNext, dBreak, dCont, dRaise, dxC, dxE, dTold_ev, toldR_ok, toldR_exn, toldR_ite, dMeth, dFld, List.lookup, dSetF, putN, dPar, dPar3, vNeg, vSub_int, vAdd_int, vEq_int, vNe_int, vLt_int, vGt_int, vLe_int, vGe_int, vIx_lst, vIx_tup, atI_int, vSl_tup, vSl_lst, cutL_toI, cutL_fromI, cutL_midI, cutL_all, oLen, seqOf, oInt, oAbs, oMax2, oMin2, oTuple, oList, vIsN_non, vIsN_str, vIsN_int, vIsN_tup, vIsN_lst, dBm, tStr, tTup, tLst, dCat, lstOf, dListO, dLstO, dBmW, dTupRev, walkOf, dAndV_ev, andK_bl, dOrV_ev, orK_bl, Int.ofNat_inj, wipeE]⟩
    unfold bF
    by_cases q1 : s ≤ a
    · by_cases q2 : (p : Int) - (a - s) - 1 ≤ b
      · have q2' : (p : Int) - a + s - 1 ≤ b := by omega
        by_cases q3 : b ≤ p <;> simp [dSeq_ev, seqR_nx, seqR_rt, seqR_ct, seqR_bk, seqR_ex, seqR_ite, runF_ev, resR_nx, resR_rt, resR_ex, resR_ite, startE, wp_nxK, wp_rtK, wp_ctK, wp_bkK, wp_exK, wp_nxP, wp_rtP, wp_ite, R.bind_ok, R.bind_exn, sb_ok, sb_exn, opt_some, opt_ite, bind_ite, sb_ite, dC, dVar, dPk, Fv.toVl, dBin, dUn, dTest, vTru, dTB_ev, tbK_bl, dAnd, dOr, dNot, dBV, dIf, dChain_ev, chK_bl, daNil, daCons, dTup, dLst, dIx, doNone, doSome, dSl, dFn, diVal, diRng, dCall, dRet, dRetN, dExpr, dIfS_ev, dAsg, gSet, gUn, gsNil, gsCons, itemsOf, dNext, dBreak, dCont, dRaise, dxC, dxE, dTold_ev, toldR_ok, toldR_exn, toldR_ite, dMeth, dFld, List.lookup, dSetF, putN, dPar, dPar3, vNeg, vSub_int, vAdd_int, vEq_int, vNe_int, vLt_int, vGt_int, vLe_int, vGe_int, vIx_lst, vIx_tup, atI_int, vSl_tup, vSl_lst, cutL_toI, cutL_fromI, cutL_midI, cutL_all, oLen, seqOf, oInt, oAbs, oMax2, oMin2, oTuple, oList, vIsN_non, vIsN_str, vIsN_int, vIsN_tup, vIsN_lst, dBm, tStr, tTup, tLst, dCat, lstOf, dListO, dLstO, dBmW, dTupRev, walkOf, dAndV_ev, andK_bl, dOrV_ev, orK_bl, Int.ofNat_inj, wipeE, q1, q2, q2', q3]
      · have q2' : ¬ (p : Int) - a + s - 1 ≤ b := by omega
        simp [dSeq_ev, seqR_nx, seqR_rt, seqR_ct, seqR_bk, seqR_ex, seqR_ite, runF_ev, resR_nx, resR_rt, resR_ex, resR_ite, startE, wp_nxK, wp_rtK, wp_ctK, wp_bkK, wp_exK, wp_nxP, wp_rtP, wp_ite, R.bind_ok, R.bind_exn, sb_ok, sb_exn, opt_some, opt_ite, bind_ite, sb_ite, dC, dVar, dPk, Fv.toVl, dBin, dUn, dTest, vTru, dTB_ev, tbK_bl, dAnd, dOr, dNot, dBV, dIf, dChain_ev, chK_bl, daNil, daCons, dTup, dLst, dIx, doNone, doSome, dSl, dFn, diVal, diRng, dCall, dRet, dRetN, dExpr, dIfS_ev, dAsg, gSet, gUn, gsNil, gsCons, itemsOf, dNext, dBreak, dCont, dRaise, dxC, dxE, dTold_ev, toldR_ok, toldR_exn, toldR_ite, dMeth, dFld, List.lookup, dSetF, putN, dPar, dPar3, vNeg, vSub_int, vAdd_int, vEq_int, vNe_int, vLt_int, vGt_int, vLe_int, vGe_int, vIx_lst, vIx_tup, atI_int, vSl_tup, vSl_lst, cutL_toI, cutL_fromI, cutL_midI, cutL_all, oLen, seqOf, oInt, oAbs, oMax2, oMin2, oTuple, oList, vIsN_non, vIsN_str, vIsN_int, vIsN_tup, vIsN_lst, dBm, tStr, tTup, tLst, dCat, lstOf, dListO, dLstO, dBmW, dTupRev, walkOf, dAndV_ev, andK_bl, dOrV_ev, orK_bl, Int.ofNat_inj, wipeE, q1, q2, q2']
    · simp [dSeq_ev, seqR_nx, seqR_rt, seqR_ct, seqR_bk, seqR_ex, seqR_ite, runF_ev, resR_nx, resR_rt, resR_ex, resR_ite, startE, wp_nxK, wp_rtK, wp_ctK, wp_bkK, wp_exK, wp_nxP, wp_rtP, wp_ite, R.bind_ok, R.bind_exn, sb_ok, sb_exn, opt_some, opt_ite, bind_ite, sb_ite, dC, dVar, dPk, Fv.toVl, dBin, dUn, dTest, vTru, dTB_ev, tbK_bl, dAnd, dOr, dNot, dBV, dIf, dChain_ev, chK_bl, daNil, daCons, dTup, dLst, dIx, doNone, doSome, dSl, dFn, diVal, diRng, dCall, dRet, dRetN, dExpr, dIfS_ev, dAsg, gSet, gUn, gsNil, gsCons, itemsOf, dNext, dBreak, dCont, dRaise, dxC, dxE, dTold_ev, toldR_ok, toldR_exn, toldR_ite, dMeth, dFld, List.lookup, dSetF, putN, dPar, dPar3, vNeg, vSub_int, vAdd_int, vEq_int, vNe_int, vLt_int, vGt_int, vLe_int, vGe_int, vIx_lst, vIx_tup, atI_int, vSl_tup, vSl_lst, cutL_toI, cutL_fromI, cutL_midI, cutL_all, oLen, seqOf, oInt, oAbs, oMax2, oMin2, oTuple, oList, vIsN_non, vIsN_str, vIsN_int, vIsN_tup, vIsN_lst, dBm, tStr, tTup, tLst, dCat, lstOf, dListO, dLstO, dBmW, dTupRev, walkOf, dAndV_ev, andK_bl, dOrV_ev, orK_bl, Int.ofNat_inj, wipeE, q1]
  · omega
end
theorem bears_ok (G : Gst) (x0 x1 x5 : Option Fv) (T F : List Sp2) (s p i w : Nat) (P : SR → Prop) (hG : G[i]? = some (houO w (srt T) (srt F))) (hT : T.length ≤ 1000) (hF : F.length ≤ 1000)
    (k : ∀ x6, Wp (T1_4__law_rest1 (eA x0 x1 (some (.val (.ref i))) x5 T F s p x6) G) P) : Wp (T1_1__law_rest1 (eA x0 x1 (some (.val (.ref i))) x5 T F s p none) G) P := by
  have h1 := fun x6 => c1_bears G x0 x1 (some (.val (.ref i))) x5 x6 T F s p hT
  have h2 := fun x6 => c2_bears G x0 x1 (some (.val (.ref i))) x5 x6 T F s p hF
  have h3 := house_bears G i w (srt T) (srt F) s p hG
  rw [srt_filter, srt_filter, srt_length, srt_length] at h3
  have l1 : (T.filter (bT s p)).length ≤ T.length := List.length_filter_le ..
  have l2 : (F.filter (bF s p)).length ≤ F.length := List.length_filter_le ..
  generalize (T.filter (bT s p)) = A at h1 h3 l1
  generalize (F.filter (bF s p)) = B at h2 h3 l2
  unfold T1_1__law_rest1
  have m2 : ∀ j : Int, vMul (.int 2) (.int j) = _ := vMul_l (by omega)
  refine wp_asg (x := .int (2 * A.length)) (G1 := G) (by simp [dSeq_ev, seqR_nx, seqR_rt, seqR_ct, seqR_bk, seqR_ex, seqR_ite, runF_ev, resR_nx, resR_rt, resR_ex, resR_ite, startE, wp_nxK, wp_rtK, wp_ctK, wp_bkK, wp_exK, wp_nxP, wp_rtP, wp_ite, R.bind_ok, R.bind_exn, sb_ok, sb_exn, opt_some, opt_ite, bind_ite, sb_ite, dC, dVar, dPk, Fv.toVl, dBin, dUn, dTest, vTru, dTB_ev, tbK_bl, dAnd, dOr, dNot, dBV, dIf, dChain_ev, chK_bl, daNil, daCons, dTup, dLst, dIx, doNone, doSome, dSl, dFn, diVal, diRng, dCall, dRet, dRetN, dExpr, dIfS_ev, dAsg, gSet, gUn, gsNil, gsCons, itemsOf, dNext, dBreak, dCont, dRaise, dxC, dxE, dTold_ev, toldR_ok, toldR_exn, toldR_ite, dMeth, dFld, List.lookup, dSetF, putN, dPar, dPar3, vNeg, vSub_int, vAdd_int, vEq_int, vNe_int, vLt_int, vGt_int, vLe_int, vGe_int, vIx_lst, vIx_tup, atI_int, vSl_tup, vSl_lst, cutL_toI, cutL_fromI, cutL_midI, cutL_all, oLen, seqOf, oInt, oAbs, oMax2, oMin2, oTuple, oList, vIsN_non, vIsN_str, vIsN_int, vIsN_tup, vIsN_lst, dBm, tStr, tTup, tLst, dCat, lstOf, dListO, dLstO, dBmW, dTupRev, walkOf, dAndV_ev, andK_bl, dOrV_ev, orK_bl, Int.ofNat_inj, h1, m2]) rfl ?_
  simp only [List.set_cons_succ, List.set_cons_zero]
  unfold T1_2__law_rest1
  refine wp_asg (x := .int (2 * A.length + B.length)) (G1 := G) (by simp [dSeq_ev, seqR_nx, seqR_rt, seqR_ct, seqR_bk, seqR_ex, seqR_ite, runF_ev, resR_nx, resR_rt, resR_ex, resR_ite, startE, wp_nxK, wp_rtK, wp_ctK, wp_bkK, wp_exK, wp_nxP, wp_rtP, wp_ite, R.bind_ok, R.bind_exn, sb_ok, sb_exn, opt_some, opt_ite, bind_ite, sb_ite, dC, dVar, dPk, Fv.toVl, dBin, dUn, dTest, vTru, dTB_ev, tbK_bl, dAnd, dOr, dNot, dBV, dIf, dChain_ev, chK_bl, daNil, daCons, dTup, dLst, dIx, doNone, doSome, dSl, dFn, diVal, diRng, dCall, dRet, dRetN, dExpr, dIfS_ev, dAsg, gSet, gUn, gsNil, gsCons, itemsOf, dNext, dBreak, dCont, dRaise, dxC, dxE, dTold_ev, toldR_ok, toldR_exn, toldR_ite, dMeth, dFld, List.lookup, dSetF, putN, dPar, dPar3, vNeg, vSub_int, vAdd_int, vEq_int, vNe_int, vLt_int, vGt_int, vLe_int, vGe_int, vIx_lst, vIx_tup, atI_int, vSl_tup, vSl_lst, cutL_toI, cutL_fromI, cutL_midI, cutL_all, oLen, seqOf, oInt, oAbs, oMax2, oMin2, oTuple, oList, vIsN_non, vIsN_str, vIsN_int, vIsN_tup, vIsN_lst, dBm, tStr, tTup, tLst, dCat, lstOf, dListO, dLstO, dBmW, dTupRev, walkOf, dAndV_ev, andK_bl, dOrV_ev, orK_bl, Int.ofNat_inj, h2]) rfl ?_
  simp only [List.set_cons_succ, List.set_cons_zero]
  unfold T1_3__law_rest1
  refine wp_chk (G1 := G) ?_ (k _)
  by_cases hm : (s, p) ∈ T
  · rw [if_pos (srt_mem.mpr hm)] at h3
    simp [dSeq_ev, seqR_nx, seqR_rt, seqR_ct, seqR_bk, seqR_ex, seqR_ite, runF_ev, resR_nx, resR_rt, resR_ex, resR_ite, startE, wp_nxK, wp_rtK, wp_ctK, wp_bkK, wp_exK, wp_nxP, wp_rtP, wp_ite, R.bind_ok, R.bind_exn, sb_ok, sb_exn, opt_some, opt_ite, bind_ite, sb_ite, dC, dVar, dPk, Fv.toVl, dBin, dUn, dTest, vTru, dTB_ev, tbK_bl, dAnd, dOr, dNot, dBV, dIf, dChain_ev, chK_bl, daNil, daCons, dTup, dLst, dIx, doNone, doSome, dSl, dFn, diVal, diRng, dCall, dRet, dRetN, dExpr, dIfS_ev, dAsg, gSet, gUn, gsNil, gsCons, itemsOf, dNext, dBreak, dCont, dRaise, dxC, dxE, dTold_ev, toldR_ok, toldR_exn, toldR_ite, dMeth, dFld, List.lookup, dSetF, putN, dPar, dPar3, vNeg, vSub_int, vAdd_int, vEq_int, vNe_int, vLt_int, vGt_int, vLe_int, vGe_int, vIx_lst, vIx_tup, atI_int, vSl_tup, vSl_lst, cutL_toI, cutL_fromI, cutL_midI, cutL_all, oLen, seqOf, oInt, oAbs, oMax2, oMin2, oTuple, oList, vIsN_non, vIsN_str, vIsN_int, vIsN_tup, vIsN_lst, dBm, tStr, tTup, tLst, dCat, lstOf, dListO, dLstO, dBmW, dTupRev, walkOf, dAndV_ev, andK_bl, dOrV_ev, orK_bl, Int.ofNat_inj, hG, h3, pr_eq, in_prsL, hm]
  · rw [if_neg (fun z => hm (srt_mem.mp z))] at h3
    simp [dSeq_ev, seqR_nx, seqR_rt, seqR_ct, seqR_bk, seqR_ex, seqR_ite, runF_ev, resR_nx, resR_rt, resR_ex, resR_ite, startE, wp_nxK, wp_rtK, wp_ctK, wp_bkK, wp_exK, wp_nxP, wp_rtP, wp_ite, R.bind_ok, R.bind_exn, sb_ok, sb_exn, opt_some, opt_ite, bind_ite, sb_ite, dC, dVar, dPk, Fv.toVl, dBin, dUn, dTest, vTru, dTB_ev, tbK_bl, dAnd, dOr, dNot, dBV, dIf, dChain_ev, chK_bl, daNil, daCons, dTup, dLst, dIx, doNone, doSome, dSl, dFn, diVal, diRng, dCall, dRet, dRetN, dExpr, dIfS_ev, dAsg, gSet, gUn, gsNil, gsCons, itemsOf, dNext, dBreak, dCont, dRaise, dxC, dxE, dTold_ev, toldR_ok, toldR_exn, toldR_ite, dMeth, dFld, List.lookup, dSetF, putN, dPar, dPar3, vNeg, vSub_int, vAdd_int, vEq_int, vNe_int, vLt_int, vGt_int, vLe_int, vGe_int, vIx_lst, vIx_tup, atI_int, vSl_tup, vSl_lst, cutL_toI, cutL_fromI, cutL_midI, cutL_all, oLen, seqOf, oInt, oAbs, oMax2, oMin2, oTuple, oList, vIsN_non, vIsN_str, vIsN_int, vIsN_tup, vIsN_lst, dBm, tStr, tTup, tLst, dCat, lstOf, dListO, dLstO, dBmW, dTupRev, walkOf, dAndV_ev, andK_bl, dOrV_ev, orK_bl, Int.ofNat_inj, hG, h3, pr_eq, in_prsL, hm, tf5, vNe_str]
def flI (e : Nat) : Int := 2 * e + (if (1 : Int) < e then (e : Int) - 1 else 1)
theorem flI_bd {e : Nat} (h1 : 1 ≤ e) (h5 : e ≤ 5) : 0 < flI e ∧ flI e < 4611686018427387904 := by
  unfold flI
  split <;> omega
theorem tower (G : Gst) (c e : Nat) (h1 : 1 ≤ e) (h5 : e ≤ 5) : M_tower_of [.int c, .int e] G = .ok (.tup [.int ((c : Int) / flI e), .int ((c : Int) % flI e)]) G := by
  have m2 : ∀ j : Int, vMul (.int 2) (.int j) = _ := vMul_l (by omega)
  have n1 : ¬ (e : Int) < 1 := by omega
  have n2 : ¬ (c : Int) < 0 := by omega
  have hf := flI_bd h1 h5
  have he : 2 * (e : Int) + (if (1 : Int) < (e : Int) - 1 then (e : Int) - 1 else 1) = flI e := by
    unfold flI
    split <;> split <;> omega
  have hd := fun i => vFdiv_int i (flI e) hf.1 hf.2
  have hm := fun i => vMod_int i (flI e) hf.1
  unfold M_tower_of D_tower_of
  simp [dSeq_ev, seqR_nx, seqR_rt, seqR_ct, seqR_bk, seqR_ex, seqR_ite, runF_ev, resR_nx, resR_rt, resR_ex, resR_ite, startE, wp_nxK, wp_rtK, wp_ctK, wp_bkK, wp_exK, wp_nxP, wp_rtP, wp_ite, R.bind_ok, R.bind_exn, sb_ok, sb_exn, opt_some, opt_ite, bind_ite, sb_ite, dC, dVar, dPk, Fv.toVl, dBin, dUn, dTest, vTru, dTB_ev, tbK_bl, dAnd, dOr, dNot, dBV, dIf, dChain_ev, chK_bl, daNil, daCons, dTup, dLst, dIx, doNone, doSome, dSl, dFn, diVal, diRng, dCall, dRet, dRetN, dExpr, dIfS_ev, dAsg, gSet, gUn, gsNil, gsCons, itemsOf, dNext, dBreak, dCont, dRaise, dxC, dxE, dTold_ev, toldR_ok, toldR_exn, toldR_ite, dMeth, dFld, List.lookup, dSetF, putN, dPar, dPar3, vNeg, vSub_int, vAdd_int, vEq_int, vNe_int, vLt_int, vGt_int, vLe_int, vGe_int, vIx_lst, vIx_tup, atI_int, vSl_tup, vSl_lst, cutL_toI, cutL_fromI, cutL_midI, cutL_all, oLen, seqOf, oInt, oAbs, oMax2, oMin2, oTuple, oList, vIsN_non, vIsN_str, vIsN_int, vIsN_tup, vIsN_lst, dBm, tStr, tTup, tLst, dCat, lstOf, dListO, dLstO, dBmW, dTupRev, walkOf, dAndV_ev, andK_bl, dOrV_ev, orK_bl, Int.ofNat_inj, n1, n2, m2, oMax2, he, hd, hm]
section
variable (x0 x1 x2 x3 x4 x5 x6 x7 x8 x9 x10 x11 x12 x13 x16 x17 x18 x19 x20 x21 x22 : Option Fv)
theorem tower_ok (d : D3) (T : Gst) (c : Nat) (P : SR → Prop) (k : ∀ d' z14 z15, Wp (T1_21__law_rest1 [some (.val (.ref 0)), x1, x2, x3, x4, x5, x6, x7, x8, x9, x10, x11, x12, x13, z14, z15, x16, x17, some (.val (.int c)), x19, x20, x21, x22, none, none, none, none, none] (dO d' :: T)) P) :
    Wp (T1_18__law_rest1 [some (.val (.ref 0)), x1, x2, x3, x4, x5, x6, x7, x8, x9, x10, x11, x12, x13, none, none, x16, x17, some (.val (.int c)), x19, x20, x21, x22, none, none, none, none, none] (dO d :: T)) P := by
  unfold T1_18__law_rest1
  have h5 := rv_lt (m := 5) d (by decide)
  refine wp_asg (x := .int ((1 + rv 5 d : Nat) : Int)) (G1 := dO (rd 5 d) :: T) (by simp [seqR_nx, seqR_rt, seqR_ct, seqR_bk, seqR_ex, seqR_ite, runF_ev, resR_nx, resR_rt, resR_ex, resR_ite, startE, wp_nxK, wp_rtK, wp_ctK, wp_bkK, wp_exK, wp_nxP, wp_rtP, wp_ite, R.bind_ok, R.bind_exn, sb_ok, sb_exn, opt_some, opt_ite, bind_ite, sb_ite, dC, dVar, dPk, Fv.toVl, dBin, dUn, dTest, vTru, dTB_ev, tbK_bl, dAnd, dOr, dNot, dBV, dIf, dChain_ev, chK_bl, daNil, daCons, dTup, dLst, dIx, doNone, doSome, dSl, dFn, diVal, diRng, dCall, dRet, dRetN, dExpr, dIfS_ev, dAsg, gSet, gUn, gsNil, gsCons, itemsOf, dNext, dBreak, dCont, dRaise, dxC, dxE, dTold_ev, toldR_ok, toldR_exn, toldR_ite, dMeth, dFld, List.lookup, dSetF, putN, dPar, dPar3, vNeg, vSub_int, vAdd_int, vEq_int, vNe_int, vLt_int, vGt_int, vLe_int, vGe_int, vIx_lst, vIx_tup, atI_int, vSl_tup, vSl_lst, cutL_toI, cutL_fromI, cutL_midI, cutL_all, oLen, seqOf, oInt, oAbs, oMax2, oMin2, oTuple, oList, vIsN_non, vIsN_str, vIsN_int, vIsN_tup, vIsN_lst, dBm, tStr, tTup, tLst, dCat, lstOf, dListO, dLstO, dBmW, dTupRev, walkOf, dAndV_ev, andK_bl, dOrV_ev, orK_bl, Int.ofNat_inj, roll0]) rfl ?_
  simp only [List.set_cons_succ, List.set_cons_zero]
  have he : 1 ≤ 1 + rv 5 d ∧ 1 + rv 5 d ≤ 5 := by omega
  generalize 1 + rv 5 d = e at he ⊢
  generalize rd 5 d = d1
  have ht := tower (dO d1 :: T) c e he.1 he.2
  have hf := flI_bd he.1 he.2
  have hd := fun i => vFdiv_int i (flI e) hf.1 hf.2
  have hm := fun i => vMod_int i (flI e) hf.1
  have m2 : ∀ j : Int, vMul (.int 2) (.int j) = _ := vMul_l (by omega)
  unfold T1_19__law_rest1
  refine wp_asg (x := .int (flI e)) (G1 := dO d1 :: T) ?_ rfl ?_
  · unfold flI
    by_cases q : (1 : Int) < e <;> simp [seqR_nx, seqR_rt, seqR_ct, seqR_bk, seqR_ex, seqR_ite, runF_ev, resR_nx, resR_rt, resR_ex, resR_ite, startE, wp_nxK, wp_rtK, wp_ctK, wp_bkK, wp_exK, wp_nxP, wp_rtP, wp_ite, R.bind_ok, R.bind_exn, sb_ok, sb_exn, opt_some, opt_ite, bind_ite, sb_ite, dC, dVar, dPk, Fv.toVl, dBin, dUn, dTest, vTru, dTB_ev, tbK_bl, dAnd, dOr, dNot, dBV, dIf, dChain_ev, chK_bl, daNil, daCons, dTup, dLst, dIx, doNone, doSome, dSl, dFn, diVal, diRng, dCall, dRet, dRetN, dExpr, dIfS_ev, dAsg, gSet, gUn, gsNil, gsCons, itemsOf, dNext, dBreak, dCont, dRaise, dxC, dxE, dTold_ev, toldR_ok, toldR_exn, toldR_ite, dMeth, dFld, List.lookup, dSetF, putN, dPar, dPar3, vNeg, vSub_int, vAdd_int, vEq_int, vNe_int, vLt_int, vGt_int, vLe_int, vGe_int, vIx_lst, vIx_tup, atI_int, vSl_tup, vSl_lst, cutL_toI, cutL_fromI, cutL_midI, cutL_all, oLen, seqOf, oInt, oAbs, oMax2, oMin2, oTuple, oList, vIsN_non, vIsN_str, vIsN_int, vIsN_tup, vIsN_lst, dBm, tStr, tTup, tLst, dCat, lstOf, dListO, dLstO, dBmW, dTupRev, walkOf, dAndV_ev, andK_bl, dOrV_ev, orK_bl, Int.ofNat_inj, m2, q]
  simp only [List.set_cons_succ, List.set_cons_zero]
  unfold T1_20__law_rest1
  refine wp_chk (G1 := dO d1 :: T) ?_ (k ..)
  simp [seqR_nx, seqR_rt, seqR_ct, seqR_bk, seqR_ex, seqR_ite, runF_ev, resR_nx, resR_rt, resR_ex, resR_ite, startE, wp_nxK, wp_rtK, wp_ctK, wp_bkK, wp_exK, wp_nxP, wp_rtP, wp_ite, R.bind_ok, R.bind_exn, sb_ok, sb_exn, opt_some, opt_ite, bind_ite, sb_ite, dC, dVar, dPk, Fv.toVl, dBin, dUn, dTest, vTru, dTB_ev, tbK_bl, dAnd, dOr, dNot, dBV, dIf, dChain_ev, chK_bl, daNil, daCons, dTup, dLst, dIx, doNone, doSome, dSl, dFn, diVal, diRng, dCall, dRet, dRetN, dExpr, dIfS_ev, dAsg, gSet, gUn, gsNil, gsCons, itemsOf, dNext, dBreak, dCont, dRaise, dxC, dxE, dTold_ev, toldR_ok, toldR_exn, toldR_ite, dMeth, dFld, List.lookup, dSetF, putN, dPar, dPar3, vNeg, vSub_int, vAdd_int, vEq_int, vNe_int, vLt_int, vGt_int, vLe_int, vGe_int, vIx_lst, vIx_tup, atI_int, vSl_tup, vSl_lst, cutL_toI, cutL_fromI, cutL_midI, cutL_all, oLen, seqOf, oInt, oAbs, oMax2, oMin2, oTuple, oList, vIsN_non, vIsN_str, vIsN_int, vIsN_tup, vIsN_lst, dBm, tStr, tTup, tLst, dCat, lstOf, dListO, dLstO, dBmW, dTupRev, walkOf, dAndV_ev, andK_bl, dOrV_ev, orK_bl, Int.ofNat_inj, ht, hd, hm, vNe_same, gd_str, gd_int, gd_bl, gd_non, gd_tup, gd_lst, gds_nil, gds_cons, gds_append, gds_str, gds_int, gds_take, gds_drop, gds_ints]
theorem last_ok (d : D3) (o p : Ob) (e : LEnv) : Wp (T1_21__law_rest1 e [dO d, o, p]) (rtP (.bl true) fun _ => True) := by
  have h := cases_ok d o p
  unfold T1_21__law_rest1
  refine wp_chk (G1 := [dO d, o, p, .ins 0 []]) (by simp [seqR_nx, seqR_rt, seqR_ct, seqR_bk, seqR_ex, seqR_ite, runF_ev, resR_nx, resR_rt, resR_ex, resR_ite, startE, wp_nxK, wp_rtK, wp_ctK, wp_bkK, wp_exK, wp_nxP, wp_rtP, wp_ite, R.bind_ok, R.bind_exn, sb_ok, sb_exn, opt_some, opt_ite, bind_ite, sb_ite, dC, dVar, dPk, Fv.toVl, dBin, dUn, dTest, vTru, dTB_ev, tbK_bl, dAnd, dOr, dNot, dBV, dIf, dChain_ev, chK_bl, daNil, daCons, dTup, dLst, dIx, doNone, doSome, dSl, dFn, diVal, diRng, dCall, dRet, dRetN, dExpr, dIfS_ev, dAsg, gSet, gUn, gsNil, gsCons, itemsOf, dNext, dBreak, dCont, dRaise, dxC, dxE, dTold_ev, toldR_ok, toldR_exn, toldR_ite, dMeth, dFld, List.lookup, dSetF, putN, dPar, dPar3, vNeg, vSub_int, vAdd_int, vEq_int, vNe_int, vLt_int, vGt_int, vLe_int, vGe_int, vIx_lst, vIx_tup, atI_int, vSl_tup, vSl_lst, cutL_toI, cutL_fromI, cutL_midI, cutL_all, oLen, seqOf, oInt, oAbs, oMax2, oMin2, oTuple, oList, vIsN_non, vIsN_str, vIsN_int, vIsN_tup, vIsN_lst, dBm, tStr, tTup, tLst, dCat, lstOf, dListO, dLstO, dBmW, dTupRev, walkOf, dAndV_ev, andK_bl, dOrV_ev, orK_bl, Int.ofNat_inj, h]) ?_
  unfold T1_22__law_rest1
  simp [seqR_nx, seqR_rt, seqR_ct, seqR_bk, seqR_ex, seqR_ite, runF_ev, resR_nx, resR_rt, resR_ex, resR_ite, startE, wp_nxK, wp_rtK, wp_ctK, wp_bkK, wp_exK, wp_nxP, wp_rtP, wp_ite, R.bind_ok, R.bind_exn, sb_ok, sb_exn, opt_some, opt_ite, bind_ite, sb_ite, dC, dVar, dPk, Fv.toVl, dBin, dUn, dTest, vTru, dTB_ev, tbK_bl, dAnd, dOr, dNot, dBV, dIf, dChain_ev, chK_bl, daNil, daCons, dTup, dLst, dIx, doNone, doSome, dSl, dFn, diVal, diRng, dCall, dRet, dRetN, dExpr, dIfS_ev, dAsg, gSet, gUn, gsNil, gsCons, itemsOf, dNext, dBreak, dCont, dRaise, dxC, dxE, dTold_ev, toldR_ok, toldR_exn, toldR_ite, dMeth, dFld, List.lookup, dSetF, putN, dPar, dPar3, vNeg, vSub_int, vAdd_int, vEq_int, vNe_int, vLt_int, vGt_int, vLe_int, vGe_int, vIx_lst, vIx_tup, atI_int, vSl_tup, vSl_lst, cutL_toI, cutL_fromI, cutL_midI, cutL_all, oLen, seqOf, oInt, oAbs, oMax2, oMin2, oTuple, oList, vIsN_non, vIsN_str, vIsN_int, vIsN_tup, vIsN_lst, dBm, tStr, tTup, tLst, dCat, lstOf, dListO, dLstO, dBmW, dTupRev, walkOf, dAndV_ev, andK_bl, dOrV_ev, orK_bl, Int.ofNat_inj, rtP, Wp]
end
end CardH
end
section
set_option maxHeartbeats 4000000
namespace CardH
open PySem PySem.Spec PyProof.Rows L2
theorem rest1 (d : D3) (w : Nat) (T F : List Sp2) (h1 : 1 ≤ w) (h4 : w ≤ 4) (hT : T.length ≤ 1000) (hF : F.length ≤ 1000) :
    ∃ G', M__law_rest1 [.ref 0, .int w, .lst (T.map pr), .lst (F.map pr), .ref 1, .int (wholeN w)] [dO d, houO w (srt T) (srt F)] = .ok (.bl true) G' := by
  refine runF_true ?_
  simp only [startE, List.map_cons, List.map_nil, List.length_cons, List.length_nil, List.cons_append, List.nil_append, Nat.reduceAdd, Nat.reduceSub, List.replicate]
  unfold D__law_rest1
  refine wp_seq ?_
  simp [seqR_nx, seqR_rt, seqR_ct, seqR_bk, seqR_ex, seqR_ite, runF_ev, resR_nx, resR_rt, resR_ex, resR_ite, startE, wp_nxK, wp_rtK, wp_ctK, wp_bkK, wp_exK, wp_nxP, wp_rtP, wp_ite, R.bind_ok, R.bind_exn, sb_ok, sb_exn, opt_some, opt_ite, bind_ite, sb_ite, dC, dVar, dPk, Fv.toVl, dBin, dUn, dTest, vTru, dTB_ev, tbK_bl, dAnd, dOr, dNot, dBV, dIf, dChain_ev, chK_bl, daNil, daCons, dTup, dLst, dIx, doNone, doSome, dSl, dFn, diVal, diRng, dCall, dRet, dRetN, dExpr, dIfS_ev, dAsg, gSet, gUn, gsNil, gsCons, itemsOf, dNext, dBreak, dCont, dRaise, dxC, dxE, dTold_ev, toldR_ok, toldR_exn, toldR_ite, dMeth, dFld, List.lookup, dSetF, putN, dPar, dPar3, vNeg, vSub_int, vAdd_int, vEq_int, vNe_int, vLt_int, vGt_int, vLe_int, vGe_int, vIx_lst, vIx_tup, atI_int, vSl_tup, vSl_lst, cutL_toI, cutL_fromI, cutL_midI, cutL_all, oLen, seqOf, oInt, oAbs, oMax2, oMin2, oTuple, oList, vIsN_non, vIsN_str, vIsN_int, vIsN_tup, vIsN_lst, dBm, tStr, tTup, tLst, dCat, lstOf, dListO, dLstO, dBmW, dTupRev, walkOf, dAndV_ev, andK_bl, dOrV_ev, orK_bl, Int.ofNat_inj, roll0]
  have h_s := rv_lt (m := 4) d (by decide)
  generalize rv 4 d = s at h_s ⊢
  generalize rd 4 d = d1
  have h_p := rv_lt (m := 4) d1 (by decide)
  generalize rv 4 d1 = p at h_p ⊢
  generalize rd 4 d1 = d2
  refine bears_ok [dO d2, houO w (srt T) (srt F)] _ _ _ T F s p 1 w _ rfl hT hF fun x6 => ?_
  rw [order_ok d2 _ _ _ _ _ _ _ _ w h1 h4]
  unfold T1_7__law_rest1
  refine wp_seq ?_
  simp [seqR_nx, seqR_rt, seqR_ct, seqR_bk, seqR_ex, seqR_ite, runF_ev, resR_nx, resR_rt, resR_ex, resR_ite, startE, wp_nxK, wp_rtK, wp_ctK, wp_bkK, wp_exK, wp_nxP, wp_rtP, wp_ite, R.bind_ok, R.bind_exn, sb_ok, sb_exn, opt_some, opt_ite, bind_ite, sb_ite, dC, dVar, dPk, Fv.toVl, dBin, dUn, dTest, vTru, dTB_ev, tbK_bl, dAnd, dOr, dNot, dBV, dIf, dChain_ev, chK_bl, daNil, daCons, dTup, dLst, dIx, doNone, doSome, dSl, dFn, diVal, diRng, dCall, dRet, dRetN, dExpr, dIfS_ev, dAsg, gSet, gUn, gsNil, gsCons, itemsOf, dNext, dBreak, dCont, dRaise, dxC, dxE, dTold_ev, toldR_ok, toldR_exn, toldR_ite, dMeth, dFld, List.lookup, dSetF, putN, dPar, dPar3, vNeg, vSub_int, vAdd_int, vEq_int, vNe_int, vLt_int, vGt_int, vLe_int, vGe_int, vIx_lst, vIx_tup, atI_int, vSl_tup, vSl_lst, cutL_toI, cutL_fromI, cutL_midI, cutL_all, oLen, seqOf, oInt, oAbs, oMax2, oMin2, oTuple, oList, vIsN_non, vIsN_str, vIsN_int, vIsN_tup, vIsN_lst, dBm, tStr, tTup, tLst, dCat, lstOf, dListO, dLstO, dBmW, dTupRev, walkOf, dAndV_ev, andK_bl, dOrV_ev, orK_bl, Int.ofNat_inj, roll0]
  have h_c := rv_lt (m := 120) d2 (by decide)
  generalize rv 120 d2 = c at h_c ⊢
  generalize rd 120 d2 = d3
  have h_k := rv_lt (m := 60) d3 (by decide)
  generalize rv 60 d3 = k at h_k ⊢
  generalize rd 60 d3 = d4
  rw [sizes_ok, high_ok _ _ _ _ _ _ _ _ _ _ _ _ _ w c (by omega)]
  refine packs_ok _ _ _ _ _ _ _ _ _ _ _ c _ w k h1 h4 (by omega) _ ?_
  unfold T1_12__law_rest1
  refine wp_seq ?_
  simp [seqR_nx, seqR_rt, seqR_ct, seqR_bk, seqR_ex, seqR_ite, runF_ev, resR_nx, resR_rt, resR_ex, resR_ite, startE, wp_nxK, wp_rtK, wp_ctK, wp_bkK, wp_exK, wp_nxP, wp_rtP, wp_ite, R.bind_ok, R.bind_exn, sb_ok, sb_exn, opt_some, opt_ite, bind_ite, sb_ite, dC, dVar, dPk, Fv.toVl, dBin, dUn, dTest, vTru, dTB_ev, tbK_bl, dAnd, dOr, dNot, dBV, dIf, dChain_ev, chK_bl, daNil, daCons, dTup, dLst, dIx, doNone, doSome, dSl, dFn, diVal, diRng, dCall, dRet, dRetN, dExpr, dIfS_ev, dAsg, gSet, gUn, gsNil, gsCons, itemsOf, dNext, dBreak, dCont, dRaise, dxC, dxE, dTold_ev, toldR_ok, toldR_exn, toldR_ite, dMeth, dFld, List.lookup, dSetF, putN, dPar, dPar3, vNeg, vSub_int, vAdd_int, vEq_int, vNe_int, vLt_int, vGt_int, vLe_int, vGe_int, vIx_lst, vIx_tup, atI_int, vSl_tup, vSl_lst, cutL_toI, cutL_fromI, cutL_midI, cutL_all, oLen, seqOf, oInt, oAbs, oMax2, oMin2, oTuple, oList, vIsN_non, vIsN_str, vIsN_int, vIsN_tup, vIsN_lst, dBm, tStr, tTup, tLst, dCat, lstOf, dListO, dLstO, dBmW, dTupRev, walkOf, dAndV_ev, andK_bl, dOrV_ev, orK_bl, Int.ofNat_inj, roll0]
  have h_a := rv_lt (m := 8) d4 (by decide)
  generalize rv 8 d4 = a at h_a ⊢
  generalize rd 8 d4 = d5
  have h_st := rv_lt (m := 8) d5 (by decide)
  generalize rv 8 d5 = st at h_st ⊢
  generalize rd 8 d5 = d6
  have h_b := rv_lt (m := 12) d6 (by decide)
  generalize rv 12 d6 = b at h_b ⊢
  generalize rd 12 d6 = d7
  refine steady_ok _ _ _ _ _ _ _ _ _ _ _ _ _ _ _ _ _ a st b (by omega) fun z11 => ?_
  refine tries_ok _ _ _ _ _ _ _ _ _ _ _ _ _ _ _ _ _ _ _ d7 (by simp) _ fun d8 z12 z13 => ?_
  refine tower_ok _ _ _ _ _ _ _ _ _ _ _ _ _ _ _ _ _ _ _ d8 _ c _ fun d9 z14 z15 => last_ok d9 _ _ _
end CardH
end
section
set_option maxHeartbeats 4000000
namespace CardH
open PySem PySem.Spec PyProof.Rows L2
theorem mem_spots {w s p : Nat} : (s, p) ∈ spots w ↔ s < w ∧ p < w - s := by
  unfold spots
  simp only [List.mem_flatMap, List.mem_map, List.mem_range, Prod.mk.injEq]
  constructor
  · rintro ⟨a, h1, b, h2, rfl, rfl⟩
    exact ⟨h1, h2⟩
  · rintro ⟨h1, h2⟩
    exact ⟨s, h1, p, h2, rfl, rfl⟩
theorem aT_congr {T T' F F' : List Sp2} (h1 : ∀ t, t ∈ T ↔ t ∈ T') (h2 : ∀ t, t ∈ F ↔ t ∈ F') : ∀ l p, aT T F l p = aT T' F' l p
  | 0, p => by simp [aT, h1]
  | l + 1, p => by
    rw [aT_succ, aT_succ]
    unfold aF
    rw [aT_congr h1 h2 l p, aT_congr h1 h2 l (p + 1)]
    simp [h1, h2]
theorem aF_congr {T T' F F' : List Sp2} (h1 : ∀ t, t ∈ T ↔ t ∈ T') (h2 : ∀ t, t ∈ F ↔ t ∈ F') (l p : Nat) : aF T F l p = aF T' F' l p := by
  unfold aF
  rw [aT_congr h1 h2, aT_congr h1 h2]
  simp [h2]
theorem stT_srt (T F : List Sp2) : stT (srt T) (srt F) = srt (stT T F) := by
  unfold stT
  rw [← srt_filter]
  exact List.filter_congr fun t _ => aT_congr (fun _ => srt_mem) (fun _ => srt_mem) _ _
theorem stF_srt (T F : List Sp2) : stF (srt T) (srt F) = srt (stF T F) := by
  unfold stF
  rw [← srt_filter]
  exact List.filter_congr fun t _ => aF_congr (fun _ => srt_mem) (fun _ => srt_mem) _ _
theorem sta_aT {T F : List Sp2} (h : Sta T F) : ∀ l p, (l, p) ∈ T → aT T F l p = true
  | 0, p, ht => by simpa [aT] using ht
  | l + 1, p, ht => by
    have hf := h.2 l p ht
    have h2 := h.1 l p hf
    rw [aT_succ]
    unfold aF
    simp [ht, hf, sta_aT h l p h2.1, sta_aT h l (p + 1) h2.2]
theorem sta_stT {T F : List Sp2} (h : Sta T F) : stT T F = T := List.filter_eq_self.mpr fun t ht => sta_aT h t.1 t.2 ht
theorem sta_stF {T F : List Sp2} (h : Sta T F) : stF T F = F := List.filter_eq_self.mpr fun f hf => by
  have h2 := h.1 f.1 f.2 hf
  unfold aF
  simp [hf, sta_aT h _ _ h2.1, sta_aT h _ _ h2.2]
theorem sta_srt {T F : List Sp2} (h : Sta T F) : Sta (srt T) (srt F) := by
  refine ⟨fun l p hf => ?_, fun l p ht => ?_⟩
  · exact ⟨srt_mem.mpr (h.1 l p (srt_mem.mp hf)).1, srt_mem.mpr (h.1 l p (srt_mem.mp hf)).2⟩
  · exact srt_mem.mpr (h.2 l p (srt_mem.mp ht))
structure Good (w : Nat) (T F : List Sp2) : Prop where
  s : Sta T F
  b : ∀ t ∈ T, t.1 + t.2 < w
theorem Good.f {w : Nat} {T F : List Sp2} (g : Good w T F) : ∀ f ∈ F, f.1 + f.2 + 1 < w := fun f hf => by
  have := g.b _ (g.s.1 f.1 f.2 hf).2
  simp only at this
  omega
theorem good_lean {w : Nat} {T F : List Sp2} (g : Good w T F) {s p : Nat} (h1 : s < w) (h2 : p < w - s) (h : ¬ (0 < s ∧ (s - 1, p) ∉ F)) : Good w (T ++ [(s, p)]) F := by
  refine ⟨⟨fun l q hf => ?_, fun l q ht => ?_⟩, fun t ht => ?_⟩
  · exact ⟨List.mem_append_left _ (g.s.1 l q hf).1, List.mem_append_left _ (g.s.1 l q hf).2⟩
  · rw [List.mem_append, List.mem_singleton] at ht
    rcases ht with ht | ht
    · exact g.s.2 l q ht
    · cases ht
      exact Decidable.byContradiction fun z => h ⟨by omega, z⟩
  · rw [List.mem_append, List.mem_singleton] at ht
    rcases ht with ht | rfl
    · exact g.b t ht
    · show s + p < w
      omega
theorem good_lay {w : Nat} {T F : List Sp2} (g : Good w T F) {s p : Nat} (h : ¬ ((s, p) ∉ T ∨ (s, p + 1) ∉ T)) : Good w T (F ++ [(s, p)]) := by
  have h' : (s, p) ∈ T ∧ (s, p + 1) ∈ T := ⟨Decidable.byContradiction fun z => h (.inl z), Decidable.byContradiction fun z => h (.inr z)⟩
  refine ⟨⟨fun l q hf => ?_, fun l q ht => ?_⟩, g.b⟩
  · rw [List.mem_append, List.mem_singleton] at hf
    rcases hf with hf | hf
    · exact g.s.1 l q hf
    · cases hf
      exact h'
  · exact List.mem_append_left _ (g.s.2 l q ht)
theorem good_st {w : Nat} {T F : List Sp2} (h : ∀ t ∈ T, t.1 + t.2 < w) : Good w (stT T F) (stF T F) := ⟨sta_st T F, fun t ht => h t (List.mem_filter.mp ht).1⟩
abbrev eL (x0 x4 x5 x6 x7 x11 x12 x13 x14 x15 x16 x17 x18 : Option Fv) (w : Nat) (T F : List Sp2) : LEnv := [x0, some (.val (.ref 0)), some (.val (.ref 1)), some (.val (.lst ((spots w).map pr))), x4, x5, x6, x7, some (.val (.int w)), some (.val (.lst (T.map pr))), some (.val (.lst (F.map pr))), x11, x12, x13, x14, x15, x16, x17, x18, none, none]
theorem pr_s (s p : Nat) (h : 0 < s) : Vl.tup [.int ((s : Int) - 1), .int (p : Int)] = pr (s - 1, p) := by
  unfold pr
  rw [show ((s : Int) - 1) = ((s - 1 : Nat) : Int) by omega]
theorem pr_p1 (s p : Nat) : Vl.tup [.int (s : Int), .int ((p : Int) + 1)] = pr (s, p + 1) := by
  unfold pr
  rw [show ((p : Int) + 1) = ((p + 1 : Nat) : Int) by omega]
theorem add_one (l : List Sp2) (x : Sp2) (h : l.length ≤ 1000) : vAdd (.lst (l.map pr)) (.lst [pr x]) = some (.lst ((l ++ [x]).map pr)) := by
  rw [vAdd_lst (by simp; omega), List.map_append]; rfl
theorem add_nil (l : List Sp2) (h : l.length ≤ 1000) : vAdd (.lst (l.map pr)) (.lst []) = some (.lst (l.map pr)) := by
  rw [vAdd_lst (by simp; omega), List.append_nil]
section
variable (d : D3) (x0 x5 x6 x7 : Option Fv) (w : Nat) (T F : List Sp2) (hT : T.length ≤ 1000) (hF : F.length ≤ 1000)
include hT hF
/-- what the house shows is what the law holds -/
theorem shown_ok (x4 x11 x12 x13 x14 x17 x18 : Option Fv) (v : Vl) (hv : gd 60 v = true) (P : SR → Prop) (k : Wp (.nx (eL x0 x4 x5 x6 x7 x11 x12 x13 x14 (some (.val v)) (some (.val v)) x17 x18 w T F) [dO d, houO w (srt T) (srt F)]) P) :
    Wp (T4_3_law (eL x0 x4 x5 x6 x7 x11 x12 x13 x14 (some (.val v)) (some (.val v)) x17 x18 w T F) [dO d, houO w (srt T) (srt F)]) P := by
  unfold T4_3_law
  refine wp_chk1 (G1 := [dO d, houO w (srt T) (srt F)]) ?_ k
  have h1 := house_shown [dO d, houO w (srt T) (srt F)] 1 w (srt T) (srt F) rfl
  have h2 := oSort_prsL (G := [dO d, houO w (srt T) (srt F)]) (l := T) (by omega)
  have h3 := oSort_prsL (G := [dO d, houO w (srt T) (srt F)]) (l := F) (by omega)
  have h4 := vNe_same hv
  have h5 : gd 60 (Vl.tup [.tup ((srt T).map pr), .tup ((srt F).map pr)]) = true := by simp [gd_str, gd_int, gd_bl, gd_non, gd_tup, gd_lst, gds_nil, gds_cons, gds_append, gds_str, gds_int, gds_take, gds_drop, gds_ints, gds_prs]
  simp [dSeq_ev, seqR_nx, seqR_rt, seqR_ct, seqR_bk, seqR_ex, seqR_ite, runF_ev, resR_nx, resR_rt, resR_ex, resR_ite, startE, wp_nxK, wp_rtK, wp_ctK, wp_bkK, wp_exK, wp_nxP, wp_rtP, wp_ite, R.bind_ok, R.bind_exn, sb_ok, sb_exn, opt_some, opt_ite, bind_ite, sb_ite, dC, dVar, dPk, Fv.toVl, dBin, dUn, dTest, vTru, dTB_ev, tbK_bl, dAnd, dOr, dNot, dBV, dIf, dChain_ev, chK_bl, daNil, daCons, dTup, dLst, dIx, doNone, doSome, dSl, dFn, diVal, diRng, dCall, dRet, dRetN, dExpr, dIfS_ev, dAsg, gSet, gUn, gsNil, gsCons, itemsOf, dNext, dBreak, dCont, dRaise, dxC, dxE, dTold_ev, toldR_ok, toldR_exn, toldR_ite, dMeth, dFld, List.lookup, dSetF, putN, dPar, dPar3, vNeg, vSub_int, vAdd_int, vEq_int, vNe_int, vLt_int, vGt_int, vLe_int, vGe_int, vIx_lst, vIx_tup, atI_int, vSl_tup, vSl_lst, cutL_toI, cutL_fromI, cutL_midI, cutL_all, oLen, seqOf, oInt, oAbs, oMax2, oMin2, oTuple, oList, vIsN_non, vIsN_str, vIsN_int, vIsN_tup, vIsN_lst, dBm, tStr, tTup, tLst, dCat, lstOf, dListO, dLstO, dBmW, dTupRev, walkOf, dAndV_ev, andK_bl, dOrV_ev, orK_bl, Int.ofNat_inj, h1, h2, h3, h4, vNe_same h5]
variable (I : LEnv → Gst → Prop) (g : Good w T F) (hI : ∀ (d' : D3) (T' F' : List Sp2) x4 x11 x12 x13 x14 x15 x16 x17 x18, Good w T' F' → T'.length ≤ T.length + 1 → F'.length ≤ F.length + 1 → I (eL x0 x4 x5 x6 x7 x11 x12 x13 x14 x15 x16 x17 x18 w T' F') [dO d', houO w (srt T') (srt F')])
  (s p k : Nat) (hw : w ≤ 4) (hs : s < 4) (hp : p < 4) (x15 x16 x17 x18 : Option Fv)
include g hI hw hs hp
omit hT hF in
theorem fin_ok {x4 x11 x12 x13 x14 x15 x16 x17 x18 : Option Fv} {T' F' : List Sp2} (gg : Good w T' F') (h1 : T'.length ≤ T.length + 1) (h2 : F'.length ≤ F.length + 1) : Wp (.nx (eL x0 x4 x5 x6 x7 x11 x12 x13 x14 x15 x16 x17 x18 w T' F') [dO d, houO w (srt T') (srt F')]) (nxP I) := hI d T' F' _ _ _ _ _ _ _ _ _ gg h1 h2
theorem lean_ok (hk : k < 3) (hT9 : T.length ≤ 900) : Wp (T4_2_law (eL x0 (some (.val (.int s))) x5 x6 x7 (some (.val (.int k))) (some (.val (.int p))) (some (.val (pr (s, p)))) (some (.val (pr (s, p + 1)))) x15 x16 x17 x18 w T F) [dO d, houO w (srt T) (srt F)]) (nxP I) := by
  have hL := house_lean [dO d, houO w (srt T) (srt F)] 1 w (srt T) (srt F) s p rfl (by rw [srt_length]; omega)
  simp only [srt_mem] at hL
  unfold T4_2_law
  refine wp_seq ?_
  refine wp_ifT (G1 := [dO d, houO w (srt T) (srt F)]) (by simp [dSeq_ev, seqR_nx, seqR_rt, seqR_ct, seqR_bk, seqR_ex, seqR_ite, runF_ev, resR_nx, resR_rt, resR_ex, resR_ite, startE, wp_nxK, wp_rtK, wp_ctK, wp_bkK, wp_exK, wp_nxP, wp_rtP, wp_ite, R.bind_ok, R.bind_exn, sb_ok, sb_exn, opt_some, opt_ite, bind_ite, sb_ite, dC, dVar, dPk, Fv.toVl, dBin, dUn, dTest, vTru, dTB_ev, tbK_bl, dAnd, dOr, dNot, dBV, dIf, dChain_ev, chK_bl, daNil, daCons, dTup, dLst, dIx, doNone, doSome, dSl, dFn, diVal, diRng, dCall, dRet, dRetN, dExpr, dIfS_ev, dAsg, gSet, gUn, gsNil, gsCons, itemsOf, dNext, dBreak, dCont, dRaise, dxC, dxE, dTold_ev, toldR_ok, toldR_exn, toldR_ite, dMeth, dFld, List.lookup, dSetF, putN, dPar, dPar3, vNeg, vSub_int, vAdd_int, vEq_int, vNe_int, vLt_int, vGt_int, vLe_int, vGe_int, vIx_lst, vIx_tup, atI_int, vSl_tup, vSl_lst, cutL_toI, cutL_fromI, cutL_midI, cutL_all, oLen, seqOf, oInt, oAbs, oMax2, oMin2, oTuple, oList, vIsN_non, vIsN_str, vIsN_int, vIsN_tup, vIsN_lst, dBm, tStr, tTup, tLst, dCat, lstOf, dListO, dLstO, dBmW, dTupRev, walkOf, dAndV_ev, andK_bl, dOrV_ev, orK_bl, Int.ofNat_inj, hk]; omega) ?_
  have fin := fun (T' : List Sp2) (x4 x11 x12 x13 x14 x17 x18 : Option Fv) (v : Vl) (hv : gd 60 v = true) (gg : Good w T' F) (h1 : T'.length ≤ T.length + 1) => shown_ok d x0 x5 x6 x7 w T' F (by omega) hF x4 x11 x12 x13 x14 x17 x18 v hv (nxP I) (fin_ok d x0 x5 x6 x7 w T F I g hI s p hw hs hp gg h1 (by omega))
  unfold T5_1_law T5_2_law T5_3_law
  have a1 := add_one T (s, p) hT
  have a0 := add_nil T hT
  by_cases h1 : (s, p) ∈ spots w
  · have h1' := mem_spots.mp h1
    rw [if_pos h1'] at hL
    by_cases h2 : (s, p) ∈ T
    · rw [if_pos h2] at hL
      simp [wp_seqE, seqR_nx, seqR_rt, seqR_ct, seqR_bk, seqR_ex, seqR_ite, runF_ev, resR_nx, resR_rt, resR_ex, resR_ite, startE, wp_nxK, wp_rtK, wp_ctK, wp_bkK, wp_exK, wp_nxP, wp_rtP, wp_ite, R.bind_ok, R.bind_exn, sb_ok, sb_exn, opt_some, opt_ite, bind_ite, sb_ite, dC, dVar, dPk, Fv.toVl, dBin, dUn, dTest, vTru, dTB_ev, tbK_bl, dAnd, dOr, dNot, dBV, dIf, dChain_ev, chK_bl, daNil, daCons, dTup, dLst, dIx, doNone, doSome, dSl, dFn, diVal, diRng, dCall, dRet, dRetN, dExpr, dIfS_ev, dAsg, gSet, gUn, gsNil, gsCons, itemsOf, dNext, dBreak, dCont, dRaise, dxC, dxE, dTold_ev, toldR_ok, toldR_exn, toldR_ite, dMeth, dFld, List.lookup, dSetF, putN, dPar, dPar3, vNeg, vSub_int, vAdd_int, vEq_int, vNe_int, vLt_int, vGt_int, vLe_int, vGe_int, vIx_lst, vIx_tup, atI_int, vSl_tup, vSl_lst, cutL_toI, cutL_fromI, cutL_midI, cutL_all, oLen, seqOf, oInt, oAbs, oMax2, oMin2, oTuple, oList, vIsN_non, vIsN_str, vIsN_int, vIsN_tup, vIsN_lst, dBm, tStr, tTup, tLst, dCat, lstOf, dListO, dLstO, dBmW, dTupRev, walkOf, dAndV_ev, andK_bl, dOrV_ev, orK_bl, Int.ofNat_inj, pr_eq, notin_prsL, in_prsL, h1, h2, hL, tf5, a0]
      exact fin T _ _ _ _ _ _ _ (.str "deed") rfl g (by omega)
    · rw [if_neg h2] at hL
      by_cases h3 : 0 < s ∧ (s - 1, p) ∉ F
      · rw [if_pos h3] at hL
        have e1 := pr_s s p h3.1
        simp [wp_seqE, seqR_nx, seqR_rt, seqR_ct, seqR_bk, seqR_ex, seqR_ite, runF_ev, resR_nx, resR_rt, resR_ex, resR_ite, startE, wp_nxK, wp_rtK, wp_ctK, wp_bkK, wp_exK, wp_nxP, wp_rtP, wp_ite, R.bind_ok, R.bind_exn, sb_ok, sb_exn, opt_some, opt_ite, bind_ite, sb_ite, dC, dVar, dPk, Fv.toVl, dBin, dUn, dTest, vTru, dTB_ev, tbK_bl, dAnd, dOr, dNot, dBV, dIf, dChain_ev, chK_bl, daNil, daCons, dTup, dLst, dIx, doNone, doSome, dSl, dFn, diVal, diRng, dCall, dRet, dRetN, dExpr, dIfS_ev, dAsg, gSet, gUn, gsNil, gsCons, itemsOf, dNext, dBreak, dCont, dRaise, dxC, dxE, dTold_ev, toldR_ok, toldR_exn, toldR_ite, dMeth, dFld, List.lookup, dSetF, putN, dPar, dPar3, vNeg, vSub_int, vAdd_int, vEq_int, vNe_int, vLt_int, vGt_int, vLe_int, vGe_int, vIx_lst, vIx_tup, atI_int, vSl_tup, vSl_lst, cutL_toI, cutL_fromI, cutL_midI, cutL_all, oLen, seqOf, oInt, oAbs, oMax2, oMin2, oTuple, oList, vIsN_non, vIsN_str, vIsN_int, vIsN_tup, vIsN_lst, dBm, tStr, tTup, tLst, dCat, lstOf, dListO, dLstO, dBmW, dTupRev, walkOf, dAndV_ev, andK_bl, dOrV_ev, orK_bl, Int.ofNat_inj, pr_eq, notin_prsL, in_prsL, h1, h2, h3.1, h3.2, e1, hL, tf3, a0]
        exact fin T _ _ _ _ _ _ _ (.str "no room") rfl g (by omega)
      · rw [if_neg h3, srt_append] at hL
        by_cases h4 : 0 < s
        · have e1 := pr_s s p h4
          have h5 : (s - 1, p) ∈ F := Decidable.byContradiction fun z => h3 ⟨h4, z⟩
          simp [wp_seqE, seqR_nx, seqR_rt, seqR_ct, seqR_bk, seqR_ex, seqR_ite, runF_ev, resR_nx, resR_rt, resR_ex, resR_ite, startE, wp_nxK, wp_rtK, wp_ctK, wp_bkK, wp_exK, wp_nxP, wp_rtP, wp_ite, R.bind_ok, R.bind_exn, sb_ok, sb_exn, opt_some, opt_ite, bind_ite, sb_ite, dC, dVar, dPk, Fv.toVl, dBin, dUn, dTest, vTru, dTB_ev, tbK_bl, dAnd, dOr, dNot, dBV, dIf, dChain_ev, chK_bl, daNil, daCons, dTup, dLst, dIx, doNone, doSome, dSl, dFn, diVal, diRng, dCall, dRet, dRetN, dExpr, dIfS_ev, dAsg, gSet, gUn, gsNil, gsCons, itemsOf, dNext, dBreak, dCont, dRaise, dxC, dxE, dTold_ev, toldR_ok, toldR_exn, toldR_ite, dMeth, dFld, List.lookup, dSetF, putN, dPar, dPar3, vNeg, vSub_int, vAdd_int, vEq_int, vNe_int, vLt_int, vGt_int, vLe_int, vGe_int, vIx_lst, vIx_tup, atI_int, vSl_tup, vSl_lst, cutL_toI, cutL_fromI, cutL_midI, cutL_all, oLen, seqOf, oInt, oAbs, oMax2, oMin2, oTuple, oList, vIsN_non, vIsN_str, vIsN_int, vIsN_tup, vIsN_lst, dBm, tStr, tTup, tLst, dCat, lstOf, dListO, dLstO, dBmW, dTupRev, walkOf, dAndV_ev, andK_bl, dOrV_ev, orK_bl, Int.ofNat_inj, pr_eq, notin_prsL, in_prsL, h1, h2, h4, h5, e1, hL, a1, -List.map_append]
          exact fin (T ++ [(s, p)]) _ _ _ _ _ _ _ .non rfl (good_lean g h1'.1 h1'.2 h3) (by simp)
        · simp [wp_seqE, seqR_nx, seqR_rt, seqR_ct, seqR_bk, seqR_ex, seqR_ite, runF_ev, resR_nx, resR_rt, resR_ex, resR_ite, startE, wp_nxK, wp_rtK, wp_ctK, wp_bkK, wp_exK, wp_nxP, wp_rtP, wp_ite, R.bind_ok, R.bind_exn, sb_ok, sb_exn, opt_some, opt_ite, bind_ite, sb_ite, dC, dVar, dPk, Fv.toVl, dBin, dUn, dTest, vTru, dTB_ev, tbK_bl, dAnd, dOr, dNot, dBV, dIf, dChain_ev, chK_bl, daNil, daCons, dTup, dLst, dIx, doNone, doSome, dSl, dFn, diVal, diRng, dCall, dRet, dRetN, dExpr, dIfS_ev, dAsg, gSet, gUn, gsNil, gsCons, itemsOf, dNext, dBreak, dCont, dRaise, dxC, dxE, dTold_ev, toldR_ok, toldR_exn, toldR_ite, dMeth, dFld, List.lookup, dSetF, putN, dPar, dPar3, vNeg, vSub_int, vAdd_int, vEq_int, vNe_int, vLt_int, vGt_int, vLe_int, vGe_int, vIx_lst, vIx_tup, atI_int, vSl_tup, vSl_lst, cutL_toI, cutL_fromI, cutL_midI, cutL_all, oLen, seqOf, oInt, oAbs, oMax2, oMin2, oTuple, oList, vIsN_non, vIsN_str, vIsN_int, vIsN_tup, vIsN_lst, dBm, tStr, tTup, tLst, dCat, lstOf, dListO, dLstO, dBmW, dTupRev, walkOf, dAndV_ev, andK_bl, dOrV_ev, orK_bl, Int.ofNat_inj, pr_eq, notin_prsL, in_prsL, h1, h2, h4, hL, a1, -List.map_append]
          exact fin (T ++ [(s, p)]) _ _ _ _ _ _ _ .non rfl (good_lean g h1'.1 h1'.2 h3) (by simp)
  · rw [if_neg fun z => h1 (mem_spots.mpr z)] at hL
    simp [wp_seqE, seqR_nx, seqR_rt, seqR_ct, seqR_bk, seqR_ex, seqR_ite, runF_ev, resR_nx, resR_rt, resR_ex, resR_ite, startE, wp_nxK, wp_rtK, wp_ctK, wp_bkK, wp_exK, wp_nxP, wp_rtP, wp_ite, R.bind_ok, R.bind_exn, sb_ok, sb_exn, opt_some, opt_ite, bind_ite, sb_ite, dC, dVar, dPk, Fv.toVl, dBin, dUn, dTest, vTru, dTB_ev, tbK_bl, dAnd, dOr, dNot, dBV, dIf, dChain_ev, chK_bl, daNil, daCons, dTup, dLst, dIx, doNone, doSome, dSl, dFn, diVal, diRng, dCall, dRet, dRetN, dExpr, dIfS_ev, dAsg, gSet, gUn, gsNil, gsCons, itemsOf, dNext, dBreak, dCont, dRaise, dxC, dxE, dTold_ev, toldR_ok, toldR_exn, toldR_ite, dMeth, dFld, List.lookup, dSetF, putN, dPar, dPar3, vNeg, vSub_int, vAdd_int, vEq_int, vNe_int, vLt_int, vGt_int, vLe_int, vGe_int, vIx_lst, vIx_tup, atI_int, vSl_tup, vSl_lst, cutL_toI, cutL_fromI, cutL_midI, cutL_all, oLen, seqOf, oInt, oAbs, oMax2, oMin2, oTuple, oList, vIsN_non, vIsN_str, vIsN_int, vIsN_tup, vIsN_lst, dBm, tStr, tTup, tLst, dCat, lstOf, dListO, dLstO, dBmW, dTupRev, walkOf, dAndV_ev, andK_bl, dOrV_ev, orK_bl, Int.ofNat_inj, pr_eq, notin_prsL, in_prsL, h1, hL, tf2, a0]
    exact fin T _ _ _ _ _ _ _ (.str "no such") rfl g (by omega)
theorem lay_ok (hk : 3 ≤ k ∧ k < 6) (hF9 : F.length ≤ 900) : Wp (T4_2_law (eL x0 (some (.val (.int s))) x5 x6 x7 (some (.val (.int k))) (some (.val (.int p))) (some (.val (pr (s, p)))) (some (.val (pr (s, p + 1)))) x15 x16 x17 x18 w T F) [dO d, houO w (srt T) (srt F)]) (nxP I) := by
  have hL := house_lay [dO d, houO w (srt T) (srt F)] 1 w (srt T) (srt F) s p rfl (by rw [srt_length]; omega)
  simp only [srt_mem] at hL
  unfold T4_2_law
  refine wp_seq ?_
  refine wp_ifF (G1 := [dO d, houO w (srt T) (srt F)]) (by simp [dSeq_ev, seqR_nx, seqR_rt, seqR_ct, seqR_bk, seqR_ex, seqR_ite, runF_ev, resR_nx, resR_rt, resR_ex, resR_ite, startE, wp_nxK, wp_rtK, wp_ctK, wp_bkK, wp_exK, wp_nxP, wp_rtP, wp_ite, R.bind_ok, R.bind_exn, sb_ok, sb_exn, opt_some, opt_ite, bind_ite, sb_ite, dC, dVar, dPk, Fv.toVl, dBin, dUn, dTest, vTru, dTB_ev, tbK_bl, dAnd, dOr, dNot, dBV, dIf, dChain_ev, chK_bl, daNil, daCons, dTup, dLst, dIx, doNone, doSome, dSl, dFn, diVal, diRng, dCall, dRet, dRetN, dExpr, dIfS_ev, dAsg, gSet, gUn, gsNil, gsCons, itemsOf, dNext, dBreak, dCont, dRaise, dxC, dxE, dTold_ev, toldR_ok, toldR_exn, toldR_ite, dMeth, dFld, List.lookup, dSetF, putN, dPar, dPar3, vNeg, vSub_int, vAdd_int, vEq_int, vNe_int, vLt_int, vGt_int, vLe_int, vGe_int, vIx_lst, vIx_tup, atI_int, vSl_tup, vSl_lst, cutL_toI, cutL_fromI, cutL_midI, cutL_all, oLen, seqOf, oInt, oAbs, oMax2, oMin2, oTuple, oList, vIsN_non, vIsN_str, vIsN_int, vIsN_tup, vIsN_lst, dBm, tStr, tTup, tLst, dCat, lstOf, dListO, dLstO, dBmW, dTupRev, walkOf, dAndV_ev, andK_bl, dOrV_ev, orK_bl, Int.ofNat_inj]; omega) ?_
  refine wp_ifT (G1 := [dO d, houO w (srt T) (srt F)]) (by simp [dSeq_ev, seqR_nx, seqR_rt, seqR_ct, seqR_bk, seqR_ex, seqR_ite, runF_ev, resR_nx, resR_rt, resR_ex, resR_ite, startE, wp_nxK, wp_rtK, wp_ctK, wp_bkK, wp_exK, wp_nxP, wp_rtP, wp_ite, R.bind_ok, R.bind_exn, sb_ok, sb_exn, opt_some, opt_ite, bind_ite, sb_ite, dC, dVar, dPk, Fv.toVl, dBin, dUn, dTest, vTru, dTB_ev, tbK_bl, dAnd, dOr, dNot, dBV, dIf, dChain_ev, chK_bl, daNil, daCons, dTup, dLst, dIx, doNone, doSome, dSl, dFn, diVal, diRng, dCall, dRet, dRetN, dExpr, dIfS_ev, dAsg, gSet, gUn, gsNil, gsCons, itemsOf, dNext, dBreak, dCont, dRaise, dxC, dxE, dTold_ev, toldR_ok, toldR_exn, toldR_ite, dMeth, dFld, List.lookup, dSetF, putN, dPar, dPar3, vNeg, vSub_int, vAdd_int, vEq_int, vNe_int, vLt_int, vGt_int, vLe_int, vGe_int, vIx_lst, vIx_tup, atI_int, vSl_tup, vSl_lst, cutL_toI, cutL_fromI, cutL_midI, cutL_all, oLen, seqOf, oInt, oAbs, oMax2, oMin2, oTuple, oList, vIsN_non, vIsN_str, vIsN_int, vIsN_tup, vIsN_lst, dBm, tStr, tTup, tLst, dCat, lstOf, dListO, dLstO, dBmW, dTupRev, walkOf, dAndV_ev, andK_bl, dOrV_ev, orK_bl, Int.ofNat_inj]; omega) ?_
  have fin := fun (F' : List Sp2) (x4 x11 x12 x13 x14 x17 x18 : Option Fv) (v : Vl) (hv : gd 60 v = true) (gg : Good w T F') (h1 : F'.length ≤ F.length + 1) => shown_ok d x0 x5 x6 x7 w T F' hT (by omega) x4 x11 x12 x13 x14 x17 x18 v hv (nxP I) (fin_ok d x0 x5 x6 x7 w T F I g hI s p hw hs hp gg (by omega) h1)
  unfold T7_1_law T7_2_law T7_3_law
  have a1 := add_one F (s, p) hF
  have a0 := add_nil F hF
  by_cases h1 : s < w ∧ p + 1 < w - s
  · rw [if_pos h1] at hL
    have h1' : (s, p) ∈ spots w := mem_spots.mpr (by omega)
    have h1'' : (s, p + 1) ∈ spots w := mem_spots.mpr h1
    by_cases h2 : (s, p) ∈ F
    · rw [if_pos h2] at hL
      simp [wp_seqE, seqR_nx, seqR_rt, seqR_ct, seqR_bk, seqR_ex, seqR_ite, runF_ev, resR_nx, resR_rt, resR_ex, resR_ite, startE, wp_nxK, wp_rtK, wp_ctK, wp_bkK, wp_exK, wp_nxP, wp_rtP, wp_ite, R.bind_ok, R.bind_exn, sb_ok, sb_exn, opt_some, opt_ite, bind_ite, sb_ite, dC, dVar, dPk, Fv.toVl, dBin, dUn, dTest, vTru, dTB_ev, tbK_bl, dAnd, dOr, dNot, dBV, dIf, dChain_ev, chK_bl, daNil, daCons, dTup, dLst, dIx, doNone, doSome, dSl, dFn, diVal, diRng, dCall, dRet, dRetN, dExpr, dIfS_ev, dAsg, gSet, gUn, gsNil, gsCons, itemsOf, dNext, dBreak, dCont, dRaise, dxC, dxE, dTold_ev, toldR_ok, toldR_exn, toldR_ite, dMeth, dFld, List.lookup, dSetF, putN, dPar, dPar3, vNeg, vSub_int, vAdd_int, vEq_int, vNe_int, vLt_int, vGt_int, vLe_int, vGe_int, vIx_lst, vIx_tup, atI_int, vSl_tup, vSl_lst, cutL_toI, cutL_fromI, cutL_midI, cutL_all, oLen, seqOf, oInt, oAbs, oMax2, oMin2, oTuple, oList, vIsN_non, vIsN_str, vIsN_int, vIsN_tup, vIsN_lst, dBm, tStr, tTup, tLst, dCat, lstOf, dListO, dLstO, dBmW, dTupRev, walkOf, dAndV_ev, andK_bl, dOrV_ev, orK_bl, Int.ofNat_inj, pr_eq, notin_prsL, in_prsL, h1', h1'', h2, hL, tf5, a0]
      exact fin F _ _ _ _ _ _ _ (.str "deed") rfl g (by omega)
    · rw [if_neg h2] at hL
      by_cases h3 : (s, p) ∉ T ∨ (s, p + 1) ∉ T
      · rw [if_pos h3] at hL
        by_cases h4 : (s, p) ∈ T
        · have h5 : (s, p + 1) ∉ T := h3.resolve_left fun z => z h4
          simp [wp_seqE, seqR_nx, seqR_rt, seqR_ct, seqR_bk, seqR_ex, seqR_ite, runF_ev, resR_nx, resR_rt, resR_ex, resR_ite, startE, wp_nxK, wp_rtK, wp_ctK, wp_bkK, wp_exK, wp_nxP, wp_rtP, wp_ite, R.bind_ok, R.bind_exn, sb_ok, sb_exn, opt_some, opt_ite, bind_ite, sb_ite, dC, dVar, dPk, Fv.toVl, dBin, dUn, dTest, vTru, dTB_ev, tbK_bl, dAnd, dOr, dNot, dBV, dIf, dChain_ev, chK_bl, daNil, daCons, dTup, dLst, dIx, doNone, doSome, dSl, dFn, diVal, diRng, dCall, dRet, dRetN, dExpr, dIfS_ev, dAsg, gSet, gUn, gsNil, gsCons, itemsOf, dNext, dBreak, dCont, dRaise, dxC, dxE, dTold_ev, toldR_ok, toldR_exn, toldR_ite, dMeth, dFld, List.lookup, dSetF, putN, dPar, dPar3, vNeg, vSub_int, vAdd_int, vEq_int, vNe_int, vLt_int, vGt_int, vLe_int, vGe_int, vIx_lst, vIx_tup, atI_int, vSl_tup, vSl_lst, cutL_toI, cutL_fromI, cutL_midI, cutL_all, oLen, seqOf, oInt, oAbs, oMax2, oMin2, oTuple, oList, vIsN_non, vIsN_str, vIsN_int, vIsN_tup, vIsN_lst, dBm, tStr, tTup, tLst, dCat, lstOf, dListO, dLstO, dBmW, dTupRev, walkOf, dAndV_ev, andK_bl, dOrV_ev, orK_bl, Int.ofNat_inj, pr_eq, notin_prsL, in_prsL, h1', h1'', h2, h4, h5, hL, tf3, a0]
          exact fin F _ _ _ _ _ _ _ (.str "no room") rfl g (by omega)
        · simp [wp_seqE, seqR_nx, seqR_rt, seqR_ct, seqR_bk, seqR_ex, seqR_ite, runF_ev, resR_nx, resR_rt, resR_ex, resR_ite, startE, wp_nxK, wp_rtK, wp_ctK, wp_bkK, wp_exK, wp_nxP, wp_rtP, wp_ite, R.bind_ok, R.bind_exn, sb_ok, sb_exn, opt_some, opt_ite, bind_ite, sb_ite, dC, dVar, dPk, Fv.toVl, dBin, dUn, dTest, vTru, dTB_ev, tbK_bl, dAnd, dOr, dNot, dBV, dIf, dChain_ev, chK_bl, daNil, daCons, dTup, dLst, dIx, doNone, doSome, dSl, dFn, diVal, diRng, dCall, dRet, dRetN, dExpr, dIfS_ev, dAsg, gSet, gUn, gsNil, gsCons, itemsOf, dNext, dBreak, dCont, dRaise, dxC, dxE, dTold_ev, toldR_ok, toldR_exn, toldR_ite, dMeth, dFld, List.lookup, dSetF, putN, dPar, dPar3, vNeg, vSub_int, vAdd_int, vEq_int, vNe_int, vLt_int, vGt_int, vLe_int, vGe_int, vIx_lst, vIx_tup, atI_int, vSl_tup, vSl_lst, cutL_toI, cutL_fromI, cutL_midI, cutL_all, oLen, seqOf, oInt, oAbs, oMax2, oMin2, oTuple, oList, vIsN_non, vIsN_str, vIsN_int, vIsN_tup, vIsN_lst, dBm, tStr, tTup, tLst, dCat, lstOf, dListO, dLstO, dBmW, dTupRev, walkOf, dAndV_ev, andK_bl, dOrV_ev, orK_bl, Int.ofNat_inj, pr_eq, notin_prsL, in_prsL, h1', h1'', h2, h4, hL, tf3, a0]
          exact fin F _ _ _ _ _ _ _ (.str "no room") rfl g (by omega)
      · rw [if_neg h3, srt_append] at hL
        have h4 : (s, p) ∈ T := Decidable.byContradiction fun z => h3 (.inl z)
        have h5 : (s, p + 1) ∈ T := Decidable.byContradiction fun z => h3 (.inr z)
        simp [wp_seqE, seqR_nx, seqR_rt, seqR_ct, seqR_bk, seqR_ex, seqR_ite, runF_ev, resR_nx, resR_rt, resR_ex, resR_ite, startE, wp_nxK, wp_rtK, wp_ctK, wp_bkK, wp_exK, wp_nxP, wp_rtP, wp_ite, R.bind_ok, R.bind_exn, sb_ok, sb_exn, opt_some, opt_ite, bind_ite, sb_ite, dC, dVar, dPk, Fv.toVl, dBin, dUn, dTest, vTru, dTB_ev, tbK_bl, dAnd, dOr, dNot, dBV, dIf, dChain_ev, chK_bl, daNil, daCons, dTup, dLst, dIx, doNone, doSome, dSl, dFn, diVal, diRng, dCall, dRet, dRetN, dExpr, dIfS_ev, dAsg, gSet, gUn, gsNil, gsCons, itemsOf, dNext, dBreak, dCont, dRaise, dxC, dxE, dTold_ev, toldR_ok, toldR_exn, toldR_ite, dMeth, dFld, List.lookup, dSetF, putN, dPar, dPar3, vNeg, vSub_int, vAdd_int, vEq_int, vNe_int, vLt_int, vGt_int, vLe_int, vGe_int, vIx_lst, vIx_tup, atI_int, vSl_tup, vSl_lst, cutL_toI, cutL_fromI, cutL_midI, cutL_all, oLen, seqOf, oInt, oAbs, oMax2, oMin2, oTuple, oList, vIsN_non, vIsN_str, vIsN_int, vIsN_tup, vIsN_lst, dBm, tStr, tTup, tLst, dCat, lstOf, dListO, dLstO, dBmW, dTupRev, walkOf, dAndV_ev, andK_bl, dOrV_ev, orK_bl, Int.ofNat_inj, pr_eq, notin_prsL, in_prsL, h1', h1'', h2, h4, h5, hL, a1, -List.map_append]
        exact fin (F ++ [(s, p)]) _ _ _ _ _ _ _ .non rfl (good_lay g h3) (by simp)
  · rw [if_neg h1] at hL
    by_cases h2 : (s, p) ∈ spots w
    · have h3 : (s, p + 1) ∉ spots w := fun z => h1 (mem_spots.mp z)
      simp [wp_seqE, seqR_nx, seqR_rt, seqR_ct, seqR_bk, seqR_ex, seqR_ite, runF_ev, resR_nx, resR_rt, resR_ex, resR_ite, startE, wp_nxK, wp_rtK, wp_ctK, wp_bkK, wp_exK, wp_nxP, wp_rtP, wp_ite, R.bind_ok, R.bind_exn, sb_ok, sb_exn, opt_some, opt_ite, bind_ite, sb_ite, dC, dVar, dPk, Fv.toVl, dBin, dUn, dTest, vTru, dTB_ev, tbK_bl, dAnd, dOr, dNot, dBV, dIf, dChain_ev, chK_bl, daNil, daCons, dTup, dLst, dIx, doNone, doSome, dSl, dFn, diVal, diRng, dCall, dRet, dRetN, dExpr, dIfS_ev, dAsg, gSet, gUn, gsNil, gsCons, itemsOf, dNext, dBreak, dCont, dRaise, dxC, dxE, dTold_ev, toldR_ok, toldR_exn, toldR_ite, dMeth, dFld, List.lookup, dSetF, putN, dPar, dPar3, vNeg, vSub_int, vAdd_int, vEq_int, vNe_int, vLt_int, vGt_int, vLe_int, vGe_int, vIx_lst, vIx_tup, atI_int, vSl_tup, vSl_lst, cutL_toI, cutL_fromI, cutL_midI, cutL_all, oLen, seqOf, oInt, oAbs, oMax2, oMin2, oTuple, oList, vIsN_non, vIsN_str, vIsN_int, vIsN_tup, vIsN_lst, dBm, tStr, tTup, tLst, dCat, lstOf, dListO, dLstO, dBmW, dTupRev, walkOf, dAndV_ev, andK_bl, dOrV_ev, orK_bl, Int.ofNat_inj, pr_eq, notin_prsL, in_prsL, h2, h3, hL, tf2, a0]
      exact fin F _ _ _ _ _ _ _ (.str "no such") rfl g (by omega)
    · simp [wp_seqE, seqR_nx, seqR_rt, seqR_ct, seqR_bk, seqR_ex, seqR_ite, runF_ev, resR_nx, resR_rt, resR_ex, resR_ite, startE, wp_nxK, wp_rtK, wp_ctK, wp_bkK, wp_exK, wp_nxP, wp_rtP, wp_ite, R.bind_ok, R.bind_exn, sb_ok, sb_exn, opt_some, opt_ite, bind_ite, sb_ite, dC, dVar, dPk, Fv.toVl, dBin, dUn, dTest, vTru, dTB_ev, tbK_bl, dAnd, dOr, dNot, dBV, dIf, dChain_ev, chK_bl, daNil, daCons, dTup, dLst, dIx, doNone, doSome, dSl, dFn, diVal, diRng, dCall, dRet, dRetN, dExpr, dIfS_ev, dAsg, gSet, gUn, gsNil, gsCons, itemsOf, dNext, dBreak, dCont, dRaise, dxC, dxE, dTold_ev, toldR_ok, toldR_exn, toldR_ite, dMeth, dFld, List.lookup, dSetF, putN, dPar, dPar3, vNeg, vSub_int, vAdd_int, vEq_int, vNe_int, vLt_int, vGt_int, vLe_int, vGe_int, vIx_lst, vIx_tup, atI_int, vSl_tup, vSl_lst, cutL_toI, cutL_fromI, cutL_midI, cutL_all, oLen, seqOf, oInt, oAbs, oMax2, oMin2, oTuple, oList, vIsN_non, vIsN_str, vIsN_int, vIsN_tup, vIsN_lst, dBm, tStr, tTup, tLst, dCat, lstOf, dListO, dLstO, dBmW, dTupRev, walkOf, dAndV_ev, andK_bl, dOrV_ev, orK_bl, Int.ofNat_inj, pr_eq, notin_prsL, in_prsL, h2, hL, tf2, a0]
      exact fin F _ _ _ _ _ _ _ (.str "no such") rfl g (by omega)
theorem c2_law (G : Gst) (x4 x11 x12 x14 x15 x16 x17 x18 : Option Fv) : C2_law (eL x0 x4 x5 x6 x7 x11 x12 (some (.val (pr (s, p)))) x14 x15 x16 x17 x18 w T F) G = .ok (.lst ((T.filter fun t => decide (t ≠ (s, p))).map pr)) G := by
  unfold C2_law
  rw [dLc_tm T pr (fun t => decide (t ≠ (s, p))) pr (G1 := G)]
  · simp [dSeq_ev, seqR_nx, seqR_rt, seqR_ct, seqR_bk, seqR_ex, seqR_ite, runF_ev, resR_nx, resR_rt, resR_ex, resR_ite, startE, wp_nxK, wp_rtK, wp_ctK, wp_bkK, wp_exK, wp_nxP, wp_rtP, wp_ite, R.bind_ok, R.bind_exn, sb_ok, sb_exn, opt_some, opt_ite, bind_ite, sb_ite, dC, dVar, dPk, Fv.toVl, dBin, dUn, dTest, vTru, dTB_ev, tbK_bl, dAnd, dOr, dNot, dBV, dIf, dChain_ev, chK_bl, daNil, daCons, dTup, dLst, dIx, doNone, doSome, dSl, dFn, diVal, diRng, dCall, dRet, dRetN, dExpr, dIfS_ev, dAsg, gSet, gUn, gsNil, gsCons, itemsOf, dNext, dBreak, dCont, dRaise, dxC, dxE, dTold_ev, toldR_ok, toldR_exn, toldR_ite, dMeth, dFld, List.lookup, dSetF, putN, dPar, dPar3, vNeg, vSub_int, vAdd_int, vEq_int, vNe_int, vLt_int, vGt_int, vLe_int, vGe_int, vIx_lst, vIx_tup, atI_int, vSl_tup, vSl_lst, cutL_toI, cutL_fromI, cutL_midI, cutL_all, oLen, seqOf, oInt, oAbs, oMax2, oMin2, oTuple, oList, vIsN_non, vIsN_str, vIsN_int, vIsN_tup, vIsN_lst, dBm, tStr, tTup, tLst, dCat, lstOf, dListO, dLstO, dBmW, dTupRev, walkOf, dAndV_ev, andK_bl, dOrV_ev, orK_bl, Int.ofNat_inj]
  · intro t _
    exact ⟨_, rfl, by simp [dSeq_ev, seqR_nx, seqR_rt, seqR_ct, seqR_bk, seqR_ex, seqR_ite, runF_ev, resR_nx, resR_rt, resR_ex, resR_ite, startE, wp_nxK, wp_rtK, wp_ctK, wp_bkK, wp_exK, wp_nxP, wp_rtP, wp_ite, R.bind_ok, R.bind_exn, sb_ok, sb_exn, opt_some, opt_ite, bind_ite, sb_ite, dC, dVar, dPk, Fv.toVl, dBin, dUn, dTest, vTru, dTB_ev, tbK_bl, dAnd, dOr, dNot, dBV, dIf, dChain_ev, chK_bl, daNil, daCons, dTup, dLst, dIx, doNone, doSome, dSl, dFn, diVal, diRng, dCall, dRet, dRetN, dExpr, dIfS_ev, dAsg, gSet, gUn, gsNil, gsCons, itemsOf, dNext, dBreak, dCont, dRaise, dxC, dxE, dTold_ev, toldR_ok, toldR_exn, toldR_ite, dMeth, dFld, List.lookup, dSetF, putN, dPar, dPar3, vNeg, vSub_int, vAdd_int, vEq_int, vNe_int, vLt_int, vGt_int, vLe_int, vGe_int, vIx_lst, vIx_tup, atI_int, vSl_tup, vSl_lst, cutL_toI, cutL_fromI, cutL_midI, cutL_all, oLen, seqOf, oInt, oAbs, oMax2, oMin2, oTuple, oList, vIsN_non, vIsN_str, vIsN_int, vIsN_tup, vIsN_lst, dBm, tStr, tTup, tLst, dCat, lstOf, dListO, dLstO, dBmW, dTupRev, walkOf, dAndV_ev, andK_bl, dOrV_ev, orK_bl, Int.ofNat_inj, wipeE, ne_pr], fun _ => by simp [dSeq_ev, seqR_nx, seqR_rt, seqR_ct, seqR_bk, seqR_ex, seqR_ite, runF_ev, resR_nx, resR_rt, resR_ex, resR_ite, startE, wp_nxK, wp_rtK, wp_ctK, wp_bkK, wp_exK, wp_nxP, wp_rtP, wp_ite, R.bind_ok, R.bind_exn, sb_ok, sb_exn, opt_some, opt_ite, bind_ite, sb_ite, dC, dVar, dPk, Fv.toVl, dBin, dUn, dTest, vTru, dTB_ev, tbK_bl, dAnd, dOr, dNot, dBV, dIf, dChain_ev, chK_bl, daNil, daCons, dTup, dLst, dIx, doNone, doSome, dSl, dFn, diVal, diRng, dCall, dRet, dRetN, dExpr, dIfS_ev, dAsg, gSet, gUn, gsNil, gsCons, itemsOf, dNext, dBreak, dCont, dRaise, dxC, dxE, dTold_ev, toldR_ok, toldR_exn, toldR_ite, dMeth, dFld, List.lookup, dSetF, putN, dPar, dPar3, vNeg, vSub_int, vAdd_int, vEq_int, vNe_int, vLt_int, vGt_int, vLe_int, vGe_int, vIx_lst, vIx_tup, atI_int, vSl_tup, vSl_lst, cutL_toI, cutL_fromI, cutL_midI, cutL_all, oLen, seqOf, oInt, oAbs, oMax2, oMin2, oTuple, oList, vIsN_non, vIsN_str, vIsN_int, vIsN_tup, vIsN_lst, dBm, tStr, tTup, tLst, dCat, lstOf, dListO, dLstO, dBmW, dTupRev, walkOf, dAndV_ev, andK_bl, dOrV_ev, orK_bl, Int.ofNat_inj, wipeE]⟩
  · omega
theorem knock_ok (hk : 6 ≤ k) : Wp (T4_2_law (eL x0 (some (.val (.int s))) x5 x6 x7 (some (.val (.int k))) (some (.val (.int p))) (some (.val (pr (s, p)))) (some (.val (pr (s, p + 1)))) x15 x16 x17 x18 w T F) [dO d, houO w (srt T) (srt F)]) (nxP I) := by
  have hL := house_knock [dO d, houO w (srt T) (srt F)] 1 w (by simp) (srt T) (srt F) s p rfl (by rw [srt_length]; omega) (by rw [srt_length]; omega) (by omega) (by omega)
  simp only [srt_mem] at hL
  have l1 : (T.filter fun t => decide (t ≠ (s, p))).length ≤ T.length := List.length_filter_le ..
  have b1 : ∀ t ∈ (T.filter fun t => decide (t ≠ (s, p))), t.1 + t.2 < w := fun t ht => g.b t (List.mem_filter.mp ht).1
  have hf := law_falls [dO d, houO w (srt T) (srt F)] (T.filter fun t => decide (t ≠ (s, p))) F (Nat.le_trans l1 hT) hF
  rw [lfall_st 12 (fun t ht => by have := b1 t ht; omega) (fun f hf => by have := g.f f hf; omega)] at hf
  have hc := fun x4 x11 x12 x14 x15 x16 x17 x18 => c2_law x0 x5 x6 x7 w T F hT hF I g hI s p hw hs hp [dO d, houO w (srt T) (srt F)] x4 x11 x12 x14 x15 x16 x17 x18
  have fin := fun (T' F' : List Sp2) (x4 x11 x12 x13 x14 x17 x18 : Option Fv) (v : Vl) (hv : gd 60 v = true) (gg : Good w T' F') (h1 : T'.length ≤ T.length) (h2 : F'.length ≤ F.length) => shown_ok d x0 x5 x6 x7 w T' F' (by omega) (by omega) x4 x11 x12 x13 x14 x17 x18 v hv (nxP I) (fin_ok d x0 x5 x6 x7 w T F I g hI s p hw hs hp gg (by omega) (by omega))
  have m2 : ∀ j : Int, vMul (.int 2) (.int j) = _ := vMul_l (by omega)
  have gg := good_st (F := F) b1
  have l2 : (stT (T.filter fun t => decide (t ≠ (s, p))) F).length ≤ T.length := Nat.le_trans (List.length_filter_le ..) l1
  have l3 : (stF (T.filter fun t => decide (t ≠ (s, p))) F).length ≤ F.length := List.length_filter_le ..
  have hst : (s, p) ∉ T → (T.filter fun t => decide (t ≠ (s, p))) = T := fun hn => List.filter_eq_self.mpr fun t ht => by
    simp only [decide_eq_true_eq]
    rintro rfl
    exact hn ht
  unfold T4_2_law
  refine wp_seq ?_
  refine wp_ifF (G1 := [dO d, houO w (srt T) (srt F)]) (by simp [dSeq_ev, seqR_nx, seqR_rt, seqR_ct, seqR_bk, seqR_ex, seqR_ite, runF_ev, resR_nx, resR_rt, resR_ex, resR_ite, startE, wp_nxK, wp_rtK, wp_ctK, wp_bkK, wp_exK, wp_nxP, wp_rtP, wp_ite, R.bind_ok, R.bind_exn, sb_ok, sb_exn, opt_some, opt_ite, bind_ite, sb_ite, dC, dVar, dPk, Fv.toVl, dBin, dUn, dTest, vTru, dTB_ev, tbK_bl, dAnd, dOr, dNot, dBV, dIf, dChain_ev, chK_bl, daNil, daCons, dTup, dLst, dIx, doNone, doSome, dSl, dFn, diVal, diRng, dCall, dRet, dRetN, dExpr, dIfS_ev, dAsg, gSet, gUn, gsNil, gsCons, itemsOf, dNext, dBreak, dCont, dRaise, dxC, dxE, dTold_ev, toldR_ok, toldR_exn, toldR_ite, dMeth, dFld, List.lookup, dSetF, putN, dPar, dPar3, vNeg, vSub_int, vAdd_int, vEq_int, vNe_int, vLt_int, vGt_int, vLe_int, vGe_int, vIx_lst, vIx_tup, atI_int, vSl_tup, vSl_lst, cutL_toI, cutL_fromI, cutL_midI, cutL_all, oLen, seqOf, oInt, oAbs, oMax2, oMin2, oTuple, oList, vIsN_non, vIsN_str, vIsN_int, vIsN_tup, vIsN_lst, dBm, tStr, tTup, tLst, dCat, lstOf, dListO, dLstO, dBmW, dTupRev, walkOf, dAndV_ev, andK_bl, dOrV_ev, orK_bl, Int.ofNat_inj]; omega) ?_
  refine wp_ifF (G1 := [dO d, houO w (srt T) (srt F)]) (by simp [dSeq_ev, seqR_nx, seqR_rt, seqR_ct, seqR_bk, seqR_ex, seqR_ite, runF_ev, resR_nx, resR_rt, resR_ex, resR_ite, startE, wp_nxK, wp_rtK, wp_ctK, wp_bkK, wp_exK, wp_nxP, wp_rtP, wp_ite, R.bind_ok, R.bind_exn, sb_ok, sb_exn, opt_some, opt_ite, bind_ite, sb_ite, dC, dVar, dPk, Fv.toVl, dBin, dUn, dTest, vTru, dTB_ev, tbK_bl, dAnd, dOr, dNot, dBV, dIf, dChain_ev, chK_bl, daNil, daCons, dTup, dLst, dIx, doNone, doSome, dSl, dFn, diVal, diRng, dCall, dRet, dRetN, dExpr, dIfS_ev, dAsg, gSet, gUn, gsNil, gsCons, itemsOf, dNext, dBreak, dCont, dRaise, dxC, dxE, dTold_ev, toldR_ok, toldR_exn, toldR_ite, dMeth, dFld, List.lookup, dSetF, putN, dPar, dPar3, vNeg, vSub_int, vAdd_int, vEq_int, vNe_int, vLt_int, vGt_int, vLe_int, vGe_int, vIx_lst, vIx_tup, atI_int, vSl_tup, vSl_lst, cutL_toI, cutL_fromI, cutL_midI, cutL_all, oLen, seqOf, oInt, oAbs, oMax2, oMin2, oTuple, oList, vIsN_non, vIsN_str, vIsN_int, vIsN_tup, vIsN_lst, dBm, tStr, tTup, tLst, dCat, lstOf, dListO, dLstO, dBmW, dTupRev, walkOf, dAndV_ev, andK_bl, dOrV_ev, orK_bl, Int.ofNat_inj]; omega) ?_
  by_cases h1 : (s, p) ∈ T
  · rw [if_pos h1] at hL
    have hb := g.b _ h1
    simp only at hb
    rw [knk_all (sta_srt g.s) w s p (by omega) (fun t ht => by have := g.b t (srt_mem.mp ht); omega) (fun f hf => by have := g.f f (srt_mem.mp hf); omega), srt_filter, stT_srt, stF_srt] at hL
    simp only [srt_length] at hL
    generalize stT (T.filter fun t => decide (t ≠ (s, p))) F = T' at *
    generalize stF (T.filter fun t => decide (t ≠ (s, p))) F = F' at *
    refine wp_asg (x := .int (2 * T.length + F.length)) (G1 := [dO d, houO w (srt T) (srt F)]) (by simp [dSeq_ev, seqR_nx, seqR_rt, seqR_ct, seqR_bk, seqR_ex, seqR_ite, runF_ev, resR_nx, resR_rt, resR_ex, resR_ite, startE, wp_nxK, wp_rtK, wp_ctK, wp_bkK, wp_exK, wp_nxP, wp_rtP, wp_ite, R.bind_ok, R.bind_exn, sb_ok, sb_exn, opt_some, opt_ite, bind_ite, sb_ite, dC, dVar, dPk, Fv.toVl, dBin, dUn, dTest, vTru, dTB_ev, tbK_bl, dAnd, dOr, dNot, dBV, dIf, dChain_ev, chK_bl, daNil, daCons, dTup, dLst, dIx, doNone, doSome, dSl, dFn, diVal, diRng, dCall, dRet, dRetN, dExpr, dIfS_ev, dAsg, gSet, gUn, gsNil, gsCons, itemsOf, dNext, dBreak, dCont, dRaise, dxC, dxE, dTold_ev, toldR_ok, toldR_exn, toldR_ite, dMeth, dFld, List.lookup, dSetF, putN, dPar, dPar3, vNeg, vSub_int, vAdd_int, vEq_int, vNe_int, vLt_int, vGt_int, vLe_int, vGe_int, vIx_lst, vIx_tup, atI_int, vSl_tup, vSl_lst, cutL_toI, cutL_fromI, cutL_midI, cutL_all, oLen, seqOf, oInt, oAbs, oMax2, oMin2, oTuple, oList, vIsN_non, vIsN_str, vIsN_int, vIsN_tup, vIsN_lst, dBm, tStr, tTup, tLst, dCat, lstOf, dListO, dLstO, dBmW, dTupRev, walkOf, dAndV_ev, andK_bl, dOrV_ev, orK_bl, Int.ofNat_inj, m2]) rfl ?_
    simp only [List.set_cons_succ, List.set_cons_zero]
    unfold T8_1_law
    refine wp_asg (x := .tup [.lst (T'.map pr), .lst (F'.map pr)]) (G1 := [dO d, houO w (srt T) (srt F)]) (by simp only [dSeq_ev, seqR_nx, seqR_rt, seqR_ct, seqR_bk, seqR_ex, seqR_ite, runF_ev, resR_nx, resR_rt, resR_ex, resR_ite, startE, wp_nxK, wp_rtK, wp_ctK, wp_bkK, wp_exK, wp_nxP, wp_rtP, wp_ite, R.bind_ok, R.bind_exn, sb_ok, sb_exn, opt_some, opt_ite, bind_ite, sb_ite, dC, dVar, dPk, Fv.toVl, dBin, dUn, dTest, vTru, dTB_ev, tbK_bl, dAnd, dOr, dNot, dBV, dIf, dChain_ev, chK_bl, daNil, daCons, dTup, dLst, dIx, doNone, doSome, dSl, dFn, diVal, diRng, dCall, dRet, dRetN, dExpr, dIfS_ev, dAsg, gSet, gUn, gsNil, gsCons, itemsOf, dNext, dBreak, dCont, dRaise, dxC, dxE, dTold_ev, toldR_ok, toldR_exn, toldR_ite, dMeth, dFld, List.lookup, dSetF, putN, dPar, dPar3, vNeg, vSub_int, vAdd_int, vEq_int, vNe_int, vLt_int, vGt_int, vLe_int, vGe_int, vIx_lst, vIx_tup, atI_int, vSl_tup, vSl_lst, cutL_toI, cutL_fromI, cutL_midI, cutL_all, oLen, seqOf, oInt, oAbs, oMax2, oMin2, oTuple, oList, vIsN_non, vIsN_str, vIsN_int, vIsN_tup, vIsN_lst, dBm, tStr, tTup, tLst, dCat, lstOf, dListO, dLstO, dBmW, dTupRev, walkOf, dAndV_ev, andK_bl, dOrV_ev, orK_bl, Int.ofNat_inj, hc]; exact hf) rfl ?_
    simp only [List.set_cons_succ, List.set_cons_zero]
    unfold T8_2_law T8_3_law T8_4_law
    have he : (2 * (T.length : Int) + F.length - 2 * T'.length - F'.length) = 2 * T.length + F.length - (2 * T'.length + F'.length) := by omega
    simp [wp_seqE, seqR_nx, seqR_rt, seqR_ct, seqR_bk, seqR_ex, seqR_ite, runF_ev, resR_nx, resR_rt, resR_ex, resR_ite, startE, wp_nxK, wp_rtK, wp_ctK, wp_bkK, wp_exK, wp_nxP, wp_rtP, wp_ite, R.bind_ok, R.bind_exn, sb_ok, sb_exn, opt_some, opt_ite, bind_ite, sb_ite, dC, dVar, dPk, Fv.toVl, dBin, dUn, dTest, vTru, dTB_ev, tbK_bl, dAnd, dOr, dNot, dBV, dIf, dChain_ev, chK_bl, daNil, daCons, dTup, dLst, dIx, doNone, doSome, dSl, dFn, diVal, diRng, dCall, dRet, dRetN, dExpr, dIfS_ev, dAsg, gSet, gUn, gsNil, gsCons, itemsOf, dNext, dBreak, dCont, dRaise, dxC, dxE, dTold_ev, toldR_ok, toldR_exn, toldR_ite, dMeth, dFld, List.lookup, dSetF, putN, dPar, dPar3, vNeg, vSub_int, vAdd_int, vEq_int, vNe_int, vLt_int, vGt_int, vLe_int, vGe_int, vIx_lst, vIx_tup, atI_int, vSl_tup, vSl_lst, cutL_toI, cutL_fromI, cutL_midI, cutL_all, oLen, seqOf, oInt, oAbs, oMax2, oMin2, oTuple, oList, vIsN_non, vIsN_str, vIsN_int, vIsN_tup, vIsN_lst, dBm, tStr, tTup, tLst, dCat, lstOf, dListO, dLstO, dBmW, dTupRev, walkOf, dAndV_ev, andK_bl, dOrV_ev, orK_bl, Int.ofNat_inj, in_prsL, h1, m2, hL, he]
    exact fin T' F' _ _ _ _ _ _ _ (.int _) rfl gg l2 l3
  · rw [if_neg h1] at hL
    have h2 := hst h1
    rw [h2, sta_stT g.s, sta_stF g.s] at hf
    rw [h2] at hc
    refine wp_asg (x := .int (2 * T.length + F.length)) (G1 := [dO d, houO w (srt T) (srt F)]) (by simp [dSeq_ev, seqR_nx, seqR_rt, seqR_ct, seqR_bk, seqR_ex, seqR_ite, runF_ev, resR_nx, resR_rt, resR_ex, resR_ite, startE, wp_nxK, wp_rtK, wp_ctK, wp_bkK, wp_exK, wp_nxP, wp_rtP, wp_ite, R.bind_ok, R.bind_exn, sb_ok, sb_exn, opt_some, opt_ite, bind_ite, sb_ite, dC, dVar, dPk, Fv.toVl, dBin, dUn, dTest, vTru, dTB_ev, tbK_bl, dAnd, dOr, dNot, dBV, dIf, dChain_ev, chK_bl, daNil, daCons, dTup, dLst, dIx, doNone, doSome, dSl, dFn, diVal, diRng, dCall, dRet, dRetN, dExpr, dIfS_ev, dAsg, gSet, gUn, gsNil, gsCons, itemsOf, dNext, dBreak, dCont, dRaise, dxC, dxE, dTold_ev, toldR_ok, toldR_exn, toldR_ite, dMeth, dFld, List.lookup, dSetF, putN, dPar, dPar3, vNeg, vSub_int, vAdd_int, vEq_int, vNe_int, vLt_int, vGt_int, vLe_int, vGe_int, vIx_lst, vIx_tup, atI_int, vSl_tup, vSl_lst, cutL_toI, cutL_fromI, cutL_midI, cutL_all, oLen, seqOf, oInt, oAbs, oMax2, oMin2, oTuple, oList, vIsN_non, vIsN_str, vIsN_int, vIsN_tup, vIsN_lst, dBm, tStr, tTup, tLst, dCat, lstOf, dListO, dLstO, dBmW, dTupRev, walkOf, dAndV_ev, andK_bl, dOrV_ev, orK_bl, Int.ofNat_inj, m2]) rfl ?_
    simp only [List.set_cons_succ, List.set_cons_zero]
    unfold T8_1_law
    refine wp_asg (x := .tup [.lst (T.map pr), .lst (F.map pr)]) (G1 := [dO d, houO w (srt T) (srt F)]) (by simp only [dSeq_ev, seqR_nx, seqR_rt, seqR_ct, seqR_bk, seqR_ex, seqR_ite, runF_ev, resR_nx, resR_rt, resR_ex, resR_ite, startE, wp_nxK, wp_rtK, wp_ctK, wp_bkK, wp_exK, wp_nxP, wp_rtP, wp_ite, R.bind_ok, R.bind_exn, sb_ok, sb_exn, opt_some, opt_ite, bind_ite, sb_ite, dC, dVar, dPk, Fv.toVl, dBin, dUn, dTest, vTru, dTB_ev, tbK_bl, dAnd, dOr, dNot, dBV, dIf, dChain_ev, chK_bl, daNil, daCons, dTup, dLst, dIx, doNone, doSome, dSl, dFn, diVal, diRng, dCall, dRet, dRetN, dExpr, dIfS_ev, dAsg, gSet, gUn, gsNil, gsCons, itemsOf, dNext, dBreak, dCont, dRaise, dxC, dxE, dTold_ev, toldR_ok, toldR_exn, toldR_ite, dMeth, dFld, List.lookup, dSetF, putN, dPar, dPar3, vNeg, vSub_int, vAdd_int, vEq_int, vNe_int, vLt_int, vGt_int, vLe_int, vGe_int, vIx_lst, vIx_tup, atI_int, vSl_tup, vSl_lst, cutL_toI, cutL_fromI, cutL_midI, cutL_all, oLen, seqOf, oInt, oAbs, oMax2, oMin2, oTuple, oList, vIsN_non, vIsN_str, vIsN_int, vIsN_tup, vIsN_lst, dBm, tStr, tTup, tLst, dCat, lstOf, dListO, dLstO, dBmW, dTupRev, walkOf, dAndV_ev, andK_bl, dOrV_ev, orK_bl, Int.ofNat_inj, hc]; exact hf) rfl ?_
    simp only [List.set_cons_succ, List.set_cons_zero]
    unfold T8_2_law T8_3_law T8_4_law
    simp [wp_seqE, seqR_nx, seqR_rt, seqR_ct, seqR_bk, seqR_ex, seqR_ite, runF_ev, resR_nx, resR_rt, resR_ex, resR_ite, startE, wp_nxK, wp_rtK, wp_ctK, wp_bkK, wp_exK, wp_nxP, wp_rtP, wp_ite, R.bind_ok, R.bind_exn, sb_ok, sb_exn, opt_some, opt_ite, bind_ite, sb_ite, dC, dVar, dPk, Fv.toVl, dBin, dUn, dTest, vTru, dTB_ev, tbK_bl, dAnd, dOr, dNot, dBV, dIf, dChain_ev, chK_bl, daNil, daCons, dTup, dLst, dIx, doNone, doSome, dSl, dFn, diVal, diRng, dCall, dRet, dRetN, dExpr, dIfS_ev, dAsg, gSet, gUn, gsNil, gsCons, itemsOf, dNext, dBreak, dCont, dRaise, dxC, dxE, dTold_ev, toldR_ok, toldR_exn, toldR_ite, dMeth, dFld, List.lookup, dSetF, putN, dPar, dPar3, vNeg, vSub_int, vAdd_int, vEq_int, vNe_int, vLt_int, vGt_int, vLe_int, vGe_int, vIx_lst, vIx_tup, atI_int, vSl_tup, vSl_lst, cutL_toI, cutL_fromI, cutL_midI, cutL_all, oLen, seqOf, oInt, oAbs, oMax2, oMin2, oTuple, oList, vIsN_non, vIsN_str, vIsN_int, vIsN_tup, vIsN_lst, dBm, tStr, tTup, tLst, dCat, lstOf, dListO, dLstO, dBmW, dTupRev, walkOf, dAndV_ev, andK_bl, dOrV_ev, orK_bl, Int.ofNat_inj, in_prsL, h1, m2, hL, tf5]
    exact fin T F _ _ _ _ _ _ _ (.str "deed") rfl g (by omega) (by omega)
end
/-- one deed -/
theorem step_ok (d : D3) (x0 x4 x5 x6 x7 x11 x12 x13 x14 x15 x16 x17 x18 : Option Fv) (w : Nat) (T F : List Sp2) (hT : T.length ≤ 900) (hF : F.length ≤ 900) (I : LEnv → Gst → Prop) (g : Good w T F)
    (hI : ∀ (d' : D3) (T' F' : List Sp2) x4 x11 x12 x13 x14 x15 x16 x17 x18, Good w T' F' → T'.length ≤ T.length + 1 → F'.length ≤ F.length + 1 → I (eL x0 x4 x5 x6 x7 x11 x12 x13 x14 x15 x16 x17 x18 w T' F') [dO d', houO w (srt T') (srt F')]) (hw : w ≤ 4) :
    Wp (T4_0_law (eL x0 x4 x5 x6 x7 x11 x12 x13 x14 x15 x16 x17 x18 w T F) [dO d, houO w (srt T) (srt F)]) (nxP I) := by
  unfold T4_0_law
  refine wp_seq ?_
  simp [seqR_nx, seqR_rt, seqR_ct, seqR_bk, seqR_ex, seqR_ite, runF_ev, resR_nx, resR_rt, resR_ex, resR_ite, startE, wp_nxK, wp_rtK, wp_ctK, wp_bkK, wp_exK, wp_nxP, wp_rtP, wp_ite, R.bind_ok, R.bind_exn, sb_ok, sb_exn, opt_some, opt_ite, bind_ite, sb_ite, dC, dVar, dPk, Fv.toVl, dBin, dUn, dTest, vTru, dTB_ev, tbK_bl, dAnd, dOr, dNot, dBV, dIf, dChain_ev, chK_bl, daNil, daCons, dTup, dLst, dIx, doNone, doSome, dSl, dFn, diVal, diRng, dCall, dRet, dRetN, dExpr, dIfS_ev, dAsg, gSet, gUn, gsNil, gsCons, itemsOf, dNext, dBreak, dCont, dRaise, dxC, dxE, dTold_ev, toldR_ok, toldR_exn, toldR_ite, dMeth, dFld, List.lookup, dSetF, putN, dPar, dPar3, vNeg, vSub_int, vAdd_int, vEq_int, vNe_int, vLt_int, vGt_int, vLe_int, vGe_int, vIx_lst, vIx_tup, atI_int, vSl_tup, vSl_lst, cutL_toI, cutL_fromI, cutL_midI, cutL_all, oLen, seqOf, oInt, oAbs, oMax2, oMin2, oTuple, oList, vIsN_non, vIsN_str, vIsN_int, vIsN_tup, vIsN_lst, dBm, tStr, tTup, tLst, dCat, lstOf, dListO, dLstO, dBmW, dTupRev, walkOf, dAndV_ev, andK_bl, dOrV_ev, orK_bl, Int.ofNat_inj, roll0]
  have h_k := rv_lt (m := 7) d (by decide)
  generalize rv 7 d = k at h_k ⊢
  generalize rd 7 d = d1
  have h_s := rv_lt (m := 4) d1 (by decide)
  generalize rv 4 d1 = s at h_s ⊢
  generalize rd 4 d1 = d2
  have h_p := rv_lt (m := 4) d2 (by decide)
  generalize rv 4 d2 = p at h_p ⊢
  generalize rd 4 d2 = d3
  unfold T4_1_law
  refine wp_asg (x := .tup [pr (s, p), pr (s, p + 1)]) (G1 := [dO d3, houO w (srt T) (srt F)]) (by simp [seqR_nx, seqR_rt, seqR_ct, seqR_bk, seqR_ex, seqR_ite, runF_ev, resR_nx, resR_rt, resR_ex, resR_ite, startE, wp_nxK, wp_rtK, wp_ctK, wp_bkK, wp_exK, wp_nxP, wp_rtP, wp_ite, R.bind_ok, R.bind_exn, sb_ok, sb_exn, opt_some, opt_ite, bind_ite, sb_ite, dC, dVar, dPk, Fv.toVl, dBin, dUn, dTest, vTru, dTB_ev, tbK_bl, dAnd, dOr, dNot, dBV, dIf, dChain_ev, chK_bl, daNil, daCons, dTup, dLst, dIx, doNone, doSome, dSl, dFn, diVal, diRng, dCall, dRet, dRetN, dExpr, dIfS_ev, dAsg, gSet, gUn, gsNil, gsCons, itemsOf, dNext, dBreak, dCont, dRaise, dxC, dxE, dTold_ev, toldR_ok, toldR_exn, toldR_ite, dMeth, dFld, List.lookup, dSetF, putN, dPar, dPar3, vNeg, vSub_int, vAdd_int, vEq_int, vNe_int, vLt_int, vGt_int, vLe_int, vGe_int, vIx_lst, vIx_tup, atI_int, vSl_tup, vSl_lst, cutL_toI, cutL_fromI, cutL_midI, cutL_all, oLen, seqOf, oInt, oAbs, oMax2, oMin2, oTuple, oList, vIsN_non, vIsN_str, vIsN_int, vIsN_tup, vIsN_lst, dBm, tStr, tTup, tLst, dCat, lstOf, dListO, dLstO, dBmW, dTupRev, walkOf, dAndV_ev, andK_bl, dOrV_ev, orK_bl, Int.ofNat_inj, pr_eq, pr_p1]) rfl ?_
  simp only [List.set_cons_succ, List.set_cons_zero]
  by_cases h1 : k < 3
  · exact lean_ok d3 x0 x5 x6 x7 w T F (by omega) (by omega) I g hI s p k hw (by omega) (by omega) _ _ _ _ h1 hT
  · by_cases h2 : k < 6
    · exact lay_ok d3 x0 x5 x6 x7 w T F (by omega) (by omega) I g hI s p k hw (by omega) (by omega) _ _ _ _ ⟨by omega, h2⟩ hF
    · exact knock_ok d3 x0 x5 x6 x7 w T F (by omega) (by omega) I g hI s p k hw (by omega) (by omega) _ _ _ _ (by omega)
end CardH
end
section
set_option maxHeartbeats 4000000
namespace CardH
open PySem PySem.Spec PyProof.Rows L2
theorem spots_ok (d : D3) (o : Ob) (x0 x1 : Option Fv) : ∀ w : Nat, 1 ≤ w → w ≤ 4 → T2_2_law [x0, x1, some (.val (.ref 1)), none, none, none, none, none, some (.val (.int w)), some (.val (.lst [])), some (.val (.lst [])), none, none, none, none, none, none, none, none, none, none] [dO d, o] =
    T2_4_law [x0, x1, some (.val (.ref 1)), some (.val (.lst ((spots w).map pr))), some (.val (.int ((w - 1 : Nat) : Nat))), none, none, none, some (.val (.int w)), some (.val (.lst [])), some (.val (.lst [])), none, none, none, none, none, none, none, none, none, none] [dO d, o]
  | 0, h, _ => absurd h (by omega)
  | 1, _, _ => by kernel_rfl
  | 2, _, _ => by kernel_rfl
  | 3, _, _ => by kernel_rfl
  | 4, _, _ => by kernel_rfl
  | n + 5, _, h => absurd h (by omega)
theorem whole_of (G : Gst) (e : LEnv) (x0 x1 x2 x3 x4 x5 x6 x9 x10 x11 x12 x13 x14 x15 x16 x17 x18 : Option Fv) : ∀ w : Nat, 1 ≤ w → w ≤ 4 → dFn oSumI (daCons C3_law daNil) [x0, x1, x2, x3, x4, x5, x6, none, some (.val (.int w)), x9, x10, x11, x12, x13, x14, x15, x16, x17, x18, none, none] G = .ok (.int (wholeN w)) G
  | 0, h, _ => absurd h (by omega)
  | 1, _, _ => by kernel_rfl
  | 2, _, _ => by kernel_rfl
  | 3, _, _ => by kernel_rfl
  | 4, _, _ => by kernel_rfl
  | n + 5, _, h => absurd h (by omega)
section
variable (G : Gst) (x0 x4 x5 x6 x7 x11 x12 x13 x14 x15 x16 x17 x18 : Option Fv) (w : Nat) (T F : List Sp2) (hT : T.length ≤ 1000) (hw : w ≤ 4)
include hT
theorem c4_law (q : Nat) (x20 : Option Fv) : C4_law [x0, some (.val (.ref 0)), some (.val (.ref 1)), some (.val (.lst ((spots w).map pr))), x4, x5, x6, x7, some (.val (.int w)), some (.val (.lst (T.map pr))), some (.val (.lst (F.map pr))), x11, x12, x13, x14, x15, x16, x17, x18, some (.val (.int q)), x20] G = .ok (.lst ((T.filter fun t => decide (t.1 = q)).map fun _ => .int 1)) G := by
  unfold C4_law
  rw [dLc_tm T pr (fun t => decide (t.1 = q)) (fun _ => .int 1) (G1 := G)]
  · simp [dSeq_ev, seqR_nx, seqR_rt, seqR_ct, seqR_bk, seqR_ex, seqR_ite, runF_ev, resR_nx, resR_rt, resR_ex, resR_ite, startE, wp_nxK, wp_rtK, wp_ctK, wp_bkK, wp_exK, wp_nxP, wp_rtP, wp_ite, R.bind_ok, R.bind_exn, sb_ok, sb_exn, opt_some, opt_ite, bind_ite, sb_ite, dC, dVar, dPk, Fv.toVl, dBin, dUn, dTest, vTru, dTB_ev, tbK_bl, dAnd, dOr, dNot, dBV, dIf, dChain_ev, chK_bl, daNil, daCons, dTup, dLst, dIx, doNone, doSome, dSl, dFn, diVal, diRng, dCall, dRet, dRetN, dExpr, dIfS_ev, dAsg, gSet, gUn, gsNil, gsCons, itemsOf, dNext, dBreak, dCont, dRaise, dxC, dxE, dTold_ev, toldR_ok, toldR_exn, toldR_ite, dMeth, dFld, List.lookup, dSetF, putN, dPar, dPar3, vNeg, vSub_int, vAdd_int, vEq_int, vNe_int, vLt_int, vGt_int, vLe_int, vGe_int, vIx_lst, vIx_tup, atI_int, vSl_tup, vSl_lst, cutL_toI, cutL_fromI, cutL_midI, cutL_all, oLen, seqOf, oInt, oAbs, oMax2, oMin2, oTuple, oList, vIsN_non, vIsN_str, vIsN_int, vIsN_tup, vIsN_lst, dBm, tStr, tTup, tLst, dCat, lstOf, dListO, dLstO, dBmW, dTupRev, walkOf, dAndV_ev, andK_bl, dOrV_ev, orK_bl, Int.ofNat_inj]
  · rintro ⟨a, b⟩ _
    have h0 := pr_0 G (a, b)
    generalize pr (a, b) = z at h0 ⊢
    exact ⟨_, rfl, by simp [dSeq_ev, seqR_nx, seqR_rt, seqR_ct, seqR_bk, seqR_ex, seqR_ite, runF_ev, resR_nx, resR_rt, resR_ex, resR_ite, startE, wp_nxK, wp_rtK, wp_ctK, wp_bkK, wp_exK, wp_nxP, wp_rtP, wp_ite, R.bind_ok, R.bind_exn, sb_ok, sb_exn, opt_some, opt_ite, bind_ite, sb_ite, dC, dVar, dPk, Fv.toVl, dBin, dUn, dTest, vTru, dTB_ev, tbK_bl, dAnd, dOr, dNot, dBV, dIf, dChain_ev, chK_bl, daNil, daCons, dTup, dLst, dIx, doNone, doSome, dSl, dFn, diVal, diRng, dCall, dRet, dRetN, dExpr, dIfS_ev, dAsg, gSet, gUn, gsNil, gsCons, itemsOf, dNext, dBreak, dCont, dRaise, dxC, dxE, dTold_ev, toldR_ok, toldR_exn, toldR_ite, dMeth, dFld, List.lookup, dSetF, putN, dPar, dPar3, vNeg, vSub_int, vAdd_int, vEq_int, vNe_int, vLt_int, vGt_int, vLe_int, vGe_int, vIx_lst, vIx_tup, atI_int, vSl_tup, vSl_lst, cutL_toI, cutL_fromI, cutL_midI, cutL_all, oLen, seqOf, oInt, oAbs, oMax2, oMin2, oTuple, oList, vIsN_non, vIsN_str, vIsN_int, vIsN_tup, vIsN_lst, dBm, tStr, tTup, tLst, dCat, lstOf, dListO, dLstO, dBmW, dTupRev, walkOf, dAndV_ev, andK_bl, dOrV_ev, orK_bl, Int.ofNat_inj, wipeE, h0], fun _ => by simp [dSeq_ev, seqR_nx, seqR_rt, seqR_ct, seqR_bk, seqR_ex, seqR_ite, runF_ev, resR_nx, resR_rt, resR_ex, resR_ite, startE, wp_nxK, wp_rtK, wp_ctK, wp_bkK, wp_exK, wp_nxP, wp_rtP, wp_ite, R.bind_ok, R.bind_exn, sb_ok, sb_exn, opt_some, opt_ite, bind_ite, sb_ite, dC, dVar, dPk, Fv.toVl, dBin, dUn, dTest, vTru, dTB_ev, tbK_bl, dAnd, dOr, dNot, dBV, dIf, dChain_ev, chK_bl, daNil, daCons, dTup, dLst, dIx, doNone, doSome, dSl, dFn, diVal, diRng, dCall, dRet, dRetN, dExpr, dIfS_ev, dAsg, gSet, gUn, gsNil, gsCons, itemsOf, dNext, dBreak, dCont, dRaise, dxC, dxE, dTold_ev, toldR_ok, toldR_exn, toldR_ite, dMeth, dFld, List.lookup, dSetF, putN, dPar, dPar3, vNeg, vSub_int, vAdd_int, vEq_int, vNe_int, vLt_int, vGt_int, vLe_int, vGe_int, vIx_lst, vIx_tup, atI_int, vSl_tup, vSl_lst, cutL_toI, cutL_fromI, cutL_midI, cutL_all, oLen, seqOf, oInt, oAbs, oMax2, oMin2, oTuple, oList, vIsN_non, vIsN_str, vIsN_int, vIsN_tup, vIsN_lst, dBm, tStr, tTup, tLst, dCat, lstOf, dListO, dLstO, dBmW, dTupRev, walkOf, dAndV_ev, andK_bl, dOrV_ev, orK_bl, Int.ofNat_inj, wipeE]⟩
  · omega
include hw
theorem c5_law : C5_law (eL x0 x4 x5 x6 x7 x11 x12 x13 x14 x15 x16 x17 x18 w T F) G = .ok (.lst ((stor w T).map fun k : Nat => .int (0 + (k : Nat)))) G := by
  have hr := rng1_nat w (by omega)
  have hc := c4_law G x0 x4 x5 x6 x7 x11 x12 x13 x14 x15 x16 x17 x18 w T F hT
  unfold C5_law stor
  rw [dLc_tm (List.range w) (fun k : Nat => .int (0 + (k : Nat))) (fun k => T.any fun t => decide (t.1 = k)) (fun k : Nat => .int (0 + (k : Nat))) (G1 := G)]
  · simp [dSeq_ev, seqR_nx, seqR_rt, seqR_ct, seqR_bk, seqR_ex, seqR_ite, runF_ev, resR_nx, resR_rt, resR_ex, resR_ite, startE, wp_nxK, wp_rtK, wp_ctK, wp_bkK, wp_exK, wp_nxP, wp_rtP, wp_ite, R.bind_ok, R.bind_exn, sb_ok, sb_exn, opt_some, opt_ite, bind_ite, sb_ite, dC, dVar, dPk, Fv.toVl, dBin, dUn, dTest, vTru, dTB_ev, tbK_bl, dAnd, dOr, dNot, dBV, dIf, dChain_ev, chK_bl, daNil, daCons, dTup, dLst, dIx, doNone, doSome, dSl, dFn, diVal, diRng, dCall, dRet, dRetN, dExpr, dIfS_ev, dAsg, gSet, gUn, gsNil, gsCons, itemsOf, dNext, dBreak, dCont, dRaise, dxC, dxE, dTold_ev, toldR_ok, toldR_exn, toldR_ite, dMeth, dFld, List.lookup, dSetF, putN, dPar, dPar3, vNeg, vSub_int, vAdd_int, vEq_int, vNe_int, vLt_int, vGt_int, vLe_int, vGe_int, vIx_lst, vIx_tup, atI_int, vSl_tup, vSl_lst, cutL_toI, cutL_fromI, cutL_midI, cutL_all, oLen, seqOf, oInt, oAbs, oMax2, oMin2, oTuple, oList, vIsN_non, vIsN_str, vIsN_int, vIsN_tup, vIsN_lst, dBm, tStr, tTup, tLst, dCat, lstOf, dListO, dLstO, dBmW, dTupRev, walkOf, dAndV_ev, andK_bl, dOrV_ev, orK_bl, Int.ofNat_inj, hr, rgL]
  · intro q _
    refine ⟨_, rfl, ?_, fun _ => by simp [dSeq_ev, seqR_nx, seqR_rt, seqR_ct, seqR_bk, seqR_ex, seqR_ite, runF_ev, resR_nx, resR_rt, resR_ex, resR_ite, startE, wp_nxK, wp_rtK, wp_ctK, wp_bkK, wp_exK, wp_nxP, wp_rtP, wp_ite, R.bind_ok, R.bind_exn, sb_ok, sb_exn, opt_some, opt_ite, bind_ite, sb_ite, dC, dVar, dPk, Fv.toVl, dBin, dUn, dTest, vTru, dTB_ev, tbK_bl, dAnd, dOr, dNot, dBV, dIf, dChain_ev, chK_bl, daNil, daCons, dTup, dLst, dIx, doNone, doSome, dSl, dFn, diVal, diRng, dCall, dRet, dRetN, dExpr, dIfS_ev, dAsg, gSet, gUn, gsNil, gsCons, itemsOf, dNext, dBreak, dCont, dRaise, dxC, dxE, dTold_ev, toldR_ok, toldR_exn, toldR_ite, dMeth, dFld, List.lookup, dSetF, putN, dPar, dPar3, vNeg, vSub_int, vAdd_int, vEq_int, vNe_int, vLt_int, vGt_int, vLe_int, vGe_int, vIx_lst, vIx_tup, atI_int, vSl_tup, vSl_lst, cutL_toI, cutL_fromI, cutL_midI, cutL_all, oLen, seqOf, oInt, oAbs, oMax2, oMin2, oTuple, oList, vIsN_non, vIsN_str, vIsN_int, vIsN_tup, vIsN_lst, dBm, tStr, tTup, tLst, dCat, lstOf, dListO, dLstO, dBmW, dTupRev, walkOf, dAndV_ev, andK_bl, dOrV_ev, orK_bl, Int.ofNat_inj, wipeE]⟩
    have hg : gds 59 ((T.filter fun t => decide (t.1 = q)).map fun _ => Vl.int 1) = true := gds_map _ _ _ fun _ => rfl
    have h0 := vNe_lst0 hg
    have e1 : (!((T.filter fun t => decide (t.1 = q)).map fun _ => Vl.int 1).isEmpty) = T.any fun t => decide (t.1 = q) := by
      rw [Bool.eq_iff_iff]
      simp
    rw [e1] at h0
    simp only [Int.zero_add]
    simp [dSeq_ev, seqR_nx, seqR_rt, seqR_ct, seqR_bk, seqR_ex, seqR_ite, runF_ev, resR_nx, resR_rt, resR_ex, resR_ite, startE, wp_nxK, wp_rtK, wp_ctK, wp_bkK, wp_exK, wp_nxP, wp_rtP, wp_ite, R.bind_ok, R.bind_exn, sb_ok, sb_exn, opt_some, opt_ite, bind_ite, sb_ite, dC, dVar, dPk, Fv.toVl, dBin, dUn, dTest, vTru, dTB_ev, tbK_bl, dAnd, dOr, dNot, dBV, dIf, dChain_ev, chK_bl, daNil, daCons, dTup, dLst, dIx, doNone, doSome, dSl, dFn, diVal, diRng, dCall, dRet, dRetN, dExpr, dIfS_ev, dAsg, gSet, gUn, gsNil, gsCons, itemsOf, dNext, dBreak, dCont, dRaise, dxC, dxE, dTold_ev, toldR_ok, toldR_exn, toldR_ite, dMeth, dFld, List.lookup, dSetF, putN, dPar, dPar3, vNeg, vSub_int, vAdd_int, vEq_int, vNe_int, vLt_int, vGt_int, vLe_int, vGe_int, vIx_lst, vIx_tup, atI_int, vSl_tup, vSl_lst, cutL_toI, cutL_fromI, cutL_midI, cutL_all, oLen, seqOf, oInt, oAbs, oMax2, oMin2, oTuple, oList, vIsN_non, vIsN_str, vIsN_int, vIsN_tup, vIsN_lst, dBm, tStr, tTup, tLst, dCat, lstOf, dListO, dLstO, dBmW, dTupRev, walkOf, dAndV_ev, andK_bl, dOrV_ev, orK_bl, Int.ofNat_inj, wipeE, hc, h0, -List.any_eq_true]
  · simp; omega
omit hT in
theorem c6_law : C6_law (eL x0 x4 x5 x6 x7 x11 x12 x13 x14 x15 x16 x17 x18 w T F) G = .ok (.lst (((spots w).filter (frP (srt T) (srt F))).map pr)) G := by
  unfold C6_law
  have hl : (spots w).length ≤ 16777216 := by
    rcases (show w = 0 ∨ w = 1 ∨ w = 2 ∨ w = 3 ∨ w = 4 by omega) with h | h | h | h | h <;> subst h <;> decide
  rw [dLc_tm (spots w) pr (frP (srt T) (srt F)) pr (G1 := G)]
  · simp [dSeq_ev, seqR_nx, seqR_rt, seqR_ct, seqR_bk, seqR_ex, seqR_ite, runF_ev, resR_nx, resR_rt, resR_ex, resR_ite, startE, wp_nxK, wp_rtK, wp_ctK, wp_bkK, wp_exK, wp_nxP, wp_rtP, wp_ite, R.bind_ok, R.bind_exn, sb_ok, sb_exn, opt_some, opt_ite, bind_ite, sb_ite, dC, dVar, dPk, Fv.toVl, dBin, dUn, dTest, vTru, dTB_ev, tbK_bl, dAnd, dOr, dNot, dBV, dIf, dChain_ev, chK_bl, daNil, daCons, dTup, dLst, dIx, doNone, doSome, dSl, dFn, diVal, diRng, dCall, dRet, dRetN, dExpr, dIfS_ev, dAsg, gSet, gUn, gsNil, gsCons, itemsOf, dNext, dBreak, dCont, dRaise, dxC, dxE, dTold_ev, toldR_ok, toldR_exn, toldR_ite, dMeth, dFld, List.lookup, dSetF, putN, dPar, dPar3, vNeg, vSub_int, vAdd_int, vEq_int, vNe_int, vLt_int, vGt_int, vLe_int, vGe_int, vIx_lst, vIx_tup, atI_int, vSl_tup, vSl_lst, cutL_toI, cutL_fromI, cutL_midI, cutL_all, oLen, seqOf, oInt, oAbs, oMax2, oMin2, oTuple, oList, vIsN_non, vIsN_str, vIsN_int, vIsN_tup, vIsN_lst, dBm, tStr, tTup, tLst, dCat, lstOf, dListO, dLstO, dBmW, dTupRev, walkOf, dAndV_ev, andK_bl, dOrV_ev, orK_bl, Int.ofNat_inj]
  · rintro ⟨a, b⟩ _
    refine ⟨_, rfl, ?_, fun _ => by simp [dSeq_ev, seqR_nx, seqR_rt, seqR_ct, seqR_bk, seqR_ex, seqR_ite, runF_ev, resR_nx, resR_rt, resR_ex, resR_ite, startE, wp_nxK, wp_rtK, wp_ctK, wp_bkK, wp_exK, wp_nxP, wp_rtP, wp_ite, R.bind_ok, R.bind_exn, sb_ok, sb_exn, opt_some, opt_ite, bind_ite, sb_ite, dC, dVar, dPk, Fv.toVl, dBin, dUn, dTest, vTru, dTB_ev, tbK_bl, dAnd, dOr, dNot, dBV, dIf, dChain_ev, chK_bl, daNil, daCons, dTup, dLst, dIx, doNone, doSome, dSl, dFn, diVal, diRng, dCall, dRet, dRetN, dExpr, dIfS_ev, dAsg, gSet, gUn, gsNil, gsCons, itemsOf, dNext, dBreak, dCont, dRaise, dxC, dxE, dTold_ev, toldR_ok, toldR_exn, toldR_ite, dMeth, dFld, List.lookup, dSetF, putN, dPar, dPar3, vNeg, vSub_int, vAdd_int, vEq_int, vNe_int, vLt_int, vGt_int, vLe_int, vGe_int, vIx_lst, vIx_tup, atI_int, vSl_tup, vSl_lst, cutL_toI, cutL_fromI, cutL_midI, cutL_all, oLen, seqOf, oInt, oAbs, oMax2, oMin2, oTuple, oList, vIsN_non, vIsN_str, vIsN_int, vIsN_tup, vIsN_lst, dBm, tStr, tTup, tLst, dCat, lstOf, dListO, dLstO, dBmW, dTupRev, walkOf, dAndV_ev, andK_bl, dOrV_ev, orK_bl, Int.ofNat_inj, wipeE]⟩
    have h0 := pr_0 G (a, b)
    have h1 := pr_1 G (a, b)
    have h2 := notin_prsL (l := T) (s := (a, b))
    generalize pr (a, b) = z at h0 h1 h2 ⊢
    unfold frP
    simp only [srt_mem]
    by_cases q : (a, b) ∈ T
    · simp [dSeq_ev, seqR_nx, seqR_rt, seqR_ct, seqR_bk, seqR_ex, seqR_ite, runF_ev, resR_nx, resR_rt, resR_ex, resR_ite, startE, wp_nxK, wp_rtK, wp_ctK, wp_bkK, wp_exK, wp_nxP, wp_rtP, wp_ite, R.bind_ok, R.bind_exn, sb_ok, sb_exn, opt_some, opt_ite, bind_ite, sb_ite, dC, dVar, dPk, Fv.toVl, dBin, dUn, dTest, vTru, dTB_ev, tbK_bl, dAnd, dOr, dNot, dBV, dIf, dChain_ev, chK_bl, daNil, daCons, dTup, dLst, dIx, doNone, doSome, dSl, dFn, diVal, diRng, dCall, dRet, dRetN, dExpr, dIfS_ev, dAsg, gSet, gUn, gsNil, gsCons, itemsOf, dNext, dBreak, dCont, dRaise, dxC, dxE, dTold_ev, toldR_ok, toldR_exn, toldR_ite, dMeth, dFld, List.lookup, dSetF, putN, dPar, dPar3, vNeg, vSub_int, vAdd_int, vEq_int, vNe_int, vLt_int, vGt_int, vLe_int, vGe_int, vIx_lst, vIx_tup, atI_int, vSl_tup, vSl_lst, cutL_toI, cutL_fromI, cutL_midI, cutL_all, oLen, seqOf, oInt, oAbs, oMax2, oMin2, oTuple, oList, vIsN_non, vIsN_str, vIsN_int, vIsN_tup, vIsN_lst, dBm, tStr, tTup, tLst, dCat, lstOf, dListO, dLstO, dBmW, dTupRev, walkOf, dAndV_ev, andK_bl, dOrV_ev, orK_bl, Int.ofNat_inj, wipeE, h2, q]
    · by_cases q0 : a = 0
      · subst q0
        simp [dSeq_ev, seqR_nx, seqR_rt, seqR_ct, seqR_bk, seqR_ex, seqR_ite, runF_ev, resR_nx, resR_rt, resR_ex, resR_ite, startE, wp_nxK, wp_rtK, wp_ctK, wp_bkK, wp_exK, wp_nxP, wp_rtP, wp_ite, R.bind_ok, R.bind_exn, sb_ok, sb_exn, opt_some, opt_ite, bind_ite, sb_ite, dC, dVar, dPk, Fv.toVl, dBin, dUn, dTest, vTru, dTB_ev, tbK_bl, dAnd, dOr, dNot, dBV, dIf, dChain_ev, chK_bl, daNil, daCons, dTup, dLst, dIx, doNone, doSome, dSl, dFn, diVal, diRng, dCall, dRet, dRetN, dExpr, dIfS_ev, dAsg, gSet, gUn, gsNil, gsCons, itemsOf, dNext, dBreak, dCont, dRaise, dxC, dxE, dTold_ev, toldR_ok, toldR_exn, toldR_ite, dMeth, dFld, List.lookup, dSetF, putN, dPar, dPar3, vNeg, vSub_int, vAdd_int, vEq_int, vNe_int, vLt_int, vGt_int, vLe_int, vGe_int, vIx_lst, vIx_tup, atI_int, vSl_tup, vSl_lst, cutL_toI, cutL_fromI, cutL_midI, cutL_all, oLen, seqOf, oInt, oAbs, oMax2, oMin2, oTuple, oList, vIsN_non, vIsN_str, vIsN_int, vIsN_tup, vIsN_lst, dBm, tStr, tTup, tLst, dCat, lstOf, dListO, dLstO, dBmW, dTupRev, walkOf, dAndV_ev, andK_bl, dOrV_ev, orK_bl, Int.ofNat_inj, wipeE, h2, q, h0]
      · have e1 := pr_s a b (by omega)
        have h3 := in_prsL (l := F) (s := (a - 1, b))
        generalize a - 1 = a' at e1 h3 ⊢
        by_cases q1 : (a', b) ∈ F
        · simp [dSeq_ev, seqR_nx, seqR_rt, seqR_ct, seqR_bk, seqR_ex, seqR_ite, runF_ev, resR_nx, resR_rt, resR_ex, resR_ite, startE, wp_nxK, wp_rtK, wp_ctK, wp_bkK, wp_exK, wp_nxP, wp_rtP, wp_ite, R.bind_ok, R.bind_exn, sb_ok, sb_exn, opt_some, opt_ite, bind_ite, sb_ite, dC, dVar, dPk, Fv.toVl, dBin, dUn, dTest, vTru, dTB_ev, tbK_bl, dAnd, dOr, dNot, dBV, dIf, dChain_ev, chK_bl, daNil, daCons, dTup, dLst, dIx, doNone, doSome, dSl, dFn, diVal, diRng, dCall, dRet, dRetN, dExpr, dIfS_ev, dAsg, gSet, gUn, gsNil, gsCons, itemsOf, dNext, dBreak, dCont, dRaise, dxC, dxE, dTold_ev, toldR_ok, toldR_exn, toldR_ite, dMeth, dFld, List.lookup, dSetF, putN, dPar, dPar3, vNeg, vSub_int, vAdd_int, vEq_int, vNe_int, vLt_int, vGt_int, vLe_int, vGe_int, vIx_lst, vIx_tup, atI_int, vSl_tup, vSl_lst, cutL_toI, cutL_fromI, cutL_midI, cutL_all, oLen, seqOf, oInt, oAbs, oMax2, oMin2, oTuple, oList, vIsN_non, vIsN_str, vIsN_int, vIsN_tup, vIsN_lst, dBm, tStr, tTup, tLst, dCat, lstOf, dListO, dLstO, dBmW, dTupRev, walkOf, dAndV_ev, andK_bl, dOrV_ev, orK_bl, Int.ofNat_inj, wipeE, h2, q, h0, h1, q0, e1, h3, q1]
        · simp [dSeq_ev, seqR_nx, seqR_rt, seqR_ct, seqR_bk, seqR_ex, seqR_ite, runF_ev, resR_nx, resR_rt, resR_ex, resR_ite, startE, wp_nxK, wp_rtK, wp_ctK, wp_bkK, wp_exK, wp_nxP, wp_rtP, wp_ite, R.bind_ok, R.bind_exn, sb_ok, sb_exn, opt_some, opt_ite, bind_ite, sb_ite, dC, dVar, dPk, Fv.toVl, dBin, dUn, dTest, vTru, dTB_ev, tbK_bl, dAnd, dOr, dNot, dBV, dIf, dChain_ev, chK_bl, daNil, daCons, dTup, dLst, dIx, doNone, doSome, dSl, dFn, diVal, diRng, dCall, dRet, dRetN, dExpr, dIfS_ev, dAsg, gSet, gUn, gsNil, gsCons, itemsOf, dNext, dBreak, dCont, dRaise, dxC, dxE, dTold_ev, toldR_ok, toldR_exn, toldR_ite, dMeth, dFld, List.lookup, dSetF, putN, dPar, dPar3, vNeg, vSub_int, vAdd_int, vEq_int, vNe_int, vLt_int, vGt_int, vLe_int, vGe_int, vIx_lst, vIx_tup, atI_int, vSl_tup, vSl_lst, cutL_toI, cutL_fromI, cutL_midI, cutL_all, oLen, seqOf, oInt, oAbs, oMax2, oMin2, oTuple, oList, vIsN_non, vIsN_str, vIsN_int, vIsN_tup, vIsN_lst, dBm, tStr, tTup, tLst, dCat, lstOf, dListO, dLstO, dBmW, dTupRev, walkOf, dAndV_ev, andK_bl, dOrV_ev, orK_bl, Int.ofNat_inj, wipeE, h2, q, h0, h1, q0, e1, h3, q1]
  · exact hl
end
theorem stor_srt (w : Nat) (T : List Sp2) : stor w (srt T) = stor w T := by
  unfold stor
  refine List.filter_congr fun k _ => ?_
  rw [Bool.eq_iff_iff]
  simp [srt_mem]
/-- what is asked of the house at the end -/
theorem tail_ok (d : D3) (x0 x4 x5 x11 x12 x13 x14 x15 x16 x17 x18 : Option Fv) (w : Nat) (T F : List Sp2) (hT : T.length ≤ 1000) (hF : F.length ≤ 1000) (h1 : 1 ≤ w) (h4 : w ≤ 4) (g : Good w T F) (P : SR → Prop) (k : ∀ e G, P (.nx e G)) :
    Wp (T2_5_law (eL x0 x4 x5 none none x11 x12 x13 x14 x15 x16 x17 x18 w T F) [dO d, houO w (srt T) (srt F)]) P := by
  have hc := house_count [dO d, houO w (srt T) (srt F)] 1 w (srt T) (srt F) rfl
  have hst := house_storeys [dO d, houO w (srt T) (srt F)] 1 w (srt T) (srt F) rfl (by rw [srt_length]; omega) (fun t ht => by have := g.b t (srt_mem.mp ht); omega)
  have hfr := house_free [dO d, houO w (srt T) (srt F)] 1 w (srt T) (srt F) rfl h4
  simp only [srt_length] at hc
  rw [stor_srt] at hst
  have hwh : M_House_whole [.ref 1] [dO d, houO w (srt T) (srt F)] = .ok (.bl (decide (2 * (T.length : Int) + F.length = wholeN w))) [dO d, houO w (srt T) (srt F)] := by
    have hcf := cards_for [dO d, houO w (srt T) (srt F)] w h1 h4
    unfold M_House_whole D_House_whole
    simp [dSeq_ev, seqR_nx, seqR_rt, seqR_ct, seqR_bk, seqR_ex, seqR_ite, runF_ev, resR_nx, resR_rt, resR_ex, resR_ite, startE, wp_nxK, wp_rtK, wp_ctK, wp_bkK, wp_exK, wp_nxP, wp_rtP, wp_ite, R.bind_ok, R.bind_exn, sb_ok, sb_exn, opt_some, opt_ite, bind_ite, sb_ite, dC, dVar, dPk, Fv.toVl, dBin, dUn, dTest, vTru, dTB_ev, tbK_bl, dAnd, dOr, dNot, dBV, dIf, dChain_ev, chK_bl, daNil, daCons, dTup, dLst, dIx, doNone, doSome, dSl, dFn, diVal, diRng, dCall, dRet, dRetN, dExpr, dIfS_ev, dAsg, gSet, gUn, gsNil, gsCons, itemsOf, dNext, dBreak, dCont, dRaise, dxC, dxE, dTold_ev, toldR_ok, toldR_exn, toldR_ite, dMeth, dFld, List.lookup, dSetF, putN, dPar, dPar3, vNeg, vSub_int, vAdd_int, vEq_int, vNe_int, vLt_int, vGt_int, vLe_int, vGe_int, vIx_lst, vIx_tup, atI_int, vSl_tup, vSl_lst, cutL_toI, cutL_fromI, cutL_midI, cutL_all, oLen, seqOf, oInt, oAbs, oMax2, oMin2, oTuple, oList, vIsN_non, vIsN_str, vIsN_int, vIsN_tup, vIsN_lst, dBm, tStr, tTup, tLst, dCat, lstOf, dListO, dLstO, dBmW, dTupRev, walkOf, dAndV_ev, andK_bl, dOrV_ev, orK_bl, Int.ofNat_inj, hc, hcf]
  have m2 : ∀ j : Int, vMul (.int 2) (.int j) = _ := vMul_l (by omega)
  unfold T2_5_law
  refine wp_asg (x := .int (2 * T.length + F.length)) (G1 := [dO d, houO w (srt T) (srt F)]) (by simp [dSeq_ev, seqR_nx, seqR_rt, seqR_ct, seqR_bk, seqR_ex, seqR_ite, runF_ev, resR_nx, resR_rt, resR_ex, resR_ite, startE, wp_nxK, wp_rtK, wp_ctK, wp_bkK, wp_exK, wp_nxP, wp_rtP, wp_ite, R.bind_ok, R.bind_exn, sb_ok, sb_exn, opt_some, opt_ite, bind_ite, sb_ite, dC, dVar, dPk, Fv.toVl, dBin, dUn, dTest, vTru, dTB_ev, tbK_bl, dAnd, dOr, dNot, dBV, dIf, dChain_ev, chK_bl, daNil, daCons, dTup, dLst, dIx, doNone, doSome, dSl, dFn, diVal, diRng, dCall, dRet, dRetN, dExpr, dIfS_ev, dAsg, gSet, gUn, gsNil, gsCons, itemsOf, dNext, dBreak, dCont, dRaise, dxC, dxE, dTold_ev, toldR_ok, toldR_exn, toldR_ite, dMeth, dFld, List.lookup, dSetF, putN, dPar, dPar3, vNeg, vSub_int, vAdd_int, vEq_int, vNe_int, vLt_int, vGt_int, vLe_int, vGe_int, vIx_lst, vIx_tup, atI_int, vSl_tup, vSl_lst, cutL_toI, cutL_fromI, cutL_midI, cutL_all, oLen, seqOf, oInt, oAbs, oMax2, oMin2, oTuple, oList, vIsN_non, vIsN_str, vIsN_int, vIsN_tup, vIsN_lst, dBm, tStr, tTup, tLst, dCat, lstOf, dListO, dLstO, dBmW, dTupRev, walkOf, dAndV_ev, andK_bl, dOrV_ev, orK_bl, Int.ofNat_inj, m2]) rfl ?_
  simp only [List.set_cons_succ, List.set_cons_zero]
  unfold T2_6_law
  refine wp_asg (x := .int (wholeN w)) (G1 := [dO d, houO w (srt T) (srt F)]) (whole_of _ [] _ _ _ _ _ _ _ _ _ _ _ _ _ _ _ _ _ w h1 h4) rfl ?_
  simp only [List.set_cons_succ, List.set_cons_zero]
  have h5 := c5_law [dO d, houO w (srt T) (srt F)] x0 x4 x5 (some (.val (.int (2 * T.length + F.length)))) (some (.val (.int (wholeN w)))) x11 x12 x13 x14 x15 x16 x17 x18 w T F hT h4
  have h6 := c6_law [dO d, houO w (srt T) (srt F)] x0 x4 x5 (some (.val (.int (2 * T.length + F.length)))) (some (.val (.int (wholeN w)))) x11 x12 x13 x14 x15 x16 x17 x18 w T F h4
  have hg : gds 59 (((spots w).filter (frP (srt T) (srt F))).map pr) = true := gds_prs
  unfold T2_7_law
  refine wp_chk (G1 := [dO d, houO w (srt T) (srt F)]) (by simp [dSeq_ev, seqR_nx, seqR_rt, seqR_ct, seqR_bk, seqR_ex, seqR_ite, runF_ev, resR_nx, resR_rt, resR_ex, resR_ite, startE, wp_nxK, wp_rtK, wp_ctK, wp_bkK, wp_exK, wp_nxP, wp_rtP, wp_ite, R.bind_ok, R.bind_exn, sb_ok, sb_exn, opt_some, opt_ite, bind_ite, sb_ite, dC, dVar, dPk, Fv.toVl, dBin, dUn, dTest, vTru, dTB_ev, tbK_bl, dAnd, dOr, dNot, dBV, dIf, dChain_ev, chK_bl, daNil, daCons, dTup, dLst, dIx, doNone, doSome, dSl, dFn, diVal, diRng, dCall, dRet, dRetN, dExpr, dIfS_ev, dAsg, gSet, gUn, gsNil, gsCons, itemsOf, dNext, dBreak, dCont, dRaise, dxC, dxE, dTold_ev, toldR_ok, toldR_exn, toldR_ite, dMeth, dFld, List.lookup, dSetF, putN, dPar, dPar3, vNeg, vSub_int, vAdd_int, vEq_int, vNe_int, vLt_int, vGt_int, vLe_int, vGe_int, vIx_lst, vIx_tup, atI_int, vSl_tup, vSl_lst, cutL_toI, cutL_fromI, cutL_midI, cutL_all, oLen, seqOf, oInt, oAbs, oMax2, oMin2, oTuple, oList, vIsN_non, vIsN_str, vIsN_int, vIsN_tup, vIsN_lst, dBm, tStr, tTup, tLst, dCat, lstOf, dListO, dLstO, dBmW, dTupRev, walkOf, dAndV_ev, andK_bl, dOrV_ev, orK_bl, Int.ofNat_inj, hc, hst, h5]) ?_
  unfold T2_8_law
  refine wp_chk (G1 := [dO d, houO w (srt T) (srt F)]) ?_ ?_
  · have hb : ∀ b : Bool, vNe (.bl b) (.bl b) = some (.bl false) := fun b => vNe_same (by simp [gd_str, gd_int, gd_bl, gd_non, gd_tup, gd_lst, gds_nil, gds_cons, gds_append, gds_str, gds_int, gds_take, gds_drop, gds_ints])
    have hn := vNe_same (x := .lst (((spots w).filter (frP (srt T) (srt F))).map pr)) hg
    simp [dSeq_ev, seqR_nx, seqR_rt, seqR_ct, seqR_bk, seqR_ex, seqR_ite, runF_ev, resR_nx, resR_rt, resR_ex, resR_ite, startE, wp_nxK, wp_rtK, wp_ctK, wp_bkK, wp_exK, wp_nxP, wp_rtP, wp_ite, R.bind_ok, R.bind_exn, sb_ok, sb_exn, opt_some, opt_ite, bind_ite, sb_ite, dC, dVar, dPk, Fv.toVl, dBin, dUn, dTest, vTru, dTB_ev, tbK_bl, dAnd, dOr, dNot, dBV, dIf, dChain_ev, chK_bl, daNil, daCons, dTup, dLst, dIx, doNone, doSome, dSl, dFn, diVal, diRng, dCall, dRet, dRetN, dExpr, dIfS_ev, dAsg, gSet, gUn, gsNil, gsCons, itemsOf, dNext, dBreak, dCont, dRaise, dxC, dxE, dTold_ev, toldR_ok, toldR_exn, toldR_ite, dMeth, dFld, List.lookup, dSetF, putN, dPar, dPar3, vNeg, vSub_int, vAdd_int, vEq_int, vNe_int, vLt_int, vGt_int, vLe_int, vGe_int, vIx_lst, vIx_tup, atI_int, vSl_tup, vSl_lst, cutL_toI, cutL_fromI, cutL_midI, cutL_all, oLen, seqOf, oInt, oAbs, oMax2, oMin2, oTuple, oList, vIsN_non, vIsN_str, vIsN_int, vIsN_tup, vIsN_lst, dBm, tStr, tTup, tLst, dCat, lstOf, dListO, dLstO, dBmW, dTupRev, walkOf, dAndV_ev, andK_bl, dOrV_ev, orK_bl, Int.ofNat_inj, hwh, hfr, h6, hb, hn]
  obtain ⟨G', hr⟩ := rest1 d w T F h1 h4 hT hF
  unfold T2_9_law
  refine wp_chk1 (G1 := G') ?_ (k _ _)
  simp [dSeq_ev, seqR_nx, seqR_rt, seqR_ct, seqR_bk, seqR_ex, seqR_ite, runF_ev, resR_nx, resR_rt, resR_ex, resR_ite, startE, wp_nxK, wp_rtK, wp_ctK, wp_bkK, wp_exK, wp_nxP, wp_rtP, wp_ite, R.bind_ok, R.bind_exn, sb_ok, sb_exn, opt_some, opt_ite, bind_ite, sb_ite, dC, dVar, dPk, Fv.toVl, dBin, dUn, dTest, vTru, dTB_ev, tbK_bl, dAnd, dOr, dNot, dBV, dIf, dChain_ev, chK_bl, daNil, daCons, dTup, dLst, dIx, doNone, doSome, dSl, dFn, diVal, diRng, dCall, dRet, dRetN, dExpr, dIfS_ev, dAsg, gSet, gUn, gsNil, gsCons, itemsOf, dNext, dBreak, dCont, dRaise, dxC, dxE, dTold_ev, toldR_ok, toldR_exn, toldR_ite, dMeth, dFld, List.lookup, dSetF, putN, dPar, dPar3, vNeg, vSub_int, vAdd_int, vEq_int, vNe_int, vLt_int, vGt_int, vLe_int, vGe_int, vIx_lst, vIx_tup, atI_int, vSl_tup, vSl_lst, cutL_toI, cutL_fromI, cutL_midI, cutL_all, oLen, seqOf, oInt, oAbs, oMax2, oMin2, oTuple, oList, vIsN_non, vIsN_str, vIsN_int, vIsN_tup, vIsN_lst, dBm, tStr, tTup, tLst, dCat, lstOf, dListO, dLstO, dBmW, dTupRev, walkOf, dAndV_ev, andK_bl, dOrV_ev, orK_bl, Int.ofNat_inj, hr]
theorem law_ok (ns : List Int) : ∃ G', M_law [.scr ns] [] = .ok (.bl true) G' := by
  obtain ⟨d, hr⟩ := round1 ns
  refine runF_true ?_
  simp only [startE, List.map_cons, List.map_nil, List.length_cons, List.length_nil, List.cons_append, List.nil_append, Nat.reduceAdd, Nat.reduceSub, List.replicate]
  unfold D_law
  refine wp_seq ?_
  simp [seqR_nx, seqR_rt, seqR_ct, seqR_bk, seqR_ex, seqR_ite, runF_ev, resR_nx, resR_rt, resR_ex, resR_ite, startE, wp_nxK, wp_rtK, wp_ctK, wp_bkK, wp_exK, wp_nxP, wp_rtP, wp_ite, R.bind_ok, R.bind_exn, sb_ok, sb_exn, opt_some, opt_ite, bind_ite, sb_ite, dC, dVar, dPk, Fv.toVl, dBin, dUn, dTest, vTru, dTB_ev, tbK_bl, dAnd, dOr, dNot, dBV, dIf, dChain_ev, chK_bl, daNil, daCons, dTup, dLst, dIx, doNone, doSome, dSl, dFn, diVal, diRng, dCall, dRet, dRetN, dExpr, dIfS_ev, dAsg, gSet, gUn, gsNil, gsCons, itemsOf, dNext, dBreak, dCont, dRaise, dxC, dxE, dTold_ev, toldR_ok, toldR_exn, toldR_ite, dMeth, dFld, List.lookup, dSetF, putN, dPar, dPar3, vNeg, vSub_int, vAdd_int, vEq_int, vNe_int, vLt_int, vGt_int, vLe_int, vGe_int, vIx_lst, vIx_tup, atI_int, vSl_tup, vSl_lst, cutL_toI, cutL_fromI, cutL_midI, cutL_all, oLen, seqOf, oInt, oAbs, oMax2, oMin2, oTuple, oList, vIsN_non, vIsN_str, vIsN_int, vIsN_tup, vIsN_lst, dBm, tStr, tTup, tLst, dCat, lstOf, dListO, dLstO, dBmW, dTupRev, walkOf, dAndV_ev, andK_bl, dOrV_ev, orK_bl, Int.ofNat_inj, dFor, hr]
  refine wp_for1 ?_
  simp only [List.set_cons_succ, List.set_cons_zero]
  unfold T2_0_law
  have h4 := rv_lt (m := 4) d (by decide)
  refine wp_asg (x := .tup [.int ((1 + rv 4 d : Nat) : Int), .lst [], .lst []]) (G1 := [dO (rd 4 d)]) (by simp [seqR_nx, seqR_rt, seqR_ct, seqR_bk, seqR_ex, seqR_ite, runF_ev, resR_nx, resR_rt, resR_ex, resR_ite, startE, wp_nxK, wp_rtK, wp_ctK, wp_bkK, wp_exK, wp_nxP, wp_rtP, wp_ite, R.bind_ok, R.bind_exn, sb_ok, sb_exn, opt_some, opt_ite, bind_ite, sb_ite, dC, dVar, dPk, Fv.toVl, dBin, dUn, dTest, vTru, dTB_ev, tbK_bl, dAnd, dOr, dNot, dBV, dIf, dChain_ev, chK_bl, daNil, daCons, dTup, dLst, dIx, doNone, doSome, dSl, dFn, diVal, diRng, dCall, dRet, dRetN, dExpr, dIfS_ev, dAsg, gSet, gUn, gsNil, gsCons, itemsOf, dNext, dBreak, dCont, dRaise, dxC, dxE, dTold_ev, toldR_ok, toldR_exn, toldR_ite, dMeth, dFld, List.lookup, dSetF, putN, dPar, dPar3, vNeg, vSub_int, vAdd_int, vEq_int, vNe_int, vLt_int, vGt_int, vLe_int, vGe_int, vIx_lst, vIx_tup, atI_int, vSl_tup, vSl_lst, cutL_toI, cutL_fromI, cutL_midI, cutL_all, oLen, seqOf, oInt, oAbs, oMax2, oMin2, oTuple, oList, vIsN_non, vIsN_str, vIsN_int, vIsN_tup, vIsN_lst, dBm, tStr, tTup, tLst, dCat, lstOf, dListO, dLstO, dBmW, dTupRev, walkOf, dAndV_ev, andK_bl, dOrV_ev, orK_bl, Int.ofNat_inj, roll0]) rfl ?_
  simp only [List.set_cons_succ, List.set_cons_zero]
  have hw : 1 ≤ 1 + rv 4 d ∧ 1 + rv 4 d ≤ 4 := by omega
  generalize 1 + rv 4 d = w at hw ⊢
  generalize rd 4 d = d1
  unfold T2_1_law
  have hm := house_make [dO d1] w hw.1
  refine wp_asg (x := .ref 1) (G1 := [dO d1, houO w [] []]) ?_ rfl ?_
  · simp at hm
    simp [seqR_nx, seqR_rt, seqR_ct, seqR_bk, seqR_ex, seqR_ite, runF_ev, resR_nx, resR_rt, resR_ex, resR_ite, startE, wp_nxK, wp_rtK, wp_ctK, wp_bkK, wp_exK, wp_nxP, wp_rtP, wp_ite, R.bind_ok, R.bind_exn, sb_ok, sb_exn, opt_some, opt_ite, bind_ite, sb_ite, dC, dVar, dPk, Fv.toVl, dBin, dUn, dTest, vTru, dTB_ev, tbK_bl, dAnd, dOr, dNot, dBV, dIf, dChain_ev, chK_bl, daNil, daCons, dTup, dLst, dIx, doNone, doSome, dSl, dFn, diVal, diRng, dCall, dRet, dRetN, dExpr, dIfS_ev, dAsg, gSet, gUn, gsNil, gsCons, itemsOf, dNext, dBreak, dCont, dRaise, dxC, dxE, dTold_ev, toldR_ok, toldR_exn, toldR_ite, dMeth, dFld, List.lookup, dSetF, putN, dPar, dPar3, vNeg, vSub_int, vAdd_int, vEq_int, vNe_int, vLt_int, vGt_int, vLe_int, vGe_int, vIx_lst, vIx_tup, atI_int, vSl_tup, vSl_lst, cutL_toI, cutL_fromI, cutL_midI, cutL_all, oLen, seqOf, oInt, oAbs, oMax2, oMin2, oTuple, oList, vIsN_non, vIsN_str, vIsN_int, vIsN_tup, vIsN_lst, dBm, tStr, tTup, tLst, dCat, lstOf, dListO, dLstO, dBmW, dTupRev, walkOf, dAndV_ev, andK_bl, dOrV_ev, orK_bl, Int.ofNat_inj, dMake, hm]
  simp only [List.set_cons_succ, List.set_cons_zero]
  rw [spots_ok d1 _ _ _ w hw.1 hw.2]
  unfold T2_4_law
  refine wp_seq ?_
  have hn := rv_lt (m := 15) d1 (by decide)
  simp [seqR_nx, seqR_rt, seqR_ct, seqR_bk, seqR_ex, seqR_ite, runF_ev, resR_nx, resR_rt, resR_ex, resR_ite, startE, wp_nxK, wp_rtK, wp_ctK, wp_bkK, wp_exK, wp_nxP, wp_rtP, wp_ite, R.bind_ok, R.bind_exn, sb_ok, sb_exn, opt_some, opt_ite, bind_ite, sb_ite, dC, dVar, dPk, Fv.toVl, dBin, dUn, dTest, vTru, dTB_ev, tbK_bl, dAnd, dOr, dNot, dBV, dIf, dChain_ev, chK_bl, daNil, daCons, dTup, dLst, dIx, doNone, doSome, dSl, dFn, diVal, diRng, dCall, dRet, dRetN, dExpr, dIfS_ev, dAsg, gSet, gUn, gsNil, gsCons, itemsOf, dNext, dBreak, dCont, dRaise, dxC, dxE, dTold_ev, toldR_ok, toldR_exn, toldR_ite, dMeth, dFld, List.lookup, dSetF, putN, dPar, dPar3, vNeg, vSub_int, vAdd_int, vEq_int, vNe_int, vLt_int, vGt_int, vLe_int, vGe_int, vIx_lst, vIx_tup, atI_int, vSl_tup, vSl_lst, cutL_toI, cutL_fromI, cutL_midI, cutL_all, oLen, seqOf, oInt, oAbs, oMax2, oMin2, oTuple, oList, vIsN_non, vIsN_str, vIsN_int, vIsN_tup, vIsN_lst, dBm, tStr, tTup, tLst, dCat, lstOf, dListO, dLstO, dBmW, dTupRev, walkOf, dAndV_ev, andK_bl, dOrV_ev, orK_bl, Int.ofNat_inj, dFor, roll0, rng1_nat (rv 15 d1) (by omega)]
  generalize rv 15 d1 = n at hn ⊢
  generalize rd 15 d1 = d2
  refine wp_forN (fun k e G => ∃ d T F x4 x5 x11 x12 x13 x14 x15 x16 x17 x18, e = eL _ x4 x5 none none x11 x12 x13 x14 x15 x16 x17 x18 w T F ∧ G = [dO d, houO w (srt T) (srt F)] ∧ Good w T F ∧ T.length ≤ k ∧ F.length ≤ k)
    ⟨d2, [], [], _, _, _, _, _, _, _, _, _, _, rfl, by simp [srt], ⟨⟨by simp, by simp⟩, by simp⟩, by simp, by simp⟩ ?_ ?_
  · rintro k x hx e G ⟨d, T, F, x4, x5, x11, x12, x13, x14, x15, x16, x17, x18, rfl, rfl, g, h1, h2⟩
    have hk : k < n := by
      have := (List.getElem?_eq_some_iff.mp hx).1
      simpa [rgL] using this
    simp only [List.set_cons_succ, List.set_cons_zero]
    refine step_ok d _ x4 (some (.val x)) none none x11 x12 x13 x14 x15 x16 x17 x18 w T F (by omega) (by omega) _ g ?_ hw.2
    intro d' T' F' x4 x11 x12 x13 x14 x15 x16 x17 x18 g' l1 l2
    exact ⟨d', T', F', x4, _, x11, x12, x13, x14, x15, x16, x17, x18, rfl, rfl, g', by omega, by omega⟩
  · rintro e G ⟨d, T, F, x4, x5, x11, x12, x13, x14, x15, x16, x17, x18, rfl, rfl, g, h1, h2⟩
    have hl : (rgL 0 n).length = n := by simp [rgL]
    rw [hl] at h1 h2
    simp only [wp_nxK]
    refine tail_ok d _ x4 x5 x11 x12 x13 x14 x15 x16 x17 x18 w T F (by omega) (by omega) hw.1 hw.2 g _ fun e G => ?_
    unfold T1_1_law
    simp [seqR_nx, seqR_rt, seqR_ct, seqR_bk, seqR_ex, seqR_ite, runF_ev, resR_nx, resR_rt, resR_ex, resR_ite, startE, wp_nxK, wp_rtK, wp_ctK, wp_bkK, wp_exK, wp_nxP, wp_rtP, wp_ite, R.bind_ok, R.bind_exn, sb_ok, sb_exn, opt_some, opt_ite, bind_ite, sb_ite, dC, dVar, dPk, Fv.toVl, dBin, dUn, dTest, vTru, dTB_ev, tbK_bl, dAnd, dOr, dNot, dBV, dIf, dChain_ev, chK_bl, daNil, daCons, dTup, dLst, dIx, doNone, doSome, dSl, dFn, diVal, diRng, dCall, dRet, dRetN, dExpr, dIfS_ev, dAsg, gSet, gUn, gsNil, gsCons, itemsOf, dNext, dBreak, dCont, dRaise, dxC, dxE, dTold_ev, toldR_ok, toldR_exn, toldR_ite, dMeth, dFld, List.lookup, dSetF, putN, dPar, dPar3, vNeg, vSub_int, vAdd_int, vEq_int, vNe_int, vLt_int, vGt_int, vLe_int, vGe_int, vIx_lst, vIx_tup, atI_int, vSl_tup, vSl_lst, cutL_toI, cutL_fromI, cutL_midI, cutL_all, oLen, seqOf, oInt, oAbs, oMax2, oMin2, oTuple, oList, vIsN_non, vIsN_str, vIsN_int, vIsN_tup, vIsN_lst, dBm, tStr, tTup, tLst, dCat, lstOf, dListO, dLstO, dBmW, dTupRev, walkOf, dAndV_ev, andK_bl, dOrV_ev, orK_bl, Int.ofNat_inj, rtP, Wp]
    exact trivial
end CardH
end
section
set_option maxHeartbeats 0
namespace CardH
open PySem PySem.Spec PyProof.Rows L2 LamX
section
variable {w : World} {K : PySem.W.Frag} {mg : PySem.Str → Option Value} {h : Heap} {f : Addr}
theorem lawAt (pl : ∀ ns : List Int, ns.length ≤ 63 → (∀ z ∈ ns, Builtin.Int.intBits z ≤ 1048576) → ∃ G', M_law [.scr ns] [] = .ok (.bl true) G') (X : K.In h) (G : h.Ns mainGlobals mg) (hf : mg "law" = some (.ref f)) (c : He.SaysX fa fn [] tf apB w h K) :
    LawAtS PySem.Challenge.rw_cardhall_k11_houses w K (L2.CX PySem.Challenge.rw_cardhall_k11_houses.prog w) 7 63 "script" mg f h := by
  obtain ⟨fd, F⟩ := c.t.d.def_ 24 (d := d_law) rfl
  have gl : ∀ x, He.Fa.glo x ∈ fa → mg x = some (.ref (He.ga K x)) := fun x hx => He.glo_ok X G (c.t.d.facts hx)
  have e := hf.symm.trans (gl "law" (List.mem_of_getElem? (i := 14) rfl))
  cases e
  refine ⟨fd, tf.map (He.cT K), spD (ktD K mg) 1 M_law, fun p hp => ?_, fun p hp => ?_, fun p hp => ?_, fun s v => (FunD.bindsA (ps := ["script"]) F fun _ _ _ _ _ _ us hl => match us, hl with | [_], _ => rfl) s [v] rfl, fun H a ns hl hb hT hS => ?_, fun base KB GB TB => ?_⟩
  · obtain ⟨q, hq, rfl⟩ := List.mem_map.mp hp
    exact c.empty q hq
  · obtain ⟨q, hq, rfl⟩ := List.mem_map.mp hp
    exact c.out q hq
  · obtain ⟨q, hq, rfl⟩ := List.mem_map.mp hp
    exact PySem.W.codeHd_of_K X (c.hd q hq)
  · refine sp_law (kt := ktD K mg) (Tl := tblL K) rfl (fun p hp => ?_) hS (pl ns hl hb)
    obtain ⟨q, hq, rfl⟩ := List.mem_map.mp hp
    exact hT (He.cT K q.1) (List.mem_map.mpr ⟨q.1, List.mem_map.mpr ⟨q, hq, rfl⟩, rfl⟩)
  · have kn : Kn K mg base := ⟨c.t.d, gl, fun x hx => He.free_ok X G (c.t.d.facts hx), fun x z hx => He.str_ok X G (c.t.d.facts hx), fun x i hx => He.int_ok X G (c.t.d.facts hx), fun p hp => TB _ (List.mem_map.mpr ⟨p, hp, rfl⟩), c.more⟩
    exact fnOk_ofD (kt := ktD K mg) (pp := ("law", none)) F sc_law D_law (fun A outer s H E W0 hr => B_law kn A outer s H E W0 hr)
end
end CardH
open PySem PySem.W PySem.Calls PyProof.Rows
theorem end_cardhall_k11_houses (pl : ∀ ns : List Int, ns.length ≤ 63 → (∀ z ∈ ns, Builtin.Int.intBits z ≤ 1048576) → ∃ G', CardH.M_law [.scr ns] [] = .ok (.bl true) G') : PySem.Challenge.rw_cardhall_k11_houses.Holds := by
  w_on; o_law
  refine HandSHeadRun.head_any (r := OpenLaw.row PySem.Challenge.rw_cardhall_k11_houses) (q := view (OpenLaw.row PySem.Challenge.rw_cardhall_k11_houses).prog [27]) (H := CardH.hk) (ob := CardH.ob) (M := 1000000) (loose := CardH.loose) (d := HandSHeadRun.topDef (OpenLaw.row PySem.Challenge.rw_cardhall_k11_houses).prog 27) (kwd := []) CardH.ob_eq
    (by kernel_rfl) (fun s => by kernel_rfl) CardH.run (by kernel_rfl) (by kernel_rfl) (by kernel_rfl) (by rfl) (by first | assumption | decide +kernel) (by decide +kernel) ⟨rfl, rfl, rfl, rfl, rfl, by decide +kernel⟩ ?hw ?hc
  case hw => w_witness2
  case hc =>
    refine LamX.walk_ofTsE (l := PySem.Challenge.rw_cardhall_k11_houses) (n := 63) (k := 7) (x := "script") (CX := fun w => L2.CX PySem.Challenge.rw_cardhall_k11_houses.prog w) rfl (by decide) (by kernel_rfl) ⟨rfl, by decide, by decide⟩ ?F (fun w H s e s' ⟨_, _, _, _, _, _, _, _, _, _, _, _, z⟩ => z)
    intro w mg fa h Y G hmg0
    obtain ⟨K, KX, c⟩ := Y
    have hmg : mg ("law" : PySem.Str) = some (.ref fa) := by
      have e : (HandSHeadRun.topDef (OpenLaw.row PySem.Challenge.rw_cardhall_k11_houses).prog 27).name = ("law" : PySem.Str) := by kernel_rfl
      rw [← e]
      exact hmg0
    exact ⟨K, KX, CardH.lawAt pl KX G hmg c⟩
end
open PySem PySem.W PyProof.Rows
set_option maxRecDepth 100000 in
set_option maxHeartbeats 8000000 in
theorem PySem.Challenge.cw_cardhall_k11_houses_holds : PySem.Challenge.rw_cardhall_k11_houses.Holds := by
  exact end_cardhall_k11_houses fun ns _ _ => CardH.law_ok ns
