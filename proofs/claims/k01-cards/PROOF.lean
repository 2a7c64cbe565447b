import PyProof.Rows.All
import Wide.All
import OpenK.AllK
import Wide.FinOn
import HandS.ForMost
import HandS.ForExc
import HandS.TryMany
import HandS.Lambda
import HandS.EndTab
import HandS.Walk
import HandS.Codes
import HandS.RaiseMore
import HandS.More
import HandS.Nested
import HandS.TupAny
import HandS.Wide
import HandS.Conv
import KE.DataCmp
import PyProof.Rows.InDataRows
import HandS.Dict
import HandS.Iter
import HandS.Rev
import HandS.Comp
import HandS.WordsExc
import HandS.Sort
import HandS.SortInts
import HandS.IsInst
import HandS.Small
import HandS.Style
import HandS.Defaults
import HandS.HeadHook4
import HandS.NestedK
import KE.GoesMore
import KE.GoesEnum
import HandS.GenList
import PyProof.GenCompD
import PyProof.CodeObjX
import PyProof.ConsumeS
import PyProof.SumAny
import HandS.Replace
import HandS.Strs
import HandS.RevTup
import KE.KStateDown
import HandS.Base
import HandS.Call
import HandS.Ends
import HandS.Words
import HandS.Head0
import HandS.Head1
import HandS.Head2
import HandS.HeadEnd
import HandS.HeadHook1
import HandS.HeadHook2
import HandS.HeadHook3
import PyProof.ExcBaseAll.ValueError
import HandS.HeadWalk
import PySem.Challenge.RW_cardhall_k01_cards
set_option Elab.async false
set_option linter.all false
set_option maxRecDepth 100000
section
set_option maxHeartbeats 2000000
namespace CardH
open PySem PySem.Spec PyProof.Rows L2

/-- a value as a tree: lists and dicts in it never change; .ref i is the i-th object of the store -/
inductive Vl where
  | non | bl (b : Bool) | int (i : Int) | str (x : Str)
  | tup (xs : List Vl) | lst (xs : List Vl) | dct (t : Bool) (kvs : List (Vl × Vl)) | ref (i : Nat)
  /-- the law's script: read only -/
  | scr (ns : List Int)
  /-- a tuple of the module's own; one that no more is told of (a dict's key) -/
  | ktp (xs : List Vl) | stp (xs : List Vl)
/-- what a slot or a field holds: a value, or a list, a dict of its own that may be changed in place -/
inductive Fv where
  | val (x : Vl) | ol (xs : List Vl) | od (t : Bool) (kvs : List (Vl × Vl))
def Fv.toVl : Fv → Vl
  | .val x => x
  | .ol xs => .lst xs
  | .od t kvs => .dct t kvs
inductive Ob where
  | lst (xs : List Vl) | ins (C : Nat) (fs : List (Nat × Fv))
structure Ex where
  cls : Nat
  row : Option Int := none
abbrev Gst := List Ob
abbrev LEnv := List (Option Fv)
inductive R (α : Type) where
  | ok (a : α) (G : Gst) | exn (c : Ex) (G : Gst) | bad
inductive SR where
  | nx (e : LEnv) (G : Gst) | rt (v : Vl) (G : Gst) | bk (e : LEnv) (G : Gst) | ct (e : LEnv) (G : Gst) | ex (c : Ex) (e : LEnv) (G : Gst) | bad
abbrev DE := LEnv → Gst → R Vl
abbrev DT := LEnv → Gst → R Bool
abbrev DA := LEnv → Gst → R (List Vl)
abbrev DS := LEnv → Gst → SR

inductive Role where
  | no | froz | slot (i : Nat) | fld (i : Nat) (f : Nat) | obj (i : Nat)
  /-- a list being made: nobody else knows it -/
  | tmp
  deriving DecidableEq
def keyOf : Vl → Option Key
  | .int i => some (.inl i)
  | .str x => some (.inr x)
  | _ => none
def keysOf : List Vl → Option (List Key)
  | [] => some []
  | x :: xs => match keyOf x, keysOf xs with
    | some k, some ks => some (k :: ks)
    | _, _ => none
def keyTOf : Vl → Option (List Key)
  | .stp xs => keysOf xs
  | _ => none

/-- a tuple, a list of the written part -/
def KTup (K : PySem.W.Frag) (a : Addr) (xs : List V) : Prop := ∃ (o : Obj) (its : Array Value) (n : Nat), K.lookup a = some o ∧ o.cls = .type "tuple" ∧ o.data = .seq its n ∧ its.size ≤ sizeLine ∧ Vals xs its.toList
def KLst (K : PySem.W.Frag) (a : Addr) (xs : List V) : Prop := ∃ (o : Obj) (its : Array Value) (n : Nat), K.lookup a = some o ∧ o.cls = .type "list" ∧ o.dict = none ∧ o.data = .seq its n ∧ its.size ≤ sizeLine ∧ Vals xs its.toList

def okStr (x : Str) : Bool := x.cps.all (· < 0x110000)
/-- where things stand -/
structure Wd where
  Γ : Addr → Role
  ρ : List Addr
  H : Hp

section
variable (K : PySem.W.Frag) (W : Wd)
mutual
def Rep : Vl → V → Prop
  | .non, v => v = .non
  | .bl b, v => v = .bl b
  | .int i, v => v = .int i
  | .str x, v => v = .str x ∧ okStr x = true
  | .tup xs, v => ∃ a vs o, v = .ref a ∧ W.Γ a = .no ∧ W.H a = some (.frz o (.tup vs)) ∧ o.dict = none ∧ Reps xs vs
  | .stp xs, v => ∃ a vs, v = .ref a ∧ W.H a = some (.tup vs) ∧ Reps xs vs
  | .lst xs, v => ∃ a vs, v = .ref a ∧ W.Γ a = .froz ∧ W.H a = some (.lst vs) ∧ Reps xs vs
  | .dct false kvs, v => ∃ a ks, v = .ref a ∧ W.Γ a = .froz ∧ Rd W.H a (.dK ks) ∧ RepK kvs ks
  | .dct true kvs, v => ∃ a ks, v = .ref a ∧ W.Γ a = .froz ∧ Rd W.H a (.dT ks) ∧ RepT kvs ks
  | .ref i, v => ∃ a, v = .ref a ∧ W.ρ[i]? = some a
  | .ktp xs, v => ∃ a vs, v = .ref a ∧ KTup K a vs ∧ Reps xs vs
  | .scr ns, v => ∃ a, v = .ref a ∧ ((W.Γ a = .no ∧ Rd W.H a (.lst (ns.map V.int))) ∨ KLst K a (ns.map V.int))
def Reps : List Vl → List V → Prop
  | [], vs => vs = []
  | x :: xs, vs => ∃ v r, vs = v :: r ∧ Rep x v ∧ Reps xs r
def RepK : List (Vl × Vl) → List (Key × V) → Prop
  | [], ks => ks = []
  | (k, x) :: kvs, ks => ∃ q v r, ks = (q, v) :: r ∧ keyOf k = some q ∧ Rep x v ∧ RepK kvs r
def RepT : List (Vl × Vl) → List (List Key × V) → Prop
  | [], ks => ks = []
  | (k, x) :: kvs, ks => ∃ q v r, ks = (q, v) :: r ∧ keyTOf k = some q ∧ Rep x v ∧ RepT kvs r
end
end

/-- what is not changed by anybody: all but objects and what their fields own -/
def Role.still : Role → Bool
  | .obj _ => false
  | .fld _ _ => false
  | _ => true
/-- W' comes behind W; p: nothing that stood is changed -/
structure Ext (p : Bool) (W W' : Wd) : Prop where
  role : ∀ a, W.H a ≠ none → W'.Γ a = W.Γ a
  keep : ∀ a o, W.H a = some o → (∀ ps, o ≠ .tbl ps) → (p = true ∨ (W.Γ a).still = true) → W'.H a = some o
  tups : ∀ a xs, W.H a = some (.tup xs) → W'.H a = some (.tup xs)
  there : ∀ a, W.H a ≠ none → W'.H a ≠ none
  pre : ∃ r, W'.ρ = W.ρ ++ r
/-- .. but what is being made -/
structure ExtR (p : Bool) (S : Role → Bool) (W W' : Wd) : Prop where
  role : ∀ a, W.H a ≠ none → S (W.Γ a) = false → W'.Γ a = W.Γ a
  keep : ∀ a o, W.H a = some o → (∀ ps, o ≠ .tbl ps) → S (W.Γ a) = false → (p = true ∨ (W.Γ a).still = true) → W'.H a = some o
  tups : ∀ a xs, W.H a = some (.tup xs) → W'.H a = some (.tup xs)
  there : ∀ a, W.H a ≠ none → W'.H a ≠ none
  pre : ∃ r, W'.ρ = W.ρ ++ r
theorem Ext.toR {p : Bool} {W W' : Wd} (e : Ext p W W') : ExtR p (fun _ => false) W W' := ⟨fun a h _ => e.role a h, fun a o h nt _ hp => e.keep a o h nt hp, e.tups, e.there, e.pre⟩
theorem Ext.refl {p : Bool} {W : Wd} : Ext p W W := ⟨fun _ _ => rfl, fun _ _ h _ _ => h, fun _ _ h => h, fun _ h => h, [], by simp⟩
theorem Ext.trans {p q : Bool} {W W1 W2 : Wd} (a : Ext p W W1) (b : Ext q W1 W2) : Ext (p && q) W W2 where
  role := fun x h => (b.role x (a.there x h)).trans (a.role x h)
  keep := fun x o h nt hp => by
    have h1 : W1.H x = some o := a.keep x o h nt (hp.imp (fun z => (Bool.and_eq_true _ _ ▸ z).1) id)
    exact b.keep x o h1 nt (hp.imp (fun z => (Bool.and_eq_true _ _ ▸ z).2) fun z => by rw [a.role x (by rw [h]; simp)]; exact z)
  tups := fun x xs h => b.tups x xs (a.tups x xs h)
  there := fun x h => b.there x (a.there x h)
  pre := by
    obtain ⟨r, e⟩ := a.pre
    obtain ⟨r', e'⟩ := b.pre
    exact ⟨r ++ r', by rw [e', e, List.append_assoc]⟩
theorem Ext.mono {p q : Bool} {W W' : Wd} (a : Ext p W W') (h : q = true → p = true) : Ext q W W' :=
  ⟨a.role, fun x o hx nt hp => a.keep x o hx nt (hp.imp h id), a.tups, a.there, a.pre⟩
theorem Ext.weak {p : Bool} {W W' : Wd} (a : Ext true W W') : Ext p W W' := a.mono fun _ => rfl
theorem ExtR.refl {p : Bool} {S : Role → Bool} {W : Wd} : ExtR p S W W := ⟨fun _ _ _ => rfl, fun _ _ h _ _ _ => h, fun _ _ h => h, fun _ h => h, [], by simp⟩
theorem ExtR.trans {p : Bool} {S : Role → Bool} {W W1 W2 : Wd} (a : ExtR p S W W1) (b : ExtR p S W1 W2) : ExtR p S W W2 where
  role := fun x h hs => by
    have h1 := a.role x h hs
    exact (b.role x (a.there x h) (by rw [h1]; exact hs)).trans h1
  keep := fun x o h nt hs hp => by
    have hn : W.H x ≠ none := by rw [h]; simp
    have h1 := a.role x hn hs
    exact b.keep x o (a.keep x o h nt hs hp) nt (by rw [h1]; exact hs) (by rw [h1]; exact hp)
  tups := fun x xs h => b.tups x xs (a.tups x xs h)
  there := fun x h => b.there x (a.there x h)
  pre := by
    obtain ⟨r, e⟩ := a.pre
    obtain ⟨r', e'⟩ := b.pre
    exact ⟨r ++ r', by rw [e', e, List.append_assoc]⟩
def isSl : Role → Bool
  | .slot _ => true
  | _ => false
/-- a slot's own list, dict may be written -/
abbrev ExtS (W W' : Wd) : Prop := ExtR false isSl W W'
theorem Ext.toS {p : Bool} {W W' : Wd} (e : Ext p W W') : ExtS W W' := ⟨fun a h _ => e.role a h, fun a o h nt _ hp => e.keep a o h nt (hp.imp (fun z => nomatch z) id), e.tups, e.there, e.pre⟩
theorem ExtR.ref {p : Bool} {S : Role → Bool} {W W' : Wd} (a : ExtR p S W W') {i : Nat} {x : Addr} (h : W.ρ[i]? = some x) : W'.ρ[i]? = some x := by
  obtain ⟨r, e⟩ := a.pre
  rw [e, List.getElem?_append_left (List.getElem?_eq_some_iff.mp h).1, h]
theorem rd_some {H : Hp} {a : Addr} {u : HO} (h : Rd H a u) : H a ≠ none := by
  rcases h with h | ⟨o, h⟩ <;> rw [h] <;> simp
theorem rd_keep {p : Bool} {S : Role → Bool} {W W' : Wd} (e : ExtR p S W W') {a : Addr} {u : HO} (ht : S (W.Γ a) = false) (hp : p = true ∨ (W.Γ a).still = true) (nt : ∀ ps, u ≠ .tbl ps) (h : Rd W.H a u) : Rd W'.H a u := by
  rcases h with h | ⟨o, h⟩
  · exact .inl (e.keep a _ h nt ht hp)
  · exact .inr ⟨o, e.keep a _ h (fun _ z => nomatch z) ht hp⟩

section
variable {K : PySem.W.Frag} {p : Bool} {S : Role → Bool} {W W' : Wd}
mutual
theorem Rep.extR (e : ExtR p S W W') (h0 : S .no = false) (h1' : S .froz = false) : ∀ (x : Vl) (v : V), Rep K W x v → Rep K W' x v
  | .non, _, h => h
  | .bl _, _, h => h
  | .int _, _, h => h
  | .str _, _, h => h
  | .tup xs, v, h => by
    obtain ⟨a, vs, o, e1, g, h1, hd, h2⟩ := h
    exact ⟨a, vs, o, e1, (e.role a (by rw [h1]; simp) (by rw [g]; exact h0)).trans g, e.keep a _ h1 (fun _ z => nomatch z) (by rw [g]; exact h0) (.inr (by rw [g]; rfl)), hd, Reps.extR e h0 h1' xs vs h2⟩
  | .stp xs, v, h => by
    obtain ⟨a, vs, e1, h1, h2⟩ := h
    exact ⟨a, vs, e1, e.tups a vs h1, Reps.extR e h0 h1' xs vs h2⟩
  | .lst xs, v, h => by
    obtain ⟨a, vs, e1, g, h1, h2⟩ := h
    exact ⟨a, vs, e1, (e.role a (by rw [h1]; simp) (by rw [g]; exact h1')).trans g, e.keep a _ h1 (fun _ z => nomatch z) (by rw [g]; exact h1') (.inr (by rw [g]; rfl)), Reps.extR e h0 h1' xs vs h2⟩
  | .dct false kvs, v, h => by
    obtain ⟨a, ks, e1, g, r, h2⟩ := h
    exact ⟨a, ks, e1, (e.role a (rd_some r) (by rw [g]; exact h1')).trans g, rd_keep e (by rw [g]; exact h1') (.inr (by rw [g]; rfl)) (fun _ z => nomatch z) r, RepK.extR e h0 h1' kvs ks h2⟩
  | .dct true kvs, v, h => by
    obtain ⟨a, ks, e1, g, r, h2⟩ := h
    exact ⟨a, ks, e1, (e.role a (rd_some r) (by rw [g]; exact h1')).trans g, rd_keep e (by rw [g]; exact h1') (.inr (by rw [g]; rfl)) (fun _ z => nomatch z) r, RepT.extR e h0 h1' kvs ks h2⟩
  | .ref i, v, h => by
    obtain ⟨a, e1, h1⟩ := h
    exact ⟨a, e1, e.ref h1⟩
  | .ktp xs, v, h => by
    obtain ⟨a, vs, e1, h1, h2⟩ := h
    exact ⟨a, vs, e1, h1, Reps.extR e h0 h1' xs vs h2⟩
  | .scr ns, v, h => by
    obtain ⟨a, e1, h1⟩ := h
    exact ⟨a, e1, h1.imp (fun ⟨g, r⟩ => ⟨(e.role a (rd_some r) (by rw [g]; exact h0)).trans g, rd_keep e (by rw [g]; exact h0) (.inr (by rw [g]; rfl)) (fun _ z => nomatch z) r⟩) id⟩
theorem Reps.extR (e : ExtR p S W W') (h0 : S .no = false) (h1' : S .froz = false) : ∀ (xs : List Vl) (vs : List V), Reps K W xs vs → Reps K W' xs vs
  | [], _, h => h
  | x :: xs, vs, h => by
    obtain ⟨v, r, e1, h1, h2⟩ := h
    exact ⟨v, r, e1, Rep.extR e h0 h1' x v h1, Reps.extR e h0 h1' xs r h2⟩
theorem RepK.extR (e : ExtR p S W W') (h0 : S .no = false) (h1' : S .froz = false) : ∀ (kvs : List (Vl × Vl)) (ks : List (Key × V)), RepK K W kvs ks → RepK K W' kvs ks
  | [], _, h => h
  | (k, x) :: kvs, ks, h => by
    obtain ⟨q, v, r, e1, e2, h1, h2⟩ := h
    exact ⟨q, v, r, e1, e2, Rep.extR e h0 h1' x v h1, RepK.extR e h0 h1' kvs r h2⟩
theorem RepT.extR (e : ExtR p S W W') (h0 : S .no = false) (h1' : S .froz = false) : ∀ (kvs : List (Vl × Vl)) (ks : List (List Key × V)), RepT K W kvs ks → RepT K W' kvs ks
  | [], _, h => h
  | (k, x) :: kvs, ks, h => by
    obtain ⟨q, v, r, e1, e2, h1, h2⟩ := h
    exact ⟨q, v, r, e1, e2, Rep.extR e h0 h1' x v h1, RepT.extR e h0 h1' kvs r h2⟩
end

theorem Rep.ext (e : Ext p W W') (x : Vl) (v : V) (h : Rep K W x v) : Rep K W' x v := Rep.extR e.toR rfl rfl x v h
theorem Reps.ext (e : Ext p W W') (xs : List Vl) (vs : List V) (h : Reps K W xs vs) : Reps K W' xs vs := Reps.extR e.toR rfl rfl xs vs h
theorem RepK.ext (e : Ext p W W') (kvs : List (Vl × Vl)) (ks : List (Key × V)) (h : RepK K W kvs ks) : RepK K W' kvs ks := RepK.extR e.toR rfl rfl kvs ks h
theorem RepT.ext (e : Ext p W W') (kvs : List (Vl × Vl)) (ks : List (List Key × V)) (h : RepT K W kvs ks) : RepT K W' kvs ks := RepT.extR e.toR rfl rfl kvs ks h

theorem Reps.length : ∀ {xs : List Vl} {vs : List V}, Reps K W xs vs → xs.length = vs.length
  | [], _, h => by cases h; rfl
  | _ :: xs, _, h => by
    obtain ⟨v, r, rfl, _, h2⟩ := h
    simp [Reps.length h2]
theorem Reps.get : ∀ {xs : List Vl} {vs : List V} {i : Nat} {x : Vl}, Reps K W xs vs → xs[i]? = some x → ∃ v, vs[i]? = some v ∧ Rep K W x v
  | [], _, _, _, _, h => by simp at h
  | y :: xs, _, 0, x, h, e => by
    obtain ⟨v, r, rfl, h1, _⟩ := h
    simp at e; subst e; exact ⟨v, rfl, h1⟩
  | y :: xs, _, i + 1, x, h, e => by
    obtain ⟨v, r, rfl, _, h2⟩ := h
    obtain ⟨u, a, b⟩ := Reps.get (i := i) h2 (by simpa using e)
    exact ⟨u, by simpa using a, b⟩
theorem Reps.get' : ∀ {xs : List Vl} {vs : List V} {i : Nat} {v : V}, Reps K W xs vs → vs[i]? = some v → ∃ x, xs[i]? = some x ∧ Rep K W x v := fun {xs vs i v} h e => by
  have l := h.length
  have hi : i < vs.length := (List.getElem?_eq_some_iff.mp e).1
  obtain ⟨u, a, b⟩ := h.get (i := i) (x := xs[i]'(by omega)) (by simp [l, hi])
  rw [e] at a; cases a
  exact ⟨_, by simp [l, hi], b⟩
theorem Reps.append : ∀ {xs ys : List Vl} {vs us : List V}, Reps K W xs vs → Reps K W ys us → Reps K W (xs ++ ys) (vs ++ us)
  | [], _, _, _, h, g => by cases h; exact g
  | _ :: _, _, _, _, h, g => by
    obtain ⟨v, r, rfl, h1, h2⟩ := h
    exact ⟨v, _, rfl, h1, Reps.append h2 g⟩
theorem Reps.take : ∀ {xs : List Vl} {vs : List V} (n : Nat), Reps K W xs vs → Reps K W (xs.take n) (vs.take n)
  | _, _, 0, _ => by simp [Reps]
  | [], _, _ + 1, h => by cases h; simp [Reps]
  | _ :: _, _, n + 1, h => by
    obtain ⟨v, r, rfl, h1, h2⟩ := h
    exact ⟨v, _, rfl, h1, Reps.take n h2⟩
theorem Reps.drop : ∀ {xs : List Vl} {vs : List V} (n : Nat), Reps K W xs vs → Reps K W (xs.drop n) (vs.drop n)
  | _, _, 0, h => h
  | [], _, _ + 1, h => by cases h; simp [Reps]
  | _ :: _, _, n + 1, h => by
    obtain ⟨v, r, rfl, h1, h2⟩ := h
    exact Reps.drop n h2
theorem Reps.reverse {xs : List Vl} {vs : List V} (h : Reps K W xs vs) : Reps K W xs.reverse vs.reverse := by
  induction xs generalizing vs with
  | nil => cases h; simp [Reps]
  | cons x xs ih =>
    obtain ⟨v, r, rfl, h1, h2⟩ := h
    simp only [List.reverse_cons]
    exact (ih h2).append ⟨v, [], rfl, h1, rfl⟩
theorem Reps.set : ∀ {xs : List Vl} {vs : List V} (i : Nat) {x : Vl} {v : V}, Reps K W xs vs → Rep K W x v → Reps K W (xs.set i x) (vs.set i v)
  | [], _, _, _, _, h, _ => by cases h; simp [Reps]
  | _ :: _, _, 0, _, _, h, g => by
    obtain ⟨v, r, rfl, h1, h2⟩ := h
    exact ⟨_, r, rfl, g, h2⟩
  | _ :: _, _, i + 1, _, _, h, g => by
    obtain ⟨v, r, rfl, h1, h2⟩ := h
    exact ⟨v, _, rfl, h1, Reps.set i h2 g⟩
theorem Reps.one {x : Vl} {v : V} (h : Rep K W x v) : Reps K W [x] [v] := ⟨v, [], rfl, h, rfl⟩
theorem Reps.eraseIdx : ∀ {xs : List Vl} {vs : List V} (i : Nat), Reps K W xs vs → Reps K W (xs.eraseIdx i) (vs.eraseIdx i)
  | [], _, _, h => by cases h; simp [Reps]
  | _ :: _, _, 0, h => by
    obtain ⟨v, r, rfl, h1, h2⟩ := h
    exact h2
  | _ :: _, _, i + 1, h => by
    obtain ⟨v, r, rfl, h1, h2⟩ := h
    exact ⟨v, _, rfl, h1, Reps.eraseIdx i h2⟩
end

/-- what is told of the text's written part -/
structure Kt where
  K : PySem.W.Frag
  mg : Str → Option Value
  cls : Nat → Addr
  exc : Nat → Value
  names : List Str
  T : List NdefX.NTab

def FvRep (K : PySem.W.Frag) (W : Wd) (r : Role) : Fv → V → Prop
  | .val x, v => Rep K W x v
  | .ol xs, v => ∃ a vs, v = .ref a ∧ W.Γ a = r ∧ W.H a = some (.lst vs) ∧ Reps K W xs vs
  | .od false kvs, v => ∃ a ks, v = .ref a ∧ W.Γ a = r ∧ Rd W.H a (.dK ks) ∧ RepK K W kvs ks
  | .od true kvs, v => ∃ a ks, v = .ref a ∧ W.Γ a = r ∧ Rd W.H a (.dT ks) ∧ RepT K W kvs ks
def Fv.own : Fv → Bool
  | .val _ => false
  | _ => true
theorem FvRep.extR {K : PySem.W.Frag} {p : Bool} {S : Role → Bool} {W W' : Wd} {r : Role} (e : ExtR p S W W') (h0 : S .no = false) (h1' : S .froz = false) (ht : S r = false) (hp : p = true ∨ r.still = true) : ∀ (x : Fv) (v : V), FvRep K W r x v → FvRep K W' r x v
  | .val x, v, h => Rep.extR e h0 h1' x v h
  | .ol xs, v, h => by
    obtain ⟨a, vs, e1, g, h1, h2⟩ := h
    exact ⟨a, vs, e1, (e.role a (by rw [h1]; simp) (by rw [g]; exact ht)).trans g, e.keep a _ h1 (fun _ z => nomatch z) (by rw [g]; exact ht) (by rw [g]; exact hp), Reps.extR e h0 h1' _ _ h2⟩
  | .od false kvs, v, h => by
    obtain ⟨a, ks, e1, g, h1, h2⟩ := h
    exact ⟨a, ks, e1, (e.role a (rd_some h1) (by rw [g]; exact ht)).trans g, rd_keep e (by rw [g]; exact ht) (by rw [g]; exact hp) (fun _ z => nomatch z) h1, RepK.extR e h0 h1' _ _ h2⟩
  | .od true kvs, v, h => by
    obtain ⟨a, ks, e1, g, h1, h2⟩ := h
    exact ⟨a, ks, e1, (e.role a (rd_some h1) (by rw [g]; exact ht)).trans g, rd_keep e (by rw [g]; exact ht) (by rw [g]; exact hp) (fun _ z => nomatch z) h1, RepT.extR e h0 h1' _ _ h2⟩
def FldsRep (kt : Kt) (W : Wd) (i : Nat) : List (Nat × Fv) → List (Str × V) → Prop
  | [], fv => fv = []
  | (f, x) :: fs, fv => ∃ nm v r, kt.names[f]? = some nm ∧ fv = (nm, v) :: r ∧ FvRep kt.K W (.fld i f) x v ∧ FldsRep kt W i fs r
theorem FldsRep.extR {kt : Kt} {S : Role → Bool} {W W' : Wd} {i : Nat} (e : ExtR true S W W') (h0 : S .no = false) (h1' : S .froz = false) (hf : ∀ f, S (.fld i f) = false) : ∀ (fs : List (Nat × Fv)) (fv : List (Str × V)), FldsRep kt W i fs fv → FldsRep kt W' i fs fv
  | [], _, h => h
  | (f, x) :: fs, fv, h => by
    obtain ⟨nm, v, r, hn, e1, h1, h2⟩ := h
    exact ⟨nm, v, r, hn, e1, FvRep.extR e h0 h1' (hf f) (.inl rfl) _ _ h1, FldsRep.extR e h0 h1' hf fs r h2⟩
/-- of a class's instances: it is plain, none of its own names is a field's -/
def FldsOk (kt : Kt) (C : Nat) (fs : List (Nat × Fv)) : Prop := Cls kt.K (kt.cls C) ∧ ∀ f nm, f ∈ fs.map (·.1) → kt.names[f]? = some nm → NoAttr kt.K (kt.cls C) nm
def ObRep (kt : Kt) (W : Wd) (i : Nat) (a : Addr) : Ob → Prop
  | .lst xs => ∃ vs, W.H a = some (.lst vs) ∧ Reps kt.K W xs vs
  | .ins C fs => ∃ dx fv, W.H a = some (.ins (kt.cls C) dx fv) ∧ FldsRep kt W i fs fv ∧ FldsOk kt C fs
structure RG (kt : Kt) (W : Wd) (G : Gst) : Prop where
  len : W.ρ.length = G.length
  ob : ∀ i o, G[i]? = some o → ∃ a, W.ρ[i]? = some a ∧ W.Γ a = .obj i ∧ ObRep kt W i a o
structure WOk (kt : Kt) (W : Wd) (G : Gst) : Prop where
  tr : ∀ a, W.Γ a ≠ .no → W.H a ≠ none
  rg : RG kt W G
  tabs : NdefX.TabsN kt.T W.H
  tb : ∀ b ps, W.H b = some (.tbl ps) → True
/-- no list, no dict of a slot's or a field's own is locked by a walk -/
def NoLock (W : Wd) : Prop := ∀ a o u, W.H a = some (.frz o u) → (W.Γ a).still = true ∧ ∀ i, W.Γ a ≠ .slot i
structure Bs where
  W0 : Wd
  p : Bool
  lk : Bool
structure RE (kt : Kt) (H0 : Hp) (W : Wd) (σ : L2.St) (env : LEnv) : Prop where
  len : env.length = σ.length
  sl : ∀ i fv, env[i]? = some (some fv) → ∃ v, σ[i]? = some (some v) ∧ FvRep kt.K W (.slot i) fv v ∧ (fv.own = true → ∀ a, v = .ref a → H0 a = none)
structure RAll (kt : Kt) (B : Bs) (W : Wd) (σ : L2.St) (env : LEnv) (G : Gst) : Prop where
  ok : WOk kt W G
  re : RE kt B.W0.H W σ env
  si : Ext B.p B.W0 W
  nl : B.lk = false → NoLock W
/-- a new object is told of -/
def Wd.alloc (W : Wd) (p : Addr) (o : HO) (r : Role) : Wd := ⟨fun a => if a = p then r else W.Γ a, W.ρ, upd W.H p o⟩
/-- what may be laid anew -/
def okO : HO → Bool
  | .lst _ => true
  | .tup _ => true
  | .dK _ => true
  | .dT _ => true
  | .frz _ (.tup _) => true
  | .rng _ _ => true
  | _ => false
/-- .. at that role -/
def okA (o : HO) (r : Role) : Bool := match o with
  | .frz _ _ => decide (r = .no)
  | _ => true
def okR : Role → Bool
  | .no => true
  | .froz => true
  | .slot _ => true
  | _ => false
section
variable {kt : Kt} {B : Bs} {W W' : Wd} {σ : L2.St} {env : LEnv} {G : Gst} {p : Addr} {o : HO} {r : Role}
theorem Ext.alloc (hp : W.H p = none) : Ext true W (W.alloc p o r) where
  role := fun a ha => if_neg (fun e => ha (by rw [e]; exact hp))
  keep := fun a u h _ _ => (upd_ne (ne_of_none h hp)).trans h
  tups := fun a xs h => (upd_ne (ne_of_none h hp)).trans h
  there := fun a h => by
    show upd W.H p o a ≠ none
    rw [upd_ne (fun e => h (by rw [e]; exact hp))]; exact h
  pre := ⟨[], by simp [Wd.alloc]⟩
theorem RE.extR {H0 : Hp} (h : RE kt H0 W σ env) {q : Bool} {S : Role → Bool} (e : ExtR q S W W') (h0 : S .no = false) (h1' : S .froz = false) (hs : ∀ i, S (.slot i) = false) : RE kt H0 W' σ env :=
  ⟨h.len, fun i fv hi => let ⟨v, a, b, c⟩ := h.sl i fv hi; ⟨v, a, FvRep.extR e h0 h1' (hs i) (.inr rfl) _ _ b, c⟩⟩
theorem RE.ext {H0 : Hp} (h : RE kt H0 W σ env) {q : Bool} (e : Ext q W W') : RE kt H0 W' σ env := h.extR e.toR rfl rfl fun _ => rfl
theorem RG.extR (h : RG kt W G) {S : Role → Bool} (e : ExtR true S W W') (h0 : S .no = false) (h1' : S .froz = false) (ho : ∀ i, S (.obj i) = false) (hf : ∀ i f, S (.fld i f) = false) (hr : W'.ρ = W.ρ) : RG kt W' G := by
  refine ⟨by rw [hr]; exact h.len, fun i o hi => ?_⟩
  obtain ⟨a, h1, h2, h3⟩ := h.ob i o hi
  refine ⟨a, by rw [hr]; exact h1, ?_, ?_⟩
  · refine (e.role a ?_ (by rw [h2]; exact ho i)).trans h2
    cases o with
    | lst xs => obtain ⟨vs, q, _⟩ := h3; rw [q]; simp
    | ins C fs => obtain ⟨dx, fv, q, _⟩ := h3; rw [q]; simp
  · cases o with
    | lst xs =>
      obtain ⟨vs, q, z⟩ := h3
      exact ⟨vs, e.keep a _ q (fun _ z => nomatch z) (by rw [h2]; exact ho i) (.inl rfl), Reps.extR e h0 h1' _ _ z⟩
    | ins C fs =>
      obtain ⟨dx, fv, q, z, k⟩ := h3
      exact ⟨dx, fv, e.keep a _ q (fun _ z => nomatch z) (by rw [h2]; exact ho i) (.inl rfl), FldsRep.extR e h0 h1' (hf i) _ _ z, k⟩
theorem RG.ext (h : RG kt W G) (e : Ext true W W') (hr : W'.ρ = W.ρ) : RG kt W' G := h.extR e.toR rfl rfl (fun _ => rfl) (fun _ _ => rfl) hr
theorem tabsN_upd {T : List NdefX.NTab} {H : Hp} (h : NdefX.TabsN T H) (hp : H p = none) : NdefX.TabsN T (upd H p o) :=
  h.ext fun b u q => (upd_ne (ne_of_none q hp)).trans q
theorem WOk.alloc (h : WOk kt W G) (hp : W.H p = none) (ho : okO o = true) : WOk kt (W.alloc p o r) G where
  tr := fun a ha => by
    show upd W.H p o a ≠ none
    by_cases e : a = p
    · rw [e, upd_same]; simp
    · rw [upd_ne e]
      refine h.tr a fun z => ha ?_
      show (if a = p then r else W.Γ a) = .no
      rw [if_neg e]; exact z
  rg := h.rg.ext (Ext.alloc hp) rfl
  tabs := tabsN_upd h.tabs hp
  tb := fun b ps q => by
    have q : upd W.H p o b = some (.tbl ps) := q
    by_cases e : b = p
    · rw [e, upd_same] at q; cases q; cases ho
    · rw [upd_ne e] at q; exact h.tb b ps q
theorem NoLock.alloc (h : NoLock W) (ho : okA o r = true) : NoLock (W.alloc p o r) := fun a u z q => by
  have q : upd W.H p o a = some (.frz u z) := q
  by_cases e : a = p
  · rw [e, upd_same] at q
    cases q
    have hr : r = .no := of_decide_eq_true ho
    have g : (W.alloc p (.frz u z) r).Γ a = .no := (if_pos e).trans hr
    rw [g]
    exact ⟨rfl, fun _ z => nomatch z⟩
  · rw [upd_ne e] at q
    have g : (W.alloc p o r).Γ a = W.Γ a := if_neg e
    rw [g]
    exact h a u z q
theorem RAll.alloc (h : RAll kt B W σ env G) (hp : W.H p = none) (ho : okO o = true) (ha : okA o r = true) : RAll kt B (W.alloc p o r) σ env G :=
  ⟨h.ok.alloc hp ho, h.re.ext (Ext.alloc hp), (h.si.trans (Ext.alloc (o := o) (r := r) hp)).mono (fun z => by rw [z]; rfl), fun z => (h.nl z).alloc ha⟩
end

/-! ### the judgements -/
inductive Md where
  | s | k | f
def Md.lets : Md → Role → Bool
  | .s, _ => false
  | _, .tmp => false
  | .k, .slot _ => true
  | .k, _ => false
  | .f, _ => true
/-- a value, or a list, a dict that a slot, a field owns, looked at in place -/
def Pk (K : PySem.W.Frag) (W : Wd) (m : Md) (x : Vl) (v : V) : Prop := Rep K W x v ∨ ∃ r fv, m.lets r = true ∧ fv.toVl = x ∧ FvRep K W r fv v
theorem Pk.ext {K : PySem.W.Frag} {p : Bool} {W W' : Wd} {m : Md} {x : Vl} {v : V} (e : Ext p W W') (hp : p = true ∨ m ≠ .f) (h : Pk K W m x v) : Pk K W' m x v := by
  rcases h with h | ⟨r, fv, h1, h2, h3⟩
  · exact .inl (h.ext e)
  · refine .inr ⟨r, fv, h1, h2, FvRep.extR e.toR rfl rfl rfl ?_ _ _ h3⟩
    rcases hp with hp | hp
    · exact .inl hp
    · right
      cases m <;> cases r <;> first | rfl | exact absurd rfl hp | cases h1
theorem Pk.strict {K : PySem.W.Frag} {W : Wd} {x : Vl} {v : V} (h : Pk K W .s x v) : Rep K W x v := by
  rcases h with h | ⟨r, fv, h1, _⟩
  · exact h
  · cases h1
theorem Pk.any {K : PySem.W.Frag} {W : Wd} {m : Md} {x : Vl} {v : V} (h : Pk K W m x v) : Pk K W .f x v := h.imp id fun ⟨r, fv, h1, h2, h3⟩ => ⟨r, fv, by cases m <;> cases r <;> (first | rfl | (cases h1)), h2, h3⟩
theorem Pk.weak {K : PySem.W.Frag} {W : Wd} {m : Md} {x : Vl} {v : V} (h : Pk K W .s x v) : Pk K W m x v := .inl h.strict

/-- what lies with an exception -/
def ExOk (c : Ex) (od : Option Addr) (H : Hp) : Prop := match c.row with
  | none => True
  | some i => ∃ d, od = some d ∧ H d = some (.xd [("row", .int i)])

/-- what names this is unfolded ahead of what does not -/
def hgt0 : Nat := Nat.zero
def hgt1 : Nat := hgt0
def hgt2 : Nat := hgt1
def hgt3 : Nat := hgt2
def R.bind {α β : Type} (r : R α) (f : α → Gst → R β) : R β := (fun _ : Nat => match r with
  | .ok a G => f a G
  | .exn c G => .exn c G
  | .bad => .bad) hgt3
@[simp] theorem R.bind_ok {α β : Type} (a : α) (G : Gst) (f : α → Gst → R β) : (R.ok a G).bind f = f a G := rfl
@[simp] theorem R.bind_exn {α β : Type} (c : Ex) (G : Gst) (f : α → Gst → R β) : (R.exn c G : R α).bind f = .exn c G := rfl
@[simp] theorem R.bind_bad {α β : Type} (f : α → Gst → R β) : (R.bad : R α).bind f = .bad := rfl

section
variable (kt : Kt) (B : Bs) (p : Bool) (σ : L2.St) (env : LEnv) (W : Wd) (Wish : WX)
/-- what is wanted behind r; Z: how the answer lies -/
def PoX {α β : Type} (Z : Wd → α → β → Prop) (r : R α) (Q : β → Hp → Prop) : Prop := match r with
  | .bad => False
  | .ok x G' => ∀ W' v, Ext p W W' → RAll kt B W' σ env G' → Z W' x v → Q v W'.H
  | .exn c G' => ∀ W' od, Ext p W W' → RAll kt B W' σ env G' → ExOk c od W'.H → Wish (kt.exc c.cls) od σ W'.H
def rdX {α β : Type} (Z : Wd → α → β → Prop) (d : LEnv → Gst → R α) : L2.St → Hp → (β → Hp → Prop) → Prop := fun σ H Q =>
  ∃ W env G, W.H = H ∧ RAll kt B W σ env G ∧ PoX kt B p σ env W Wish Z (d env G) Q
end
def ZB : Wd → Bool → Bool → Prop := fun _ a b => a = b
section
variable {kt : Kt} {B : Bs} {p q : Bool} {σ : L2.St} {env : LEnv} {W W1 : Wd} {Wish : WX} {α β γ δ : Type} {Z : Wd → α → β → Prop} {Z' : Wd → γ → δ → Prop}
theorem PoX.mono {r : R α} {Q Q' : β → Hp → Prop} (h : PoX kt B p σ env W Wish Z r Q) (hq : ∀ v H, Q v H → Q' v H) : PoX kt B p σ env W Wish Z r Q' := by
  cases r with
  | bad => exact h
  | exn c G => exact h
  | ok x G => exact fun W' v e A z => hq _ _ (h W' v e A z)
theorem PoX.shift {r : R α} {Q : β → Hp → Prop} (h : PoX kt B (p && q) σ env W Wish Z r Q) (e : Ext p W W1) : PoX kt B q σ env W1 Wish Z r Q := by
  cases r with
  | bad => exact h
  | exn c G => exact fun W' od e' A z => h W' od (e.trans e') A z
  | ok x G => exact fun W' v e' A z => h W' v (e.trans e') A z
theorem PoX.bindE {r : R α} {f : α → Gst → R γ} {Q : δ → Hp → Prop} (h : PoX kt B (p && q) σ env W Wish Z' (r.bind f) Q) :
    PoX kt B p σ env W Wish Z r (fun v H1 => ∃ W1 x G1, W1.H = H1 ∧ Ext p W W1 ∧ RAll kt B W1 σ env G1 ∧ Z W1 x v ∧ PoX kt B q σ env W1 Wish Z' (f x G1) Q) := by
  cases r with
  | bad => exact h
  | exn c G => exact fun W' od e A z => h W' od (e.mono fun z => (Bool.and_eq_true _ _ ▸ z).1) A z
  | ok x G => exact fun W' v e A z => ⟨W', x, G, rfl, e, A, z, PoX.shift h e⟩
end

theorem _root_.L2.PE.imp {X : Cx} {e : Expr} {t t' : TE} (h : PE X e t) (i : ∀ σ H Q, t' σ H Q → t σ H Q) : PE X e t' := ⟨fun pins s σ H Q I q => h.run pins s σ H Q I (i σ H Q q)⟩
theorem _root_.L2.PT.imp {X : Cx} {e : Expr} {t t' : TT} (h : PT X e t) (i : ∀ σ H Q, t' σ H Q → t σ H Q) : PT X e t' := ⟨fun pins s σ H Q I q => h.run pins s σ H Q I (i σ H Q q)⟩
theorem _root_.L2.PW.imp {X : Cx} {e : Expr} {t t' : TT} (h : PW X e t) (i : ∀ σ H Q, t' σ H Q → t σ H Q) : PW X e t' := ⟨fun w pins s σ H Q I q => h.run w pins s σ H Q I (i σ H Q q)⟩
theorem _root_.L2.PA.imp {X : Cx} {e : List Expr} {t t' : TA} (h : PA X e t) (i : ∀ σ H Q, t' σ H Q → t σ H Q) : PA X e t' := ⟨fun pos pins s σ H Q I q => h.run pos pins s σ H Q I (i σ H Q q)⟩
theorem _root_.L2.PS.imp {X : Cx} {e : Stmt} {t t' : TS} (h : PS X e t) (i : ∀ D σ H, t' D σ H → t D σ H) : PS X e t' := ⟨fun pins s σ H D I q => h.run pins s σ H D I (i D σ H q)⟩
theorem _root_.L2.PSs.imp {X : Cx} {e : List Stmt} {t t' : TS} (h : PSs X e t) (i : ∀ D σ H, t' D σ H → t D σ H) : PSs X e t' := ⟨fun pins s σ H D I q => h.run pins s σ H D I (i D σ H q)⟩

/-- e as d; p: changes nothing that stood; m: how the answer may lie -/
def SX (kt : Kt) (B : Bs) (X : Cx) (p : Bool) (m : Md) (e : Expr) (d : DE) : Prop := ∀ Wish, Takes X Wish → PE X e (rdX kt B p Wish (fun W x v => Pk kt.K W m x v) d)
def ST (kt : Kt) (B : Bs) (X : Cx) (p : Bool) (e : Expr) (d : DT) : Prop := ∀ Wish, Takes X Wish → PT X e (rdX kt B p Wish ZB d)
def SW (kt : Kt) (B : Bs) (X : Cx) (p : Bool) (e : Expr) (d : DT) : Prop := ∀ Wish, Takes X Wish → PW X e (rdX kt B p Wish ZB d)
def SA (kt : Kt) (B : Bs) (X : Cx) (p : Bool) (es : List Expr) (d : DA) : Prop := ∀ Wish, Takes X Wish → PA X es (rdX kt B p Wish (fun W x v => Reps kt.K W x v) d)
end CardH
end
section
set_option maxHeartbeats 2000000
namespace CardH
open PySem PySem.Spec PyProof.Rows L2

/-! ### how values lie -/
section
variable {K : PySem.W.Frag} {W : Wd} {m : Md} {v : V}
theorem Pk.val {x : Vl} (h : Pk K W m x v) (h1 : ∀ xs, x ≠ .lst xs) (h2 : ∀ t kvs, x ≠ .dct t kvs) : Rep K W x v := by
  rcases h with h | ⟨r, fv, _, e, h⟩
  · exact h
  · cases fv with
    | val y => cases e; exact h
    | ol xs => exact absurd e.symm (h1 xs)
    | od t kvs => exact absurd e.symm (h2 t kvs)
theorem Pk.int {i : Int} (h : Pk K W m (.int i) v) : v = .int i := h.val (fun _ z => nomatch z) fun _ _ z => nomatch z
theorem Pk.bl {b : Bool} (h : Pk K W m (.bl b) v) : v = .bl b := h.val (fun _ z => nomatch z) fun _ _ z => nomatch z
theorem Pk.non (h : Pk K W m .non v) : v = .non := h.val (fun _ z => nomatch z) fun _ _ z => nomatch z
theorem Pk.str {x : Str} (h : Pk K W m (.str x) v) : v = .str x ∧ okStr x = true := h.val (fun _ z => nomatch z) fun _ _ z => nomatch z
theorem Pk.tup' {xs : List Vl} (h : Pk K W m (.tup xs) v) : ∃ a vs o, v = .ref a ∧ W.Γ a = .no ∧ W.H a = some (.frz o (.tup vs)) ∧ o.dict = none ∧ Reps K W xs vs := h.val (fun _ z => nomatch z) fun _ _ z => nomatch z
theorem Pk.tup {xs : List Vl} (h : Pk K W m (.tup xs) v) : ∃ a vs, v = .ref a ∧ SqT K W.H a vs ∧ Reps K W xs vs := by
  obtain ⟨a, vs, o, e, _, t, _, r⟩ := h.tup'
  exact ⟨a, vs, e, .inl (.inr ⟨o, t⟩), r⟩
theorem Pk.stp {xs : List Vl} (h : Pk K W m (.stp xs) v) : ∃ a vs, v = .ref a ∧ SqT K W.H a vs ∧ Reps K W xs vs := by
  obtain ⟨a, vs, e, t, r⟩ := h.val (fun _ z => nomatch z) fun _ _ z => nomatch z
  exact ⟨a, vs, e, SqT.of t, r⟩
theorem Pk.ktp {xs : List Vl} (h : Pk K W m (.ktp xs) v) : ∃ a vs, v = .ref a ∧ SqT K W.H a vs ∧ Reps K W xs vs := by
  obtain ⟨a, vs, e, t, r⟩ := h.val (fun _ z => nomatch z) fun _ _ z => nomatch z
  exact ⟨a, vs, e, .inr t, r⟩
theorem Pk.ref {i : Nat} (h : Pk K W m (.ref i) v) : ∃ a, v = .ref a ∧ W.ρ[i]? = some a := h.val (fun _ z => nomatch z) fun _ _ z => nomatch z
theorem Pk.scr {ns : List Int} (h : Pk K W m (.scr ns) v) : ∃ a, v = .ref a ∧ SqL K W.H a (ns.map V.int) := by
  obtain ⟨a, e, t⟩ := h.val (fun _ z => nomatch z) fun _ _ z => nomatch z
  exact ⟨a, e, t.imp (fun z => z.2) id⟩
theorem Pk.lst {xs : List Vl} (h : Pk K W m (.lst xs) v) : ∃ a vs, v = .ref a ∧ W.H a = some (.lst vs) ∧ Reps K W xs vs := by
  rcases h with h | ⟨r, fv, _, e, h⟩
  · obtain ⟨a, vs, e, _, t, r⟩ := h
    exact ⟨a, vs, e, t, r⟩
  · cases fv with
    | val y =>
      cases e
      obtain ⟨a, vs, e, _, t, r⟩ := h
      exact ⟨a, vs, e, t, r⟩
    | ol ys =>
      cases e
      obtain ⟨a, vs, e, _, t, r⟩ := h
      exact ⟨a, vs, e, t, r⟩
    | od t kvs => cases e
theorem Pk.dK {kvs : List (Vl × Vl)} (h : Pk K W m (.dct false kvs) v) : ∃ a ks, v = .ref a ∧ Rd W.H a (.dK ks) ∧ RepK K W kvs ks := by
  rcases h with h | ⟨r, fv, _, e, h⟩
  · obtain ⟨a, vs, e, _, t, r⟩ := h
    exact ⟨a, vs, e, t, r⟩
  · cases fv with
    | val y =>
      cases e
      obtain ⟨a, vs, e, _, t, r⟩ := h
      exact ⟨a, vs, e, t, r⟩
    | ol ys => cases e
    | od t kvs' =>
      cases e
      obtain ⟨a, vs, e, _, t, r⟩ := h
      exact ⟨a, vs, e, t, r⟩
theorem Pk.dT {kvs : List (Vl × Vl)} (h : Pk K W m (.dct true kvs) v) : ∃ a ks, v = .ref a ∧ Rd W.H a (.dT ks) ∧ RepT K W kvs ks := by
  rcases h with h | ⟨r, fv, _, e, h⟩
  · obtain ⟨a, vs, e, _, t, r⟩ := h
    exact ⟨a, vs, e, t, r⟩
  · cases fv with
    | val y =>
      cases e
      obtain ⟨a, vs, e, _, t, r⟩ := h
      exact ⟨a, vs, e, t, r⟩
    | ol ys => cases e
    | od t kvs' =>
      cases e
      obtain ⟨a, vs, e, _, t, r⟩ := h
      exact ⟨a, vs, e, t, r⟩
end
section
variable {kt : Kt} {B : Bs} {W : Wd} {σ : L2.St} {env : LEnv} {G : Gst} {p : Addr}
theorem new_lst (A : RAll kt B W σ env G) (hp : W.H p = none) {xs : List Vl} {vs : List V} (h : Reps kt.K W xs vs) :
    Ext true W (W.alloc p (.lst vs) .froz) ∧ RAll kt B (W.alloc p (.lst vs) .froz) σ env G ∧ Rep kt.K (W.alloc p (.lst vs) .froz) (.lst xs) (.ref p) :=
  ⟨Ext.alloc hp, A.alloc hp rfl rfl, p, vs, rfl, if_pos rfl, upd_same, h.ext (Ext.alloc hp)⟩
theorem new_tup (A : RAll kt B W σ env G) (hp : W.H p = none) {o : Obj} (hd : o.dict = none) {xs : List Vl} {vs : List V} (h : Reps kt.K W xs vs) :
    Ext true W (W.alloc p (.frz o (.tup vs)) .no) ∧ RAll kt B (W.alloc p (.frz o (.tup vs)) .no) σ env G ∧ Rep kt.K (W.alloc p (.frz o (.tup vs)) .no) (.tup xs) (.ref p) :=
  ⟨Ext.alloc hp, A.alloc hp rfl rfl, p, vs, o, rfl, if_pos rfl, upd_same, hd, h.ext (Ext.alloc hp)⟩
theorem new_stp (A : RAll kt B W σ env G) (hp : W.H p = none) {xs : List Vl} {vs : List V} (h : Reps kt.K W xs vs) :
    Ext true W (W.alloc p (.tup vs) .no) ∧ RAll kt B (W.alloc p (.tup vs) .no) σ env G ∧ Rep kt.K (W.alloc p (.tup vs) .no) (.stp xs) (.ref p) :=
  ⟨Ext.alloc hp, A.alloc hp rfl rfl, p, vs, rfl, upd_same, h.ext (Ext.alloc hp)⟩
theorem new_dK (A : RAll kt B W σ env G) (hp : W.H p = none) {kvs : List (Vl × Vl)} {ks : List (Key × V)} (h : RepK kt.K W kvs ks) :
    Ext true W (W.alloc p (.dK ks) .froz) ∧ RAll kt B (W.alloc p (.dK ks) .froz) σ env G ∧ Rep kt.K (W.alloc p (.dK ks) .froz) (.dct false kvs) (.ref p) :=
  ⟨Ext.alloc hp, A.alloc hp rfl rfl, p, ks, rfl, if_pos rfl, .inl upd_same, h.ext (Ext.alloc hp)⟩
theorem new_dT (A : RAll kt B W σ env G) (hp : W.H p = none) {kvs : List (Vl × Vl)} {ks : List (List Key × V)} (h : RepT kt.K W kvs ks) :
    Ext true W (W.alloc p (.dT ks) .froz) ∧ RAll kt B (W.alloc p (.dT ks) .froz) σ env G ∧ Rep kt.K (W.alloc p (.dT ks) .froz) (.dct true kvs) (.ref p) :=
  ⟨Ext.alloc hp, A.alloc hp rfl rfl, p, ks, rfl, if_pos rfl, .inl upd_same, h.ext (Ext.alloc hp)⟩
end

/-! ### tuples laid anew: their objects are known -/
section
variable {X : Cx}
/-- t + u, a new one known -/
def rCatP (K : PySem.W.Frag) : R2 := fun x y H Q => ∃ a b xs ys, x = .ref a ∧ y = .ref b ∧ SqT K H a xs ∧ SqT K H b ys ∧ xs.length + ys.length ≤ sizeLine ∧
  (xs = [] → Q (.ref b) H) ∧ (xs ≠ [] → ys = [] → Q (.ref a) H) ∧ (xs ≠ [] → ys ≠ [] → ∀ p o, H p = none → o.dict = none → Q (.ref p) (upd H p (.frz o (.tup (xs ++ ys)))))
theorem op_catP : OpR X (binaryOp .Add) (rCatP X.K) := by
  intro pins s σ H x y v u Q I rx ry h
  obtain ⟨a, b, xs, ys, rfl, rfl, ha, hb, hz, q0, q1, q2⟩ := h
  cases rx
  cases ry
  obtain ⟨its, r1, p1, _⟩ := I.tuple ha
  obtain ⟨its2, r2, p2, _⟩ := I.tuple hb
  by_cases hx : xs = []
  · subst hx
    cases r1
    exact cat_tup0 p1 p2 ⟨.ref b, H, I, rfl, q0 rfl⟩
  · refine HT.cat_tup p1 p2 (fun z => hx (r1.nil_iff.mp z)) (fun z => ⟨.ref a, H, I, rfl, q1 hx (r2.nil_iff.mp z)⟩) (fun z => ?_) (by rw [← r1.length, ← r2.length]; exact hz)
    refine ⟨.ref s.heap.objs.size, upd _ _ (.frz { cls := .type "tuple", data := .seq (its ++ its2).toArray } (.tup (xs ++ ys))), I.laid (t' := s.toks) (fun b ob q => Heap.get?_push_of_some _ q) (Nat.le_refl _) ?_, rfl, q2 hx (fun w => z (r2.nil_iff.mpr w)) _ _ (I.hok.fresh (Nat.le_refl _)) rfl⟩
    exact ⟨Heap.get?_push_size _ rfl, by rw [List.length_append]; exact hz, _, r1.append r2, IsTup.new _ _⟩
/-- t[lo:hi] -/
def rSlP (K : PySem.W.Frag) : V → Option Int → Option Int → Hp → VK → Prop := fun x lo hi H Q => ∃ a xs, x = .ref a ∧ SqT K H a xs ∧
  (HT.sIx xs.length 0 lo = 0 ∧ HT.sIx xs.length xs.length hi = xs.length → Q (.ref a) H) ∧ (¬ (HT.sIx xs.length 0 lo = 0 ∧ HT.sIx xs.length xs.length hi = xs.length) → ∀ p o, H p = none → o.dict = none → Q (.ref p) (upd H p (.frz o (.tup (cutV xs lo hi)))))
theorem sl_tupP : SlR X (rSlP X.K) := by
  intro pins s σ H x v vl vu lo hi sl Q I rx hs pl pu h
  obtain ⟨a, xs, rfl, hx, q1, q2⟩ := h
  cases rx
  obtain ⟨its, r, ht, hz⟩ := I.tuple hx
  have hlen : its.toArray.size = xs.length := by rw [List.size_toArray]; exact r.length.symm
  refine ⟨"tuple", _, PyProof.Rows.slot_tuple_getitem.lookup, ht.typeIs, ?_⟩
  by_cases hw : HT.sIx xs.length 0 lo = 0 ∧ HT.sIx xs.length xs.length hi = xs.length
  · exact getItem_tuple_whole ht hs pl pu (by rw [hlen]; exact hw) ⟨.ref a, H, I, rfl, q1 hw⟩
  · refine HT.getItem_tuple_cut ht hs pl pu (by rw [hlen]; exact hw) ?_ (by rw [hlen]; exact hz)
    rw [hlen]
    refine ⟨.ref s.heap.objs.size, upd _ _ (.frz { cls := .type "tuple", data := .seq (List.take (HT.sIx xs.length xs.length hi - HT.sIx xs.length 0 lo) (List.drop (HT.sIx xs.length 0 lo) its.toArray.toList)).toArray } (.tup (cutV xs lo hi))), I.laid (t' := s.toks) (fun b ob q => Heap.get?_push_of_some _ q) (Nat.le_refl _) ?_, rfl, q2 hw _ _ (I.hok.fresh (Nat.le_refl _)) rfl⟩
    exact ⟨Heap.get?_push_size _ rfl, Nat.le_trans (cutV_length xs lo hi) hz, _, (r.drop (HT.sIx xs.length 0 lo)).take (HT.sIx xs.length xs.length hi - HT.sIx xs.length 0 lo), IsTup.new _ _⟩
/-- tuple(x), x a list or a tuple -/
theorem call_tupleP : CallR X (.type "tuple") (fun xs H Q => ∃ p ys, xs = [.ref p] ∧ ((SqL X.K H p ys ∧ ∀ l o, H l = none → o.dict = none → Q (.ref l) (upd H l (.frz o (.tup ys)))) ∨ (SqT X.K H p ys ∧ Q (.ref p) H))) := by
  intro pins s σ H xs us Q I r h
  obtain ⟨p, ys, rfl, h⟩ := h
  obtain ⟨u, rfl, rx⟩ := vals1 r
  cases rx
  rcases h with ⟨hq, q⟩ | ⟨hq, q⟩
  · obtain ⟨its, r', pl, hz⟩ := I.list hq
    have hlen := r'.length
    refine call_tuple_list pl.isList (fun h' kp => ?_) (by simp only [List.size_toArray] <;> omega)
    have I1 : Inv X pins σ H { s with heap := h' } := I.kept (t' := s.toks) kp
    have I2 := I1.laid (t' := s.toks) (h' := h'.push { cls := .type "tuple", data := .seq its.toArray }) (a := h'.objs.size) (o := .frz { cls := .type "tuple", data := .seq its.toArray } (.tup ys)) (fun b o e => Heap.get?_push_of_some _ e) (Nat.le_refl _)
      ⟨Heap.get?_push_size _ rfl, hz, its, r', IsTup.new _ _⟩
    exact ⟨.ref h'.objs.size, _, I2, rfl, q _ _ (I1.hok.fresh (Nat.le_refl _)) rfl⟩
  · obtain ⟨its, r', pl, hz⟩ := I.tuple hq
    exact call_tuple_same pl ⟨.ref p, H, I, rfl, q⟩
/-- a tuple of written items -/
def tTupP (t : TA) : TE := fun σ H Q => t σ H fun xs H1 => xs.length ≤ sizeLine ∧ ∀ p o, H1 p = none → o.dict = none → Q (.ref p) (upd H1 p (.frz o (.tup xs)))
theorem pe_tupP {es : List Expr} {t : TA} {pos : Pos} {x1} (h : PA X es t) : PE X (.Tuple es x1 pos) (tTupP t) := by
  refine ⟨fun pins s σ H Q I hq => ?_⟩
  refine wpAny_Tuple_spliced (thn (h.run pos pins s σ H _ I hq) fun us s1 ⟨xs, H1, I1, r, z, q⟩ => ⟨by rw [← r.length]; exact z, ?_⟩)
  have hf : H1 s1.heap.objs.size = none := I1.hok.fresh (Nat.le_refl _)
  refine ⟨.ref s1.heap.objs.size, upd _ _ (.frz { cls := .type "tuple", data := .seq us.toArray } (.tup xs)), I1.laid (t' := s1.toks) (o := .frz { cls := .type "tuple", data := .seq us.toArray } (.tup xs)) (fun b u e => Heap.get?_push_of_some _ e) (Nat.le_refl _) ?_, rfl, q _ _ hf rfl⟩
  exact ⟨Heap.get?_push_size _ rfl, z, us, r, ⟨_, Heap.get?_push_size _ rfl, rfl, _, rfl⟩⟩
end

theorem okStr_append {a b : Str} (h : okStr a = true) (g : okStr b = true) : okStr (a ++ b) = true := by
  show (a.cps ++ b.cps).all _ = true
  rw [Array.all_append]
  simp only [okStr] at h g
  rw [h, g]; rfl

/-! ### operators on values -/
def OpS (kt : Kt) (X : Cx) (f : Value → Value → Sem Value) (o : Vl → Vl → Option Vl) : Prop :=
  ∃ r : R2, OpR X f r ∧ ∀ (B : Bs) (σ : L2.St) (env : LEnv) (G : Gst) (W : Wd) (x y : Vl) (v u : V) (z : Vl) (Q : VK), RAll kt B W σ env G → Pk kt.K W .f x v → Pk kt.K W .f y u → o x y = some z →
    (∀ W' w, Ext true W W' → RAll kt B W' σ env G → Rep kt.K W' z w → Q w W'.H) → r v u W.H Q

def vAdd : Vl → Vl → Option Vl
  | .int i, .int j => some (.int (i + j))
  | .str a, .str b => if a.length + b.length ≤ 16777216 then some (.str (a ++ b)) else none
  | .tup a, .tup b => if a.length + b.length ≤ 16777216 then some (.tup (a ++ b)) else none
  | .lst a, .lst b => if a.length + b.length ≤ 16777216 then some (.lst (a ++ b)) else none
  | _, _ => none
section
variable {kt : Kt} {X : Cx}
theorem ops_add (hK : X.K = kt.K := by rfl) : OpS kt X (binaryOp .Add) vAdd := by
  refine ⟨_, op_add.or (op_add_str.or (op_catP.or op_cat)), fun B σ env G W x y v u z Q A hx hy e q => ?_⟩
  unfold vAdd at e
  split at e
  · cases e
    obtain rfl := hx.int; obtain rfl := hy.int
    exact .inl ⟨_, _, rfl, rfl, q W _ Ext.refl A rfl⟩
  · split at e
    · cases e
      obtain ⟨rfl, h1⟩ := hx.str; obtain ⟨rfl, h2⟩ := hy.str
      exact .inr (.inl ⟨_, _, rfl, rfl, ‹_›, q W _ Ext.refl A ⟨rfl, okStr_append h1 h2⟩⟩)
    · cases e
  · split at e
    · cases e
      obtain ⟨a, vs, rfl, h1, r1⟩ := hx.tup; obtain ⟨b, us, rfl, h2, r2⟩ := hy.tup
      rename_i xs ys hz
      refine .inr (.inr (.inl ⟨a, b, vs, us, rfl, rfl, by rw [hK]; exact h1, by rw [hK]; exact h2, by rw [← r1.length, ← r2.length]; exact hz, fun z => ?_, fun _ z => ?_, fun _ _ p o hp hd => ?_⟩))
      · subst z
        have e1 : xs = [] := List.length_eq_zero_iff.mp (by rw [r1.length]; rfl)
        subst e1
        exact q W _ Ext.refl A (hy.val (fun _ z => nomatch z) fun _ _ z => nomatch z)
      · subst z
        have e1 : ys = [] := List.length_eq_zero_iff.mp (by rw [r2.length]; rfl)
        subst e1
        rw [List.append_nil] at q
        exact q W _ Ext.refl A (hx.val (fun _ z => nomatch z) fun _ _ z => nomatch z)
      · obtain ⟨e1, a1, r⟩ := new_tup A hp hd (r1.append r2)
        exact q _ _ e1 a1 r
    · cases e
  · split at e
    · cases e
      obtain ⟨a, vs, rfl, h1, r1⟩ := hx.lst; obtain ⟨b, us, rfl, h2, r2⟩ := hy.lst
      rename_i xs ys hz
      refine .inr (.inr (.inr ⟨a, b, vs, us, rfl, rfl, h1, h2, by rw [← r1.length, ← r2.length]; exact hz, fun p hp => ?_⟩))
      obtain ⟨e1, a1, r⟩ := new_lst A hp (r1.append r2)
      exact q _ _ e1 a1 r
    · cases e
  · cases e

/-- an operator of two ints -/
theorem ops_int {f : Value → Value → Sem Value} {C : Int → Int → Prop} {g : Int → Int → Vl} {g' : Int → Int → V} {c : Int → Int → Bool} {o : Vl → Vl → Option Vl} (h : OpR X f (rI C g')) (hc : ∀ i j, c i j = true → C i j)
    (hg : ∀ K W i j, Rep K W (g i j) (g' i j)) (ho : ∀ x y z, o x y = some z → ∃ i j, x = .int i ∧ y = .int j ∧ c i j = true ∧ z = g i j) : OpS kt X f o := by
  refine ⟨_, h, fun B σ env G W x y v u z Q A hx hy e q => ?_⟩
  obtain ⟨i, j, rfl, rfl, hc', rfl⟩ := ho x y z e
  obtain rfl := hx.int; obtain rfl := hy.int
  exact ⟨i, j, rfl, rfl, hc i j hc', q W _ Ext.refl A (hg _ _ i j)⟩
def vInt (c : Int → Int → Bool) (g : Int → Int → Vl) : Vl → Vl → Option Vl
  | .int i, .int j => if c i j = true then some (g i j) else none
  | _, _ => none
theorem vInt_some {c : Int → Int → Bool} {g : Int → Int → Vl} (x y z : Vl) (h : vInt c g x y = some z) : ∃ i j, x = .int i ∧ y = .int j ∧ c i j = true ∧ z = g i j := by
  unfold vInt at h
  split at h
  · split at h
    · cases h; exact ⟨_, _, rfl, rfl, ‹_›, rfl⟩
    · cases h
  · cases h
theorem rI0_rI {f : Value → Value → Sem Value} {g : Int → Int → V} (h : OpR X f (rI0 g)) : OpR X f (rI (fun _ _ => True) g) :=
  fun pins s σ H x y v u Q I rx ry ⟨i, j, e1, e2, _, q⟩ => h pins s σ H x y v u Q I rx ry ⟨i, j, e1, e2, q⟩
def vSub : Vl → Vl → Option Vl
  | .int i, .int j => some (.int (i - j))
  | _, _ => none
theorem ops_sub : OpS kt X (binaryOp .Sub) vSub :=
  ops_int (c := fun _ _ => true) (g := fun i j => .int (i - j)) (rI0_rI op_sub) (fun _ _ _ => trivial) (fun _ _ _ _ => rfl) fun x y z h => by
    unfold vSub at h; split at h
    · cases h; exact ⟨_, _, rfl, rfl, rfl, rfl⟩
    · cases h
/-- bounds, told so that no check counts down -/
def sm62 (i : Int) : Bool := Nat.blt i.natAbs 4611686018427387904
def sm64 (i : Int) : Bool := Nat.blt i.natAbs 18446744073709551616
theorem sm62_ok {i : Int} (h : sm62 i = true) : -(2 ^ 62) ≤ i ∧ i < 2 ^ 62 := by
  unfold sm62 at h
  rw [Nat.blt_eq] at h
  omega
theorem sm64_ok {i : Int} (h : sm64 i = true) : -(2 ^ 64) < i ∧ i < 2 ^ 64 := by
  unfold sm64 at h
  rw [Nat.blt_eq] at h
  omega
theorem sm62_of {i : Int} (h : -4611686018427387904 < i ∧ i < 4611686018427387904) : sm62 i = true := by
  unfold sm62
  rw [Nat.blt_eq]
  omega
theorem sm64_of {i : Int} (h : -18446744073709551616 < i ∧ i < 18446744073709551616) : sm64 i = true := by
  unfold sm64
  rw [Nat.blt_eq]
  omega
/-- one factor at least is small -/
def mulOk (i j : Int) : Bool := sm64 i || sm64 j
theorem mulOk_c {i j : Int} (h : mulOk i j = true) : CMul i j := by
  unfold mulOk at h
  rw [Bool.or_eq_true] at h
  exact h.imp sm64_ok sm64_ok
def vFdiv : Vl → Vl → Option Vl := vInt (fun _ j => decide (0 < j) && sm62 j) fun i j => .int (i / j)
def vMod : Vl → Vl → Option Vl := vInt (fun _ j => decide (0 < j)) fun i j => .int (i % j)
def vPow : Vl → Vl → Option Vl := vInt (fun i j => decide (0 ≤ j) && Nat.ble j.natAbs 1000000 && sm64 i) fun i j => .int (i ^ j.toNat)
theorem powOk_c {i j : Int} (h : (decide (0 ≤ j) && Nat.ble j.natAbs 1000000 && sm64 i) = true) : CPow i j := by
  simp only [Bool.and_eq_true, decide_eq_true_eq, Nat.ble_eq] at h
  have h2 := sm64_ok h.2
  exact (show 0 ≤ j ∧ j ≤ 1000000 ∧ i.natAbs < 2 ^ 64 from ⟨h.1.1, by omega, by omega⟩)
theorem ops_fdiv : OpS kt X (binaryOp .FloorDiv) vFdiv :=
  ops_int (g := fun i j => .int (i / j)) op_fdivW (fun i j h => by
    rw [Bool.and_eq_true] at h
    have h := And.intro (of_decide_eq_true h.1) (sm62_ok h.2).2
    exact ⟨h.1, Nat.lt_trans (PySem.Flt.log2_lt_of (k := 62) (by decide) (by omega)) (by decide)⟩) (fun _ _ _ _ => rfl) vInt_some
theorem ops_mod : OpS kt X (binaryOp .Mod) vMod :=
  ops_int (g := fun i j => .int (i % j)) op_mod (fun i j h => of_decide_eq_true h) (fun _ _ _ _ => rfl) vInt_some
theorem ops_pow : OpS kt X (binaryOp .Pow) vPow :=
  ops_int (g := fun i j => .int (i ^ j.toNat)) op_pow (fun i j h => powOk_c h) (fun _ _ _ _ => rfl) vInt_some
def vMul : Vl → Vl → Option Vl
  | .int i, .int j => if mulOk i j = true then some (.int (i * j)) else none
  | .lst xs, .int k => if sm62 k = true ∧ xs.length * k.toNat ≤ 16777216 then some (.lst (List.replicate k.toNat xs).flatten) else none
  | _, _ => none
theorem Reps.rep {K : PySem.W.Frag} {W : Wd} {xs : List Vl} {vs : List V} (h : Reps K W xs vs) : ∀ k : Nat, Reps K W (List.replicate k xs).flatten (List.replicate k vs).flatten
  | 0 => rfl
  | k + 1 => by
    rw [List.replicate_succ, List.replicate_succ, List.flatten_cons, List.flatten_cons]
    exact h.append (Reps.rep h k)
theorem ops_mul : OpS kt X (binaryOp .Mult) vMul := by
  refine ⟨_, op_mul.or op_rep, fun B σ env G W x y v u z Q A hx hy e q => ?_⟩
  unfold vMul at e
  split at e
  · split at e
    · cases e
      obtain rfl := hx.int; obtain rfl := hy.int
      exact .inl ⟨_, _, rfl, rfl, mulOk_c ‹_›, q W _ Ext.refl A rfl⟩
    · cases e
  · split at e
    · cases e
      obtain ⟨a, vs, rfl, h1, r1⟩ := hx.lst; obtain rfl := hy.int
      rename_i xs k hz
      have hz1 := sm62_ok hz.1
      have hz0 : k ≠ -(2 ^ 62) := fun z => by subst z; exact absurd hz.1 (by decide)
      refine .inr ⟨a, k, vs, rfl, rfl, h1, by omega, by omega, by rw [← r1.length]; exact hz.2, fun p hp => ?_⟩
      obtain ⟨e1, a1, r⟩ := new_lst A hp (r1.rep k.toNat)
      exact q _ _ e1 a1 r
    · cases e
  · cases e
end
end CardH
end
section
set_option maxHeartbeats 2000000
namespace CardH
open PySem PySem.Spec PyProof.Rows L2

def okM (p : Bool) (m : Md) : Bool := p || (match m with | .f => false | _ => true)
theorem okM_or {p : Bool} {m : Md} (h : okM p m = true) : p = true ∨ m ≠ .f := by
  cases m
  · exact .inr (fun z => nomatch z)
  · exact .inr (fun z => nomatch z)
  · left; cases p <;> simp_all [okM]
section
variable {kt : Kt} {B : Bs} {p q : Bool} {σ : L2.St} {env : LEnv} {W W1 : Wd} {Wish : WX} {α β γ δ : Type} {Z : Wd → α → β → Prop} {Z' : Wd → γ → δ → Prop}
theorem PoX.bindL {r : R α} {f : α → Gst → R γ} {Q : δ → Hp → Prop} (h : PoX kt B p σ env W Wish Z' (r.bind f) Q) :
    PoX kt B p σ env W Wish Z r (fun v H1 => ∃ W1 x G1, W1.H = H1 ∧ Ext p W W1 ∧ RAll kt B W1 σ env G1 ∧ Z W1 x v ∧ PoX kt B true σ env W1 Wish Z' (f x G1) Q) :=
  PoX.bindE (p := p) (q := true) (by rw [Bool.and_true]; exact h)
/-- o's answer -/
def opt {α : Type} (o : Option α) (G : Gst) : R α := match o with
  | some z => .ok z G
  | none => .bad
end
def dC (x : Vl) : DE := fun _ G => .ok x G
def dVar (i : Nat) : DE := fun env G => match env[i]? with
  | some (some (.val x)) => .ok x G
  | _ => .bad
def dPk (i : Nat) : DE := fun env G => match env[i]? with
  | some (some fv) => .ok fv.toVl G
  | _ => .bad
def dBin (o : Vl → Vl → Option Vl) (da db : DE) : DE := fun env G => (da env G).bind fun x G1 => (db env G1).bind fun y G2 => opt (o x y) G2
def dUn (o : Vl → Option Vl) (da : DE) : DE := fun env G => (da env G).bind fun x G1 => opt (o x) G1
/-- a value's truth -/
def vTru : Vl → Option Bool
  | .non => some false
  | .bl b => some b
  | .int i => some (i != 0)
  | .str x => if x.length ≤ 16777216 then some ((x.length : Int) != 0) else none
  | .tup xs => some (!xs.isEmpty)
  | .lst xs => some (!xs.isEmpty)
  | _ => none
def dTest (da : DE) : DT := fun env G => (da env G).bind fun x G1 => opt (vTru x) G1
def dTB (da : DE) : DT := fun env G => (da env G).bind fun x G1 => match x with
  | .bl b => .ok b G1
  | _ => .bad
def dAnd (t u : DT) : DT := fun env G => (t env G).bind fun c G1 => if c = true then u env G1 else .ok false G1
def dOr (t u : DT) : DT := fun env G => (t env G).bind fun c G1 => if c = true then .ok true G1 else u env G1
def dNot (t : DT) : DT := fun env G => (t env G).bind fun c G1 => .ok (!c) G1
def dBV (t : DT) : DE := fun env G => (t env G).bind fun c G1 => .ok (.bl c) G1
def dIf (t : DT) (da db : DE) : DE := fun env G => (t env G).bind fun c G1 => if c = true then da env G1 else db env G1
/-- a op b op' c -/
def dChain (o o' : Vl → Vl → Option Vl) (da db dc : DE) : DE := fun env G => (da env G).bind fun x G1 => (db env G1).bind fun y G2 => match o x y with
  | some (.bl true) => (dc env G2).bind fun z G3 => opt (o' y z) G3
  | some (.bl false) => .ok (.bl false) G2
  | _ => .bad

section
variable {kt : Kt} {B : Bs} {X : Cx} {p pa pb pc : Bool} {m ma mb mc : Md} {a b c : Expr} {da db dc : DE} {t u : DT} {pos : Pos} {i : Nat}
theorem sx_int {n : Int} {j} : SX kt B X true .s (.Constant (.int n) j pos) (dC (.int n)) := fun Wish _ => pe_int.imp fun σ H Q ⟨W, env, G, e, A, h⟩ => by
  subst e; exact h W _ Ext.refl A (.inl rfl)
theorem sx_bl {n : Bool} {j} : SX kt B X true .s (.Constant (.bool n) j pos) (dC (.bl n)) := fun Wish _ => pe_bl.imp fun σ H Q ⟨W, env, G, e, A, h⟩ => by
  subst e; exact h W _ Ext.refl A (.inl rfl)
theorem sx_non {j} : SX kt B X true .s (.Constant .none j pos) (dC .non) := fun Wish _ => pe_non.imp fun σ H Q ⟨W, env, G, e, A, h⟩ => by
  subst e; exact h W _ Ext.refl A (.inl rfl)
theorem sx_str {x : Str} {j} (ok : okStr x = true := by decide +kernel) : SX kt B X true .s (.Constant (.str x) j pos) (dC (.str x)) := fun Wish _ => pe_str.imp fun σ H Q ⟨W, env, G, e, A, h⟩ => by
  subst e; exact h W _ Ext.refl A (.inl ⟨rfl, ok⟩)
theorem sx_var (i : Nat) {x : Str} (hN : X.N[i]? = some x := by rfl) (hv : Vis X.env.scope x := by first | exact Or.inl rfl | exact Or.inr (Or.inl rfl) | exact Or.inr (Or.inr rfl))
    (hd : (x == ("__debug__" : Str)) = false := by decide) (hcd : (x == ("__classdict__" : Str)) = false := by decide) : SX kt B X true .s (.Name x pos) (dVar i) := fun Wish _ =>
  (pe_var hN hv hd hcd).imp fun σ H Q ⟨W, env, G, e, A, h⟩ => by
    subst e
    unfold dVar at h
    split at h
    · rename_i y hy
      obtain ⟨v, h1, h2, _⟩ := A.re.sl i _ hy
      exact ⟨v, h1, h W _ Ext.refl A (.inl h2)⟩
    · exact h.elim
theorem sx_peek (i : Nat) {x : Str} (hN : X.N[i]? = some x := by rfl) (hv : Vis X.env.scope x := by first | exact Or.inl rfl | exact Or.inr (Or.inl rfl) | exact Or.inr (Or.inr rfl))
    (hd : (x == ("__debug__" : Str)) = false := by decide) (hcd : (x == ("__classdict__" : Str)) = false := by decide) : SX kt B X true .k (.Name x pos) (dPk i) := fun Wish _ =>
  (pe_var hN hv hd hcd).imp fun σ H Q ⟨W, env, G, e, A, h⟩ => by
    subst e
    unfold dPk at h
    split at h
    · rename_i y hy
      obtain ⟨v, h1, h2, _⟩ := A.re.sl i _ hy
      exact ⟨v, h1, h W _ Ext.refl A (.inr ⟨.slot i, y, rfl, rfl, h2⟩)⟩
    · exact h.elim
/-- a constant of the module -/
def GlobIs (kt : Kt) (x : Str) (y : Vl) : Prop := ∃ v u, kt.mg x = some u ∧ RelV v u ∧ ∀ W, Rep kt.K W y v
theorem sx_glob {x : Str} {y : Vl} (g : GlobIs kt x y) (hm : X.mg = kt.mg := by rfl) (hg : Gl X x := by rfl) (hd : (x == ("__debug__" : Str)) = false := by decide) : SX kt B X true .s (.Name x pos) (dC y) := fun Wish _ => by
  obtain ⟨v, u, h1, r, h2⟩ := g
  exact (pe_glob hg (by rw [hm]; exact h1) r hd).imp fun σ H Q ⟨W, env, G, e, A, h⟩ => by
    subst e; exact h W _ Ext.refl A (.inl (h2 W))
theorem sx_weak (h : SX kt B X p .s a da) : SX kt B X p m a da := fun Wish tk => (h Wish tk).imp fun σ H Q ⟨W, env, G, e, A, g⟩ => by
  refine ⟨W, env, G, e, A, ?_⟩
  cases q : da env G with
  | bad => rw [q] at g; exact g
  | exn c G' => rw [q] at g; exact g
  | ok x G' => rw [q] at g; exact fun W' v e' A' z => g W' v e' A' z.weak

theorem opsPo {σ : L2.St} {env : LEnv} {W : Wd} {Wish : WX} {Q : VK} {o : Option Vl} {G : Gst} (h : PoX kt B true σ env W Wish (fun W x v => Pk kt.K W .s x v) (opt o G) Q) :
    ∃ z, o = some z ∧ ∀ W' w, Ext true W W' → RAll kt B W' σ env G → Rep kt.K W' z w → Q w W'.H := by
  cases o with
  | none => exact h.elim
  | some z => exact ⟨z, rfl, fun W' w e A r => h W' w e A (.inl r)⟩
theorem sx_bin {op : Operator} {o : Vl → Vl → Option Vl} (ho : OpS kt X (binaryOp op) o) (ha : SX kt B X pa ma a da) (hb : SX kt B X pb mb b db) (hm : okM pb ma = true := by rfl) :
    SX kt B X (pa && pb) .s (.BinOp a op b pos) (dBin o da db) := fun Wish tk => by
  obtain ⟨r, hr, hs⟩ := ho
  refine (pe_op hr (ha Wish tk) (hb Wish tk)).imp fun σ H Q ⟨W, env, G, e, A, h⟩ => ?_
  subst e
  refine ⟨W, env, G, rfl, A, h.bindE.mono ?_⟩
  rintro v H1 ⟨W1, x, G1, rfl, e1, A1, z1, h1⟩
  refine ⟨W1, env, G1, rfl, A1, h1.bindL.mono ?_⟩
  rintro u H2 ⟨W2, y, G2, rfl, e2, A2, z2, h2⟩
  obtain ⟨z, ez, q⟩ := opsPo h2
  exact hs B σ env G2 W2 x y v u z Q A2 (z1.ext e2 (okM_or hm)).any z2.any ez q
theorem sx_cmp {op : CmpOp} {o : Vl → Vl → Option Vl} (ho : OpS kt X (compareOp op) o) (ha : SX kt B X pa ma a da) (hb : SX kt B X pb mb b db) (hm : okM pb ma = true := by rfl) (hk : behindInMarks op b = false := by first | exact nomark _ | rfl) :
    SX kt B X (pa && pb) .s (.Compare a [op] [b] pos) (dBin o da db) := fun Wish tk => by
  obtain ⟨r, hr, hs⟩ := ho
  refine (pe_cmpR hr (ha Wish tk) (hb Wish tk) hk).imp fun σ H Q ⟨W, env, G, e, A, h⟩ => ?_
  subst e
  refine ⟨W, env, G, rfl, A, h.bindE.mono ?_⟩
  rintro v H1 ⟨W1, x, G1, rfl, e1, A1, z1, h1⟩
  refine ⟨W1, env, G1, rfl, A1, h1.bindL.mono ?_⟩
  rintro u H2 ⟨W2, y, G2, rfl, e2, A2, z2, h2⟩
  obtain ⟨z, ez, q⟩ := opsPo h2
  exact hs B σ env G2 W2 x y v u z Q A2 (z1.ext e2 (okM_or hm)).any z2.any ez q
/-- a comparison as a test -/
theorem st_cmp {op : CmpOp} {o : Vl → Vl → Option Vl} (ho : OpS kt X (compareOp op) o) (ha : SX kt B X pa ma a da) (hb : SX kt B X pb mb b db) (hm : okM pb ma = true := by rfl) (hk : behindInMarks op b = false := by first | exact nomark _ | rfl) :
    ST kt B X (pa && pb) (.Compare a [op] [b] pos) (dTB (dBin o da db)) := fun Wish tk => by
  obtain ⟨r, hr, hs⟩ := ho
  refine (pt_cmpR hr (ha Wish tk) (hb Wish tk) hk).imp fun σ H Q ⟨W, env, G, e, A, h⟩ => ?_
  subst e
  unfold dTB dBin at h
  have h : PoX kt B (pa && pb) σ env W Wish ZB ((da env G).bind fun x G1 => (db env G1).bind fun y G2 => (opt (o x y) G2).bind fun x G1 => match x with | .bl b => .ok b G1 | _ => .bad) Q := by
    cases q : da env G with
    | bad => rw [q] at h; exact h
    | exn c G' => rw [q] at h; exact h
    | ok x G' =>
      rw [q] at h
      show PoX kt B (pa && pb) σ env W Wish ZB ((db env G').bind _) Q
      cases q' : db env G' with
      | bad => simp only [q', R.bind_ok] at h; exact h
      | exn c G' => simp only [q', R.bind_ok] at h; exact h
      | ok y G' => simp only [q', R.bind_ok] at h; exact h
  refine ⟨W, env, G, rfl, A, h.bindE.mono ?_⟩
  rintro v H1 ⟨W1, x, G1, rfl, e1, A1, z1, h1⟩
  refine ⟨W1, env, G1, rfl, A1, h1.bindL.mono ?_⟩
  rintro u H2 ⟨W2, y, G2, rfl, e2, A2, z2, h2⟩
  cases ez : o x y with
  | none => rw [ez] at h2; exact h2.elim
  | some z =>
    rw [ez] at h2
    refine hs B σ env G2 W2 x y v u z (fun x H' => ∃ k, x = .bl k ∧ Q k H') A2 (z1.ext e2 (okM_or hm)).any z2.any ez fun W' w e' A' r' => ?_
    cases z with
    | bl k => exact ⟨k, r', h2 W' k e' A' rfl⟩
    | _ => exact h2.elim
end

/-! ### tests -/
section
variable {kt : Kt} {B : Bs} {X : Cx} {p pa pb pc : Bool} {m ma mb mc : Md} {a b c : Expr} {da db dc : DE} {t u : DT} {pos : Pos} {rest : List Expr}
theorem tru_of {W : Wd} {x : Vl} {v : V} {k : Bool} (hK : X.K = kt.K) (h : Pk kt.K W .f x v) (e : vTru x = some k) : TruV X.K v W.H k := by
  cases x with
  | non => cases e; obtain rfl := h.non; rfl
  | bl b => cases e; obtain rfl := h.bl; rfl
  | int i => cases e; obtain rfl := h.int; rfl
  | str x =>
    have e : (if x.length ≤ 16777216 then some ((x.length : Int) != 0) else none) = some k := e
    obtain ⟨rfl, _⟩ := h.str
    split at e
    · cases e; exact ⟨‹_›, rfl⟩
    · cases e
  | tup xs =>
    cases e
    obtain ⟨a, vs, rfl, h1, r⟩ := h.tup
    refine .inr (.inl ⟨vs, by rw [hK]; exact h1, ?_⟩)
    have l := r.length
    cases xs <;> cases vs <;> simp_all
  | lst xs =>
    cases e
    obtain ⟨a, vs, rfl, h1, r⟩ := h.lst
    refine .inl ⟨vs, SqL.of h1, ?_⟩
    have l := r.length
    cases xs <;> cases vs <;> simp_all
  | _ => cases e
/-- an expression as a test, by its truth -/
theorem st_val (ha : SX kt B X p m a da) (hK : X.K = kt.K := by rfl) (he : ∀ whole, isTrue a X.env whole = (do let v ← whole; standAt a.pos; holding [v] (truthy v)) := by intro _; rfl) : ST kt B X p a (dTest da) := fun Wish tk => by
  refine (pt_truth (ha Wish tk) he).imp fun σ H Q ⟨W, env, G, e, A, h⟩ => ?_
  subst e
  refine ⟨W, env, G, rfl, A, h.bindL.mono ?_⟩
  rintro v H1 ⟨W1, x, G1, rfl, e1, A1, z1, h1⟩
  cases ek : vTru x with
  | none => rw [ek] at h1; exact h1.elim
  | some k =>
    rw [ek] at h1
    exact ⟨k, tru_of hK z1.any ek, h1 W1 k Ext.refl A1 rfl⟩
theorem sw_and1 (h : ST kt B X p a t) : SW kt B X p (.BoolOp .And [a] pos) t := fun Wish tk => (pw_and1 (h Wish tk))
theorem sw_or1 (h : ST kt B X p a t) : SW kt B X p (.BoolOp .Or [a] pos) t := fun Wish tk => (pw_or1 (h Wish tk))
theorem sw_and (ha : ST kt B X pa a t) (hb : SW kt B X pb (.BoolOp .And (b :: rest) pos) u) : SW kt B X (pa && pb) (.BoolOp .And (a :: b :: rest) pos) (dAnd t u) := fun Wish tk => by
  refine (pw_and (ha Wish tk) (hb Wish tk)).imp fun σ H Q ⟨W, env, G, e, A, h⟩ => ?_
  subst e
  refine ⟨W, env, G, rfl, A, h.bindE.mono ?_⟩
  rintro c H1 ⟨W1, x, G1, rfl, e1, A1, z1, h1⟩
  obtain rfl : x = c := z1
  cases x with
  | true => exact ⟨W1, env, G1, rfl, A1, h1⟩
  | false => exact h1 W1 false Ext.refl A1 rfl
theorem sw_or (ha : ST kt B X pa a t) (hb : SW kt B X pb (.BoolOp .Or (b :: rest) pos) u) : SW kt B X (pa && pb) (.BoolOp .Or (a :: b :: rest) pos) (dOr t u) := fun Wish tk => by
  refine (pw_or (ha Wish tk) (hb Wish tk)).imp fun σ H Q ⟨W, env, G, e, A, h⟩ => ?_
  subst e
  refine ⟨W, env, G, rfl, A, h.bindE.mono ?_⟩
  rintro c H1 ⟨W1, x, G1, rfl, e1, A1, z1, h1⟩
  obtain rfl : x = c := z1
  cases x with
  | false => exact ⟨W1, env, G1, rfl, A1, h1⟩
  | true => exact h1 W1 true Ext.refl A1 rfl
theorem st_w (h : SW kt B X p a t) : ST kt B X p a t := fun Wish tk => (h Wish tk).pt
theorem st_not (h : ST kt B X p a t) : ST kt B X p (.UnaryOp .Not a pos) (dNot t) := fun Wish tk => by
  refine (pt_not (h Wish tk)).imp fun σ H Q ⟨W, env, G, e, A, h⟩ => ?_
  subst e
  refine ⟨W, env, G, rfl, A, h.bindL.mono ?_⟩
  rintro c H1 ⟨W1, x, G1, rfl, e1, A1, z1, h1⟩
  obtain rfl : x = c := z1
  exact h1 W1 _ Ext.refl A1 rfl
/-- not a, as a value: a True or False -/
theorem sx_not (ha : SX kt B X p m a da) : SX kt B X p .s (.UnaryOp .Not a pos) (dBV (dNot (dTB da))) := fun Wish tk => by
  refine (pe_not (ha Wish tk)).imp fun σ H Q ⟨W, env, G, e, A, h⟩ => ?_
  subst e
  have h : PoX kt B p σ env W Wish (fun W x v => Pk kt.K W .s x v) ((da env G).bind fun x G1 => match x with | .bl b => .ok (.bl (!b)) G1 | _ => .bad) Q := by
    unfold dBV dNot dTB at h
    cases q : da env G with
    | bad => rw [q] at h; exact h
    | exn c G' => rw [q] at h; exact h
    | ok x G' =>
      rw [q] at h
      cases x <;> exact h
  refine ⟨W, env, G, rfl, A, h.bindL.mono ?_⟩
  rintro v H1 ⟨W1, x, G1, rfl, e1, A1, z1, h1⟩
  cases x with
  | bl b => exact ⟨b, z1.bl, h1 W1 _ Ext.refl A1 (.inl rfl)⟩
  | _ => exact h1.elim
def dAndV (da db : DE) : DE := fun env G => (da env G).bind fun x G1 => match x with
  | .bl true => db env G1
  | .bl false => .ok (.bl false) G1
  | _ => .bad
def dOrV (da db : DE) : DE := fun env G => (da env G).bind fun x G1 => match x with
  | .bl false => db env G1
  | .bl true => .ok (.bl true) G1
  | _ => .bad
theorem sx_one {op} (h : SX kt B X p m a da) : SX kt B X p m (.BoolOp op [a] pos) da := fun Wish tk => pe_one (h Wish tk)
theorem sx_and (ha : SX kt B X pa ma a da) (hb : SX kt B X pb .s (.BoolOp .And (b :: rest) pos) db) : SX kt B X (pa && pb) .s (.BoolOp .And (a :: b :: rest) pos) (dAndV da db) := fun Wish tk => by
  refine (pe_and (ha Wish tk) (hb Wish tk)).imp fun σ H Q ⟨W, env, G, e, A, h⟩ => ?_
  subst e
  refine ⟨W, env, G, rfl, A, h.bindE.mono ?_⟩
  rintro v H1 ⟨W1, x, G1, rfl, e1, A1, z1, h1⟩
  cases x with
  | bl c =>
    refine ⟨c, z1.bl, ?_⟩
    cases c with
    | true => exact ⟨W1, env, G1, rfl, A1, h1⟩
    | false => exact h1 W1 _ Ext.refl A1 (.inl rfl)
  | _ => exact h1.elim
theorem sx_or (ha : SX kt B X pa ma a da) (hb : SX kt B X pb .s (.BoolOp .Or (b :: rest) pos) db) : SX kt B X (pa && pb) .s (.BoolOp .Or (a :: b :: rest) pos) (dOrV da db) := fun Wish tk => by
  refine (pe_or (ha Wish tk) (hb Wish tk)).imp fun σ H Q ⟨W, env, G, e, A, h⟩ => ?_
  subst e
  refine ⟨W, env, G, rfl, A, h.bindE.mono ?_⟩
  rintro v H1 ⟨W1, x, G1, rfl, e1, A1, z1, h1⟩
  cases x with
  | bl c =>
    refine ⟨c, z1.bl, ?_⟩
    cases c with
    | false => exact ⟨W1, env, G1, rfl, A1, h1⟩
    | true => exact h1 W1 _ Ext.refl A1 (.inl rfl)
  | _ => exact h1.elim
theorem PoX.weakP {α β : Type} {Z : Wd → α → β → Prop} {σ : L2.St} {env : LEnv} {W : Wd} {Wish : WX} {r : R α} {Q : β → Hp → Prop} {p q : Bool} (h : PoX kt B p σ env W Wish Z r Q) (hp : p = true → q = true) : PoX kt B q σ env W Wish Z r Q := by
  cases r with
  | bad => exact h
  | exn c G => exact fun W' od e A z => h W' od (e.mono hp) A z
  | ok x G => exact fun W' v e A z => h W' v (e.mono hp) A z
theorem sx_if (hc : ST kt B X pc c t) (ha : SX kt B X pa m a da) (hb : SX kt B X pb m b db) : SX kt B X (pc && (pa && pb)) m (.IfExp c a b pos) (dIf t da db) := fun Wish tk => by
  refine (pe_ifExp (hc Wish tk) (ha Wish tk) (hb Wish tk)).imp fun σ H Q ⟨W, env, G, e, A, h⟩ => ?_
  subst e
  refine ⟨W, env, G, rfl, A, h.bindE.mono ?_⟩
  rintro c H1 ⟨W1, x, G1, rfl, e1, A1, z1, h1⟩
  obtain rfl : x = c := z1
  cases x with
  | true => exact ⟨W1, env, G1, rfl, A1, PoX.weakP h1 fun z => (Bool.and_eq_true _ _ ▸ z).1⟩
  | false => exact ⟨W1, env, G1, rfl, A1, PoX.weakP h1 fun z => (Bool.and_eq_true _ _ ▸ z).2⟩
theorem chain_imp {op op' : CmpOp} {o o' : Vl → Vl → Option Vl} {Wish : WX} (ho : OpS kt X (compareOp op) o) (ho' : OpS kt X (compareOp op') o') (hm : okM pb ma = true) (hm' : okM pc mb = true) :
    ∃ r r', OpR X (compareOp op) r ∧ OpR X (compareOp op') r' ∧ ∀ σ H Q, rdX kt B (pa && (pb && pc)) Wish (fun W x v => Pk kt.K W .s x v) (dChain o o' da db dc) σ H Q →
      tChain r r' (rdX kt B pa Wish (fun W x v => Pk kt.K W ma x v) da) (rdX kt B pb Wish (fun W x v => Pk kt.K W mb x v) db) (rdX kt B pc Wish (fun W x v => Pk kt.K W mc x v) dc) σ H Q := by
  obtain ⟨r, hr, hs⟩ := ho
  obtain ⟨r', hr', hs'⟩ := ho'
  refine ⟨r, r', hr, hr', fun σ H Q ⟨W, env, G, e, A, h⟩ => ?_⟩
  subst e
  refine ⟨W, env, G, rfl, A, h.bindE.mono ?_⟩
  rintro v H1 ⟨W1, x, G1, rfl, e1, A1, z1, h1⟩
  refine ⟨W1, env, G1, rfl, A1, h1.bindE.mono ?_⟩
  rintro u H2 ⟨W2, y, G2, rfl, e2, A2, z2, h2⟩
  have z1' := z1.ext e2 (okM_or hm)
  split at h2
  · rename_i q
    refine hs B σ env G2 W2 x y v u (.bl true) _ A2 z1'.any z2.any q fun W' w e' A' r => ⟨true, r, ?_⟩
    rw [if_pos rfl]
    have h2 := PoX.shift (p := true) (q := pc) h2 e'
    refine ⟨W', env, G2, rfl, A', h2.bindL.mono ?_⟩
    rintro w' H3 ⟨W3, z, G3, rfl, e3, A3, z3, h3⟩
    obtain ⟨y', ey, qq⟩ := opsPo h3
    exact hs' B σ env G3 W3 y z u w' y' Q A3 ((z2.ext e' (.inl rfl)).ext e3 (okM_or hm')).any z3.any ey qq
  · rename_i q
    refine hs B σ env G2 W2 x y v u (.bl false) _ A2 z1'.any z2.any q fun W' w e' A' r => ⟨false, r, ?_⟩
    rw [if_neg Bool.false_ne_true]
    exact h2 W' _ (e'.weak) A' (.inl rfl)
  · exact h2.elim
theorem sx_chain {op op' : CmpOp} {o o' : Vl → Vl → Option Vl} (ho : OpS kt X (compareOp op) o) (ho' : OpS kt X (compareOp op') o') (ha : SX kt B X pa ma a da) (hb : SX kt B X pb mb b db) (hc : SX kt B X pc mc c dc)
    (hm : okM pb ma = true := by rfl) (hm' : okM pc mb = true := by rfl) (hl : lastMarks [op, op'] [b, c] = false := by with_unfolding_all rfl) : SX kt B X (pa && (pb && pc)) .s (.Compare a [op, op'] [b, c] pos) (dChain o o' da db dc) := fun Wish tk => by
  obtain ⟨r, r', hr, hr', hi⟩ := chain_imp (B := B) (pa := pa) (da := da) (db := db) (mc := mc) (dc := dc) (Wish := Wish) ho ho' hm hm'
  exact (pe_chain hr hr' (ha Wish tk) (hb Wish tk) (hc Wish tk) hl).imp hi
theorem rd_tb {d : DE} {Wish : WX} {σ : L2.St} {H : Hp} {Q : Bool → Hp → Prop} (h : rdX kt B p Wish ZB (dTB d) σ H Q) : rdX kt B p Wish (fun W x v => Pk kt.K W m x v) d σ H (fun x H' => ∃ k, x = .bl k ∧ Q k H') := by
  obtain ⟨W, env, G, e, A, h⟩ := h
  refine ⟨W, env, G, e, A, ?_⟩
  unfold dTB at h
  refine h.bindL.mono ?_
  rintro v H1 ⟨W1, x, G1, rfl, e1, A1, z1, h1⟩
  cases x with
  | bl b => obtain rfl := z1.bl; exact ⟨b, rfl, h1 W1 b Ext.refl A1 rfl⟩
  | _ => exact h1.elim
/-- a chain of two comparisons, as a test -/
theorem st_chain {op op' : CmpOp} {o o' : Vl → Vl → Option Vl} (ho : OpS kt X (compareOp op) o) (ho' : OpS kt X (compareOp op') o') (ha : SX kt B X pa ma a da) (hb : SX kt B X pb mb b db) (hc : SX kt B X pc mc c dc)
    (hm : okM pb ma = true := by rfl) (hm' : okM pc mb = true := by rfl) (hl : lastMarks [op, op'] [b, c] = false := by with_unfolding_all rfl) : ST kt B X (pa && (pb && pc)) (.Compare a [op, op'] [b, c] pos) (dTB (dChain o o' da db dc)) := fun Wish tk => by
  obtain ⟨r, r', hr, hr', hi⟩ := chain_imp (B := B) (pa := pa) (da := da) (db := db) (mc := mc) (dc := dc) (Wish := Wish) ho ho' hm hm'
  exact (pt_chain hr hr' (ha Wish tk) (hb Wish tk) (hc Wish tk) hl).imp fun σ H Q h => hi _ _ _ (rd_tb h)
end
end CardH
end
section
set_option maxHeartbeats 2000000
namespace CardH
open PySem PySem.Spec PyProof.Rows L2

/-! ### values as plain data -/
mutual
def py : Vl → Nat → Option PyData
  | .non, _ => some .none
  | .bl b, _ => some (.bool b)
  | .int i, _ => some (.int i)
  | .str x, _ => some (.str x)
  | .tup xs, n + 1 => (pys xs n).map .tuple
  | .ktp xs, n + 1 => (pys xs n).map .tuple
  | .stp xs, n + 1 => (pys xs n).map .tuple
  | .lst xs, n + 1 => (pys xs n).map .list
  | _, _ => none
def pys : List Vl → Nat → Option (List PyData)
  | [], _ => some []
  | x :: xs, n => match py x n, pys xs n with
    | some d, some ds => some (d :: ds)
    | _, _ => none
end
section
variable {K : PySem.W.Frag} {W : Wd}
mutual
theorem py_spec : ∀ (x : Vl) (n : Nat) (d : PyData) (v : V), Rep K W x v → py x n = some d → Dp K W.H v d ∧ d.canLay0 = true ∧ d.depth ≤ n
  | .non, _, _, _, h, e => by cases e; cases h; exact ⟨.non, rfl, Nat.zero_le _⟩
  | .bl b, _, _, _, h, e => by cases e; cases h; exact ⟨.bl b, rfl, Nat.zero_le _⟩
  | .int i, _, _, _, h, e => by cases e; cases h; exact ⟨.int i, rfl, Nat.zero_le _⟩
  | .str x, _, _, _, h, e => by
    cases e; obtain ⟨rfl, h⟩ := h
    exact ⟨.str x, by rw [PyData.canLay0]; exact h, Nat.zero_le _⟩
  | .tup xs, n + 1, d, v, h, e => by
    obtain ⟨a, vs, o, rfl, _, h1, _, h2⟩ := h
    obtain ⟨ds, e1, rfl⟩ := Option.map_eq_some_iff.mp e
    obtain ⟨q1, q2, q3⟩ := pys_spec xs n ds vs h2 e1
    exact ⟨.tup (.inl (.inr ⟨o, h1⟩)) q1, by simpa [PyData.canLay0] using q2, by simp only [PyData.depth]; omega⟩
  | .stp xs, n + 1, d, v, h, e => by
    obtain ⟨a, vs, rfl, h1, h2⟩ := h
    obtain ⟨ds, e1, rfl⟩ := Option.map_eq_some_iff.mp e
    obtain ⟨q1, q2, q3⟩ := pys_spec xs n ds vs h2 e1
    exact ⟨.tup (SqT.of h1) q1, by simpa [PyData.canLay0] using q2, by simp only [PyData.depth]; omega⟩
  | .ktp xs, n + 1, d, v, h, e => by
    obtain ⟨a, vs, rfl, h1, h2⟩ := h
    obtain ⟨ds, e1, rfl⟩ := Option.map_eq_some_iff.mp e
    obtain ⟨q1, q2, q3⟩ := pys_spec xs n ds vs h2 e1
    exact ⟨.tup (.inr h1) q1, by simpa [PyData.canLay0] using q2, by simp only [PyData.depth]; omega⟩
  | .lst xs, n + 1, d, v, h, e => by
    obtain ⟨a, vs, rfl, _, h1, h2⟩ := h
    obtain ⟨ds, e1, rfl⟩ := Option.map_eq_some_iff.mp e
    obtain ⟨q1, q2, q3⟩ := pys_spec xs n ds vs h2 e1
    exact ⟨.lst (SqL.of h1) q1, by simpa [PyData.canLay0] using q2, by simp only [PyData.depth]; omega⟩
  | .tup _, 0, _, _, _, e => by cases e
  | .ktp _, 0, _, _, _, e => by cases e
  | .stp _, 0, _, _, _, e => by cases e
  | .lst _, 0, _, _, _, e => by cases e
  | .dct _ _, _, _, _, _, e => by cases e
  | .ref _, _, _, _, _, e => by cases e
  | .scr _, _, _, _, _, e => by cases e
theorem pys_spec : ∀ (xs : List Vl) (n : Nat) (ds : List PyData) (vs : List V), Reps K W xs vs → pys xs n = some ds → DpAll K W.H vs ds ∧ PyData.canLayAll0 ds = true ∧ PyData.depthAll ds ≤ n
  | [], _, _, _, h, e => by cases e; cases h; exact ⟨.nil, rfl, Nat.zero_le _⟩
  | x :: xs, n, ds, vs, h, e => by
    obtain ⟨v, r, rfl, h1, h2⟩ := h
    unfold pys at e
    split at e
    · rename_i d ds' e1 e2
      cases e
      obtain ⟨a1, a2, a3⟩ := py_spec x n d v h1 e1
      obtain ⟨b1, b2, b3⟩ := pys_spec xs n ds' r h2 e2
      exact ⟨.cons a1 b1, by simp [PyData.canLayAll0, a2, b2], by simp only [PyData.depthAll]; omega⟩
    · cases e
end
theorem pk_py {m : Md} {x : Vl} {n : Nat} {d : PyData} {v : V} (h : Pk K W m x v) (e : py x n = some d) : Dp K W.H v d ∧ d.canLay0 = true ∧ d.depth ≤ n := by
  cases x with
  | lst xs =>
    cases n with
    | zero => cases e
    | succ n =>
      obtain ⟨a, vs, rfl, h1, h2⟩ := h.lst
      obtain ⟨ds, e1, rfl⟩ := Option.map_eq_some_iff.mp e
      obtain ⟨q1, q2, q3⟩ := pys_spec xs n ds vs h2 e1
      exact ⟨.lst (SqL.of h1) q1, by simpa [PyData.canLay0] using q2, by simp only [PyData.depth]; omega⟩
  | dct t kvs => cases e
  | _ => exact py_spec _ n d v (h.val (fun _ z => nomatch z) fun _ _ z => nomatch z) e
end
def vEq (x y : Vl) : Option Vl := match py x 60, py y 60 with
  | some d, some e => some (.bl (PyData.eqv d e))
  | _, _ => none
def vNe (x y : Vl) : Option Vl := match py x 60, py y 60 with
  | some d, some e => some (.bl (!PyData.eqv d e))
  | _, _ => none
section
variable {kt : Kt} {X : Cx}
theorem shaped60 {d : PyData} (h : d.canLay0 = true) (g : d.depth ≤ 60) : SeqAt.shaped d = true := by
  unfold SeqAt.shaped
  rw [h, Bool.true_and]
  exact decide_eq_true (by omega)
theorem ops_eq (hu : X.A.units + 64 < cLine) (hK : X.K = kt.K := by rfl) : OpS kt X (compareOp .Eq) vEq := by
  refine ⟨_, op_eqD hu, fun B σ env G W x y v u z Q A hx hy e q => ?_⟩
  unfold vEq at e
  split at e
  · rename_i d f e1 e2
    cases e
    obtain ⟨a1, a2, a3⟩ := pk_py hx e1
    obtain ⟨b1, b2, b3⟩ := pk_py hy e2
    rw [← hK] at a1 b1
    exact ⟨d, f, a1, b1, shaped60 a2 a3, shaped60 b2 b3, q W _ Ext.refl A rfl⟩
  · cases e
theorem ops_ne (hu : X.A.units + 64 < cLine) (hK : X.K = kt.K := by rfl) : OpS kt X (compareOp .NotEq) vNe := by
  refine ⟨_, op_neD hu, fun B σ env G W x y v u z Q A hx hy e q => ?_⟩
  unfold vNe at e
  split at e
  · rename_i d f e1 e2
    cases e
    obtain ⟨a1, a2, a3⟩ := pk_py hx e1
    obtain ⟨b1, b2, b3⟩ := pk_py hy e2
    rw [← hK] at a1 b1
    exact ⟨d, f, a1, b1, shaped60 a2 a3, shaped60 b2 b3, q W _ Ext.refl A rfl⟩
  · cases e
def isN : PyData → Bool
  | .none => true
  | _ => false
/-- order of alike data -/
def ordD (f : PyData → PyData → Bool) (x y : Vl) : Option Vl := match py x 60, py y 60 with
  | some d, some e => if PySem.W.alike d e = true ∧ isN d = false then some (.bl (f d e)) else none
  | _, _ => none
def vLt : Vl → Vl → Option Vl
  | .int i, .int j => some (.bl (decide (i < j)))
  | x, y => ordD (fun d e => PySem.W.dataLt d e) x y
def vGt : Vl → Vl → Option Vl
  | .int i, .int j => some (.bl (decide (j < i)))
  | x, y => ordD (fun d e => PySem.W.dataLt e d) x y
def vLe : Vl → Vl → Option Vl
  | .int i, .int j => some (.bl (decide (i ≤ j)))
  | x, y => ordD (fun d e => !PySem.W.dataLt e d) x y
def vGe : Vl → Vl → Option Vl
  | .int i, .int j => some (.bl (decide (j ≤ i)))
  | x, y => ordD (fun d e => !PySem.W.dataLt d e) x y
def rOrd (K : PySem.W.Frag) (f : PyData → PyData → Bool) : R2 := fun x y H Q => ∃ d e, Dp K H x d ∧ Dp K H y e ∧ SeqAt.shaped d = true ∧ SeqAt.shaped e = true ∧ PySem.W.alike d e = true ∧ d ≠ .none ∧ Q (.bl (f d e)) H
theorem op_ltD (hu : X.A.units + 64 < cLine) : OpR X (compareOp .Lt) (rOrd X.K fun d e => PySem.W.dataLt d e) := by
  intro pins s σ H x y v u Q I rx ry h
  obtain ⟨d, e, hd, he, sd, se, al, nn, q⟩ := h
  obtain ⟨as, r1⟩ := Dp.reads I d x v hd rx
  obtain ⟨bs, r2⟩ := Dp.reads I e y u he ry
  exact PySem.W.lt_data r1 r2 al nn (SeqAt.room_of_shaped sd hu) ⟨.bl _, H, I, rfl, q⟩
theorem op_gtD (hu : X.A.units + 64 < cLine) : OpR X (compareOp .Gt) (rOrd X.K fun d e => PySem.W.dataLt e d) := by
  intro pins s σ H x y v u Q I rx ry h
  obtain ⟨d, e, hd, he, sd, se, al, nn, q⟩ := h
  obtain ⟨as, r1⟩ := Dp.reads I d x v hd rx
  obtain ⟨bs, r2⟩ := Dp.reads I e y u he ry
  exact PySem.W.gt_data r1 r2 al nn (SeqAt.room_of_shaped sd hu) ⟨.bl _, H, I, rfl, q⟩
theorem op_leD (hu : X.A.units + 64 < cLine) : OpR X (compareOp .LtE) (rOrd X.K fun d e => !PySem.W.dataLt e d) := by
  intro pins s σ H x y v u Q I rx ry h
  obtain ⟨d, e, hd, he, sd, se, al, nn, q⟩ := h
  obtain ⟨as, r1⟩ := Dp.reads I d x v hd rx
  obtain ⟨bs, r2⟩ := Dp.reads I e y u he ry
  exact PySem.W.le_data r1 r2 al nn (SeqAt.room_of_shaped sd hu) ⟨.bl _, H, I, rfl, q⟩
theorem op_geD (hu : X.A.units + 64 < cLine) : OpR X (compareOp .GtE) (rOrd X.K fun d e => !PySem.W.dataLt d e) := by
  intro pins s σ H x y v u Q I rx ry h
  obtain ⟨d, e, hd, he, sd, se, al, nn, q⟩ := h
  obtain ⟨as, r1⟩ := Dp.reads I d x v hd rx
  obtain ⟨bs, r2⟩ := Dp.reads I e y u he ry
  exact PySem.W.ge_data r1 r2 al nn (SeqAt.room_of_shaped sd hu) ⟨.bl _, H, I, rfl, q⟩
theorem ordD_r {f : PyData → PyData → Bool} {x y z : Vl} {v u : V} {W : Wd} {Q : VK} (hK : X.K = kt.K) (hx : Pk kt.K W .f x v) (hy : Pk kt.K W .f y u) (e : ordD f x y = some z) (q : ∀ b, z = .bl b → Q (.bl b) W.H) : rOrd X.K f v u W.H Q := by
  unfold ordD at e
  split at e
  · rename_i d d' e1 e2
    by_cases h : PySem.W.alike d d' = true ∧ isN d = false
    · rw [if_pos h] at e
      cases e
      obtain ⟨a1, a2, a3⟩ := pk_py hx e1
      obtain ⟨b1, b2, b3⟩ := pk_py hy e2
      rw [← hK] at a1 b1
      exact ⟨d, d', a1, b1, shaped60 a2 a3, shaped60 b2 b3, h.1, (fun z => by rw [z] at h; cases h.2), q _ rfl⟩
    · rw [if_neg h] at e
      cases e
  · cases e
theorem ops_lt (hu : X.A.units + 64 < cLine) (hK : X.K = kt.K := by rfl) : OpS kt X (compareOp .Lt) vLt := by
  refine ⟨_, op_lt.or (op_ltD hu), fun B σ env G W x y v u z Q A hx hy e q => ?_⟩
  unfold vLt at e
  split at e
  · cases e
    obtain rfl := hx.int; obtain rfl := hy.int
    exact .inl ⟨_, _, rfl, rfl, q W _ Ext.refl A rfl⟩
  · exact .inr (ordD_r hK hx hy e fun b eb => q W _ Ext.refl A (by rw [eb]; rfl))
theorem ops_gt (hu : X.A.units + 64 < cLine) (hK : X.K = kt.K := by rfl) : OpS kt X (compareOp .Gt) vGt := by
  refine ⟨_, op_gt.or (op_gtD hu), fun B σ env G W x y v u z Q A hx hy e q => ?_⟩
  unfold vGt at e
  split at e
  · cases e
    obtain rfl := hx.int; obtain rfl := hy.int
    exact .inl ⟨_, _, rfl, rfl, q W _ Ext.refl A rfl⟩
  · exact .inr (ordD_r hK hx hy e fun b eb => q W _ Ext.refl A (by rw [eb]; rfl))
theorem ops_le (hu : X.A.units + 64 < cLine) (hK : X.K = kt.K := by rfl) : OpS kt X (compareOp .LtE) vLe := by
  refine ⟨_, op_le.or (op_leD hu), fun B σ env G W x y v u z Q A hx hy e q => ?_⟩
  unfold vLe at e
  split at e
  · cases e
    obtain rfl := hx.int; obtain rfl := hy.int
    exact .inl ⟨_, _, rfl, rfl, q W _ Ext.refl A rfl⟩
  · exact .inr (ordD_r hK hx hy e fun b eb => q W _ Ext.refl A (by rw [eb]; rfl))
theorem ops_ge (hu : X.A.units + 64 < cLine) (hK : X.K = kt.K := by rfl) : OpS kt X (compareOp .GtE) vGe := by
  refine ⟨_, op_ge.or (op_geD hu), fun B σ env G W x y v u z Q A hx hy e q => ?_⟩
  unfold vGe at e
  split at e
  · cases e
    obtain rfl := hx.int; obtain rfl := hy.int
    exact .inl ⟨_, _, rfl, rfl, q W _ Ext.refl A rfl⟩
  · exact .inr (ordD_r hK hx hy e fun b eb => q W _ Ext.refl A (by rw [eb]; rfl))
end

/-! ### dicts as lists of pairs -/
section
variable {κ : Type} [DecidableEq κ]
def dgetF (f : Vl → Option κ) (kvs : List (Vl × Vl)) (q : κ) : Option Vl := (kvs.find? fun kv => decide (f kv.1 = some q)).map (·.2)
def dputF (f : Vl → Option κ) (kvs : List (Vl × Vl)) (k : Vl) (q : κ) (x : Vl) : List (Vl × Vl) :=
  if (kvs.any fun kv => decide (f kv.1 = some q)) = true then kvs.map (fun kv => if f kv.1 = some q then (kv.1, x) else kv) else kvs ++ [(k, x)]
def ddropF (f : Vl → Option κ) (kvs : List (Vl × Vl)) (q : κ) : List (Vl × Vl) := kvs.filter fun kv => decide (f kv.1 ≠ some q)
/-- the pairs of a dict as they lie -/
def RepD (K : PySem.W.Frag) (W : Wd) (f : Vl → Option κ) : List (Vl × Vl) → List (κ × V) → Prop := Paired fun kv p => f kv.1 = some p.1 ∧ Rep K W kv.2 p.2
/-- an answer, or none -/
def GetR (K : PySem.W.Frag) (W : Wd) : Option Vl → Option V → Prop
  | some x, o => ∃ v, o = some v ∧ Rep K W x v
  | none, o => o = none
variable {K : PySem.W.Frag} {W : Wd} {f : Vl → Option κ}
theorem RepD.get : ∀ {kvs : List (Vl × Vl)} {ks : List (κ × V)} (q : κ), RepD K W f kvs ks → GetR K W (dgetF f kvs q) (valV ks q)
  | _, _, q, .nil => rfl
  | kv :: kvs, p :: ks, q, .cons r t => by
    have ih := RepD.get q t
    by_cases e : p.1 = q
    · have e1 : f kv.1 = some q := by rw [r.1, e]
      have h1 : dgetF f (kv :: kvs) q = some kv.2 := by simp [dgetF, List.find?_cons, e1]
      rw [h1]
      exact ⟨p.2, valV_pos e, r.2⟩
    · have e1 : ¬ f kv.1 = some q := by rw [r.1]; simpa using e
      have h1 : dgetF f (kv :: kvs) q = dgetF f kvs q := by simp [dgetF, List.find?_cons, e1]
      rw [h1, valV_neg e]
      exact ih
theorem RepD.any : ∀ {kvs : List (Vl × Vl)} {ks : List (κ × V)} (q : κ), RepD K W f kvs ks → (kvs.any fun kv => decide (f kv.1 = some q)) = ks.any fun p => decide (p.1 = q)
  | _, _, q, .nil => rfl
  | kv :: kvs, p :: ks, q, .cons r t => by
    simp only [List.any_cons, RepD.any q t, r.1, Option.some.injEq]
theorem RepD.append : ∀ {kvs kvs' : List (Vl × Vl)} {ks ks' : List (κ × V)}, RepD K W f kvs ks → RepD K W f kvs' ks' → RepD K W f (kvs ++ kvs') (ks ++ ks')
  | _, _, _, _, .nil, g => g
  | _, _, _, _, .cons r t, g => .cons r (RepD.append t g)
theorem RepD.mapPut {x : Vl} {q : κ} {v : V} (hx : Rep K W x v) : ∀ {kvs : List (Vl × Vl)} {ks : List (κ × V)}, RepD K W f kvs ks → RepD K W f (kvs.map (fun kv => if f kv.1 = some q then (kv.1, x) else kv)) (ks.map fun kv => if kv.1 = q then (kv.1, v) else kv)
  | _, _, .nil => .nil
  | kv :: kvs, p :: ks, .cons r t => by
    refine .cons ?_ (RepD.mapPut hx t)
    dsimp only
    by_cases e : p.1 = q
    · rw [if_pos (show f kv.1 = some q by rw [r.1, e]), if_pos e]
      exact ⟨r.1, hx⟩
    · rw [if_neg (show ¬ f kv.1 = some q by rw [r.1]; simpa using e), if_neg e]
      exact r
theorem RepD.put {kvs : List (Vl × Vl)} {ks : List (κ × V)} {k x : Vl} {q : κ} {v : V} (h : RepD K W f kvs ks) (hk : f k = some q) (hx : Rep K W x v) : RepD K W f (dputF f kvs k q x) (putK ks q v) := by
  unfold dputF putK
  rw [h.any q]
  split
  · exact h.mapPut hx
  · exact h.append (.cons ⟨hk, hx⟩ .nil)
theorem RepD.drop : ∀ {kvs : List (Vl × Vl)} {ks : List (κ × V)} (q : κ), RepD K W f kvs ks → RepD K W f (ddropF f kvs q) (dropK ks q)
  | _, _, _, .nil => .nil
  | kv :: kvs, p :: ks, q, .cons r t => by
    have ih := RepD.drop q t
    unfold ddropF dropK at ih ⊢
    by_cases e : p.1 = q
    · rw [List.filter_cons_of_neg (by rw [r.1]; simpa using e), List.filter_cons_of_neg (by simpa using e)]
      exact ih
    · rw [List.filter_cons_of_pos (by rw [r.1]; simpa using e), List.filter_cons_of_pos (by simpa using e)]
      exact .cons r ih
end
section
variable {K : PySem.W.Frag} {W : Wd}
theorem RepK.to : ∀ {kvs : List (Vl × Vl)} {ks : List (Key × V)}, RepK K W kvs ks → RepD K W keyOf kvs ks
  | [], _, h => by cases h; exact .nil
  | (k, x) :: kvs, _, h => by
    obtain ⟨q, v, r, rfl, h1, h2, h3⟩ := h
    exact .cons ⟨h1, h2⟩ (RepK.to h3)
theorem RepK.of : ∀ {kvs : List (Vl × Vl)} {ks : List (Key × V)}, RepD K W keyOf kvs ks → RepK K W kvs ks
  | [], _, .nil => rfl
  | (k, x) :: kvs, (q, v) :: r, .cons a b => ⟨q, v, r, rfl, a.1, a.2, RepK.of b⟩
theorem RepT.to : ∀ {kvs : List (Vl × Vl)} {ks : List (List Key × V)}, RepT K W kvs ks → RepD K W keyTOf kvs ks
  | [], _, h => by cases h; exact .nil
  | (k, x) :: kvs, _, h => by
    obtain ⟨q, v, r, rfl, h1, h2, h3⟩ := h
    exact .cons ⟨h1, h2⟩ (RepT.to h3)
theorem RepT.of : ∀ {kvs : List (Vl × Vl)} {ks : List (List Key × V)}, RepD K W keyTOf kvs ks → RepT K W kvs ks
  | [], _, .nil => rfl
  | (k, x) :: kvs, (q, v) :: r, .cons a b => ⟨q, v, r, rfl, a.1, a.2, RepT.of b⟩
theorem keyOf_rep {x : Vl} {v : V} {q : Key} (h : Rep K W x v) (e : keyOf x = some q) : v = kV q := by
  cases x <;> cases e
  · exact h
  · exact h.1
theorem keysOf_rep : ∀ {xs : List Vl} {vs : List V} {ks : List Key}, Reps K W xs vs → keysOf xs = some ks → vs = ks.map kV
  | [], _, _, h, e => by cases h; cases e; rfl
  | x :: xs, _, ks, h, e => by
    obtain ⟨v, r, rfl, h1, h2⟩ := h
    unfold keysOf at e
    split at e
    · rename_i k ks' e1 e2
      cases e
      rw [keyOf_rep h1 e1, keysOf_rep h2 e2]; rfl
    · cases e
theorem keyTOf_rep {x : Vl} {v : V} {q : List Key} (h : Rep K W x v) (e : keyTOf x = some q) : ∃ b, v = .ref b ∧ W.H b = some (.tup (q.map kV)) := by
  cases x with
  | stp xs =>
    obtain ⟨a, vs, rfl, h1, h2⟩ := h
    rw [keysOf_rep h2 e] at h1
    exact ⟨a, rfl, h1⟩
  | _ => cases e
end
/-- what a dict holds at a key: none, where the key is of no such kind -/
def dAt (t : Bool) (kvs : List (Vl × Vl)) (k : Vl) : Option (Option Vl) := match t with
  | false => (keyOf k).map fun q => dgetF keyOf kvs q
  | true => (keyTOf k).map fun q => dgetF keyTOf kvs q
def dPut (t : Bool) (kvs : List (Vl × Vl)) (k x : Vl) : Option (List (Vl × Vl)) := match t with
  | false => (keyOf k).map fun q => dputF keyOf kvs k q x
  | true => (keyTOf k).map fun q => dputF keyTOf kvs k q x
def dDrop (t : Bool) (kvs : List (Vl × Vl)) (k : Vl) : Option (List (Vl × Vl)) := match t with
  | false => (keyOf k).map fun q => ddropF keyOf kvs q
  | true => (keyTOf k).map fun q => ddropF keyTOf kvs q
section
variable {K : PySem.W.Frag} {W : Wd} {m : Md}
theorem dAt_get {t : Bool} {kvs : List (Vl × Vl)} {k : Vl} {v u : V} {o : Option Vl} (h : Pk K W m (.dct t kvs) v) (hk : Rep K W k u) (e : dAt t kvs k = some o) :
    ∃ a o', v = .ref a ∧ DGet W.H a u o' ∧ GetR K W o o' := by
  cases t with
  | false =>
    obtain ⟨q, eq, rfl⟩ := Option.map_eq_some_iff.mp e
    obtain ⟨a, ks, rfl, h1, h2⟩ := h.dK
    refine ⟨a, _, rfl, .inl ⟨ks, q, h1, keyOf_rep hk eq, rfl⟩, ?_⟩
    exact h2.to.get q
  | true =>
    obtain ⟨q, eq, rfl⟩ := Option.map_eq_some_iff.mp e
    obtain ⟨a, ks, rfl, h1, h2⟩ := h.dT
    obtain ⟨b, eb, hb⟩ := keyTOf_rep hk eq
    refine ⟨a, _, rfl, .inr ⟨ks, q, b, h1, eb, hb, rfl⟩, ?_⟩
    exact h2.to.get q
end
/-! ### in, not in; is -/
def vIn (x : Vl) : Vl → Option Bool
  | .str z => match x with
    | .str a => match a.cps.toList with
      | [c] => some (decide (c ∈ z.cps.toList))
      | _ => none
    | _ => none
  | .dct t kvs => (dAt t kvs x).map (·.isSome)
  | .lst ys => match py x 60, pys ys 59 with
    | some d, some ds => some (ds.any fun z => PyData.eqv z d)
    | _, _ => none
  | .tup ys => match py x 60, pys ys 59 with
    | some d, some ds => some (ds.any fun z => PyData.eqv z d)
    | _, _ => none
  | .stp ys => match py x 60, pys ys 59 with
    | some d, some ds => some (ds.any fun z => PyData.eqv z d)
    | _, _ => none
  | .ktp ys => match py x 60, pys ys 59 with
    | some d, some ds => some (ds.any fun z => PyData.eqv z d)
    | _, _ => none
  | _ => none
def vInV (x y : Vl) : Option Vl := (vIn x y).map .bl
def vNotInV (x y : Vl) : Option Vl := (vIn x y).map fun b => .bl (!b)
def rInT (K : PySem.W.Frag) (f : Bool → Bool) : R2 := fun x y H Q => ∃ d ds, Dp K H x d ∧ (Dp K H y (.list ds) ∨ Dp K H y (.tuple ds)) ∧ SeqAt.shaped d = true ∧ SeqAt.shaped (.list ds) = true ∧ Q (.bl (f (ds.any fun z => PyData.eqv z d))) H
def rInDc (f : Bool → Bool) : R2 := fun x y H Q => ∃ a o, y = .ref a ∧ DGet H a x o ∧ Q (.bl (f o.isSome)) H
section
variable {kt : Kt} {X : Cx}
theorem op_inT (hu : X.A.units + 65 < cLine) : OpR X (compareOp .In) (rInT X.K id) := by
  intro pins s σ H x y v u Q I rx ry h
  obtain ⟨d, ds, hd, he, sd, se, q⟩ := h
  obtain ⟨as, r1⟩ := Dp.reads I d x v hd rx
  rcases he with he | he
  · obtain ⟨bs, r2⟩ := Dp.reads I (.list ds) y u he ry
    exact SeqAt.in_list_reads r2 r1 (SeqAt.canLay_of_shaped se) (SeqAt.canLay_of_shaped sd) (room_in_shaped sd hu) ⟨.bl _, H, I, rfl, q⟩
  · obtain ⟨bs, r2⟩ := Dp.reads I (.tuple ds) y u he ry
    exact SeqAt.in_tuple_reads r2 r1 (SeqAt.canLay_of_shaped se) (SeqAt.canLay_of_shaped sd) (room_in_shaped sd hu) ⟨.bl _, H, I, rfl, q⟩
theorem op_notInT (hu : X.A.units + 65 < cLine) : OpR X (compareOp .NotIn) (rInT X.K not) := by
  intro pins s σ H x y v u Q I rx ry h
  obtain ⟨d, ds, hd, he, sd, se, q⟩ := h
  obtain ⟨as, r1⟩ := Dp.reads I d x v hd rx
  rcases he with he | he
  · obtain ⟨bs, r2⟩ := Dp.reads I (.list ds) y u he ry
    exact SeqAt.notIn_list_reads r2 r1 (SeqAt.canLay_of_shaped se) (SeqAt.canLay_of_shaped sd) (room_in_shaped sd hu) ⟨.bl _, H, I, rfl, q⟩
  · obtain ⟨bs, r2⟩ := Dp.reads I (.tuple ds) y u he ry
    exact SeqAt.notIn_tuple_reads r2 r1 (SeqAt.canLay_of_shaped se) (SeqAt.canLay_of_shaped sd) (room_in_shaped sd hu) ⟨.bl _, H, I, rfl, q⟩
theorem op_inDc (hu : X.A.units + 65 < cLine) : OpR X (compareOp .In) (rInDc id) := by
  intro pins s σ H x y v u Q I rx ry h
  obtain ⟨a, o, rfl, g, q⟩ := h
  cases ry
  exact d_in (by omega) I g rx fun s' I' => ⟨.bl _, H, I', rfl, q⟩
theorem op_notInDc (hu : X.A.units + 65 < cLine) : OpR X (compareOp .NotIn) (rInDc not) := by
  intro pins s σ H x y v u Q I rx ry h
  obtain ⟨a, o, rfl, g, q⟩ := h
  cases ry
  exact d_notIn (by omega) I g rx fun s' I' => ⟨.bl _, H, I', rfl, q⟩
theorem str_one {a : Str} {c : Nat} (h : a.cps.toList = [c]) : a = ⟨#[c]⟩ := by
  obtain ⟨a⟩ := a
  exact congrArg Str.mk (by rw [← Array.toList_inj, h])
theorem vIn_r {f : Bool → Bool} {x y : Vl} {v u : V} {W : Wd} {Q : VK} {b : Bool} (hK : X.K = kt.K) (hx : Pk kt.K W .f x v) (hy : Pk kt.K W .f y u) (e : vIn x y = some b) (q : Q (.bl (f b)) W.H) :
    (∃ (c : Nat) (z : Str), v = .str ⟨#[c]⟩ ∧ u = .str z ∧ Q (.bl (f (decide (c ∈ z.cps.toList)))) W.H) ∨ rInT X.K f v u W.H Q ∨ rInDc f v u W.H Q := by
  have data : ∀ {d : PyData} {ds : List PyData}, py x 60 = some d → Dp X.K W.H u (.list ds) ∨ Dp X.K W.H u (.tuple ds) → PyData.canLayAll0 ds = true → PyData.depthAll ds ≤ 59 → (ds.any fun z => PyData.eqv z d) = b → rInT X.K f v u W.H Q := by
    intro d ds e1 h1 h2 h3 eb
    obtain ⟨a1, a2, a3⟩ := pk_py hx e1
    rw [← hK] at a1
    exact ⟨d, ds, a1, h1, shaped60 a2 a3, shaped60 (by simpa [PyData.canLay0] using h2) (by simp only [PyData.depth]; omega), by rw [eb]; exact q⟩
  cases y with
  | str z =>
    obtain ⟨rfl, _⟩ := hy.str
    cases x with
    | str a =>
      have e : (match a.cps.toList with | [c] => some (decide (c ∈ z.cps.toList)) | _ => none) = some b := e
      split at e
      · rename_i c ec
        cases e
        obtain ⟨rfl, _⟩ := hx.str
        exact .inl ⟨c, z, by rw [str_one ec], rfl, q⟩
      · cases e
    | _ => cases e
  | dct t kvs =>
    obtain ⟨o, eo, rfl⟩ := Option.map_eq_some_iff.mp e
    have hx' : Rep kt.K W x v := hx.val (fun xs z => by subst z; cases t <;> cases eo) fun t' kvs' z => by subst z; cases t <;> cases eo
    obtain ⟨a, o', rfl, g, h⟩ := dAt_get hy hx' eo
    refine .inr (.inr ⟨a, o', rfl, g, ?_⟩)
    cases o with
    | some x => obtain ⟨w, rfl, _⟩ := h; exact q
    | none => subst h; exact q
  | lst ys =>
    have e : (match py x 60, pys ys 59 with | some d, some ds => some (ds.any fun z => PyData.eqv z d) | _, _ => none) = some b := e
    split at e
    · rename_i d ds e1 e2
      obtain ⟨a, vs, rfl, h1, h2⟩ := hy.lst
      obtain ⟨q1, q2, q3⟩ := pys_spec ys 59 ds vs h2 e2
      exact .inr (.inl (data e1 (.inl (.lst (SqL.of h1) (by rw [hK]; exact q1))) q2 q3 (Option.some.inj e)))
    · cases e
  | tup ys =>
    have e : (match py x 60, pys ys 59 with | some d, some ds => some (ds.any fun z => PyData.eqv z d) | _, _ => none) = some b := e
    split at e
    · rename_i d ds e1 e2
      obtain ⟨a, vs, rfl, h1, h2⟩ := hy.tup
      obtain ⟨q1, q2, q3⟩ := pys_spec ys 59 ds vs h2 e2
      exact .inr (.inl (data e1 (.inr (.tup (by rw [hK]; exact h1) (by rw [hK]; exact q1))) q2 q3 (Option.some.inj e)))
    · cases e
  | ktp ys =>
    have e : (match py x 60, pys ys 59 with | some d, some ds => some (ds.any fun z => PyData.eqv z d) | _, _ => none) = some b := e
    split at e
    · rename_i d ds e1 e2
      obtain ⟨a, vs, rfl, h1, h2⟩ := hy.ktp
      obtain ⟨q1, q2, q3⟩ := pys_spec ys 59 ds vs h2 e2
      exact .inr (.inl (data e1 (.inr (.tup (by rw [hK]; exact h1) (by rw [hK]; exact q1))) q2 q3 (Option.some.inj e)))
    · cases e
  | stp ys =>
    have e : (match py x 60, pys ys 59 with | some d, some ds => some (ds.any fun z => PyData.eqv z d) | _, _ => none) = some b := e
    split at e
    · rename_i d ds e1 e2
      obtain ⟨a, vs, rfl, h1, h2⟩ := hy.stp
      obtain ⟨q1, q2, q3⟩ := pys_spec ys 59 ds vs h2 e2
      exact .inr (.inl (data e1 (.inr (.tup (by rw [hK]; exact h1) (by rw [hK]; exact q1))) q2 q3 (Option.some.inj e)))
    · cases e
  | _ => cases e
theorem ops_in (hu : X.A.units + 65 < cLine) (hK : X.K = kt.K := by rfl) : OpS kt X (compareOp .In) vInV := by
  refine ⟨_, op_in_sign.or ((op_inT hu).or (op_inDc hu)), fun B σ env G W x y v u z Q A hx hy e q => ?_⟩
  obtain ⟨b, eb, rfl⟩ := Option.map_eq_some_iff.mp e
  exact vIn_r (f := id) hK hx hy eb (q W _ Ext.refl A rfl)
theorem ops_notIn (hu : X.A.units + 65 < cLine) (hK : X.K = kt.K := by rfl) : OpS kt X (compareOp .NotIn) vNotInV := by
  refine ⟨_, op_notIn_sign.or ((op_notInT hu).or (op_notInDc hu)), fun B σ env G W x y v u z Q A hx hy e q => ?_⟩
  obtain ⟨b, eb, rfl⟩ := Option.map_eq_some_iff.mp e
  exact vIn_r (f := not) hK hx hy eb (q W _ Ext.refl A rfl)
/-- is: with None, or of two objects of the store -/
def vIs : Vl → Vl → Option Bool
  | .ref i, .ref j => some (decide (i = j))
  | .non, .non => some true
  | .ref _, .non => some false
  | .str _, .non => some false
  | .int _, .non => some false
  | .tup _, .non => some false
  | .lst _, .non => some false
  | .bl _, .non => some false
  | _, _ => none
end
end CardH
end
section
set_option maxHeartbeats 2000000
namespace CardH
open PySem PySem.Spec PyProof.Rows L2

/-! ### arguments -/
def PkS (K : PySem.W.Frag) (W : Wd) (m : Md) : List Vl → List V → Prop
  | [], vs => vs = []
  | x :: xs, vs => ∃ v r, vs = v :: r ∧ Pk K W m x v ∧ PkS K W m xs r
theorem PkS.ext {K : PySem.W.Frag} {p : Bool} {W W' : Wd} {m : Md} (e : Ext p W W') (hp : p = true ∨ m ≠ .f) : ∀ {xs : List Vl} {vs : List V}, PkS K W m xs vs → PkS K W' m xs vs
  | [], _, h => h
  | _ :: _, _, h => by
    obtain ⟨v, r, e1, h1, h2⟩ := h
    exact ⟨v, r, e1, h1.ext e hp, PkS.ext e hp h2⟩
theorem PkS.strict {K : PySem.W.Frag} {W : Wd} : ∀ {xs : List Vl} {vs : List V}, PkS K W .s xs vs → Reps K W xs vs
  | [], _, h => h
  | _ :: _, _, h => by
    obtain ⟨v, r, e1, h1, h2⟩ := h
    exact ⟨v, r, e1, h1.strict, PkS.strict h2⟩
theorem PkS.any {K : PySem.W.Frag} {W : Wd} {m : Md} : ∀ {xs : List Vl} {vs : List V}, PkS K W m xs vs → PkS K W .f xs vs
  | [], _, h => h
  | _ :: _, _, h => by
    obtain ⟨v, r, e1, h1, h2⟩ := h
    exact ⟨v, r, e1, h1.any, PkS.any h2⟩
theorem PkS.one {K : PySem.W.Frag} {W : Wd} {m : Md} {x : Vl} {vs : List V} (h : PkS K W m [x] vs) : ∃ v, vs = [v] ∧ Pk K W m x v := by
  obtain ⟨v, r, e1, h1, h2⟩ := h
  cases h2
  exact ⟨v, e1, h1⟩
theorem PkS.two {K : PySem.W.Frag} {W : Wd} {m : Md} {x y : Vl} {vs : List V} (h : PkS K W m [x, y] vs) : ∃ v u, vs = [v, u] ∧ Pk K W m x v ∧ Pk K W m y u := by
  obtain ⟨v, r, e1, h1, h2⟩ := h
  obtain ⟨u, rfl, h3⟩ := h2.one
  exact ⟨v, u, e1, h1, h3⟩
def SAm (kt : Kt) (B : Bs) (X : Cx) (p : Bool) (m : Md) (es : List Expr) (d : DA) : Prop := ∀ Wish, Takes X Wish → PA X es (rdX kt B p Wish (fun W x v => PkS kt.K W m x v) d)
def daNil : DA := fun _ G => .ok [] G
def daCons (d : DE) (ds : DA) : DA := fun env G => (d env G).bind fun x G1 => (ds env G1).bind fun xs G2 => .ok (x :: xs) G2
def okMs (p : Bool) : Md → Bool
  | .f => p
  | _ => true
section
variable {kt : Kt} {B : Bs} {X : Cx} {p pa pb pc : Bool} {m ma mb mc : Md} {a b c e : Expr} {es : List Expr} {da db dc d : DE} {ds : DA} {t u : DT} {pos : Pos} {i : Nat}
theorem sa_nil : SAm kt B X true m [] daNil := fun Wish _ => pa_nil.imp fun σ H Q ⟨W, env, G, e, A, h⟩ => by
  subst e; exact h W _ Ext.refl A rfl
theorem sa_cons (h1 : SX kt B X pa m e d) (h2 : SAm kt B X pb m es ds) (hm : okMs pb m = true := by rfl) (hs : starEach (e :: es) X.env = (false, eval e X.env) :: starEach es X.env := by rfl) :
    SAm kt B X (pa && pb) m (e :: es) (daCons d ds) := fun Wish tk => by
  refine (pa_cons (h1 Wish tk) (h2 Wish tk) hs).imp fun σ H Q ⟨W, env, G, e, A, h⟩ => ?_
  subst e
  refine ⟨W, env, G, rfl, A, h.bindE.mono ?_⟩
  rintro v H1 ⟨W1, x, G1, rfl, e1, A1, z1, h1⟩
  refine ⟨W1, env, G1, rfl, A1, h1.bindL.mono ?_⟩
  rintro vs H2 ⟨W2, xs, G2, rfl, e2, A2, z2, h2⟩
  refine h2 W2 _ Ext.refl A2 ⟨v, vs, rfl, z1.ext e2 ?_, z2⟩
  cases m with
  | s => exact .inr (fun z => nomatch z)
  | k => exact .inr (fun z => nomatch z)
  | f => exact .inl hm

/-! ### displays -/
def dTup (ds : DA) : DE := fun env G => (ds env G).bind fun xs G1 => if xs.length ≤ 16777216 then .ok (.tup xs) G1 else .bad
def dStp (ds : DA) : DE := fun env G => (ds env G).bind fun xs G1 => if xs.length ≤ 16777216 then .ok (.stp xs) G1 else .bad
def dLst (ds : DA) : DE := fun env G => (ds env G).bind fun xs G1 => if xs.length ≤ 16777216 then .ok (.lst xs) G1 else .bad
theorem sx_tup {k} (h : SAm kt B X p .s es ds) : SX kt B X p .s (.Tuple es k pos) (dTup ds) := fun Wish tk => by
  refine (pe_tupP (h Wish tk)).imp fun σ H Q ⟨W, env, G, e, A, h⟩ => ?_
  subst e
  refine ⟨W, env, G, rfl, A, h.bindL.mono ?_⟩
  rintro vs H1 ⟨W1, xs, G1, rfl, e1, A1, z1, h1⟩
  have z1 := z1.strict
  split at h1
  · refine ⟨by rw [← z1.length]; rw [sizeLine_eq]; assumption, fun p o hp hd => ?_⟩
    obtain ⟨e2, A2, r⟩ := new_tup A1 hp hd z1
    exact h1 _ _ e2.weak A2 (.inl r)
  · exact h1.elim
theorem sx_stp {k} (h : SAm kt B X p .s es ds) : SX kt B X p .s (.Tuple es k pos) (dStp ds) := fun Wish tk => by
  refine (pe_tup (h Wish tk)).imp fun σ H Q ⟨W, env, G, e, A, h⟩ => ?_
  subst e
  refine ⟨W, env, G, rfl, A, h.bindL.mono ?_⟩
  rintro vs H1 ⟨W1, xs, G1, rfl, e1, A1, z1, h1⟩
  have z1 := z1.strict
  split at h1
  · refine ⟨by rw [← z1.length]; rw [sizeLine_eq]; assumption, fun p hp => ?_⟩
    obtain ⟨e2, A2, r⟩ := new_stp A1 hp z1
    exact h1 _ _ e2.weak A2 (.inl r)
  · exact h1.elim
theorem sx_lst (h : SAm kt B X p .s es ds) : SX kt B X p .s (.List es pos) (dLst ds) := fun Wish tk => by
  refine (pe_lst (h Wish tk)).imp fun σ H Q ⟨W, env, G, e, A, h⟩ => ?_
  subst e
  refine ⟨W, env, G, rfl, A, h.bindL.mono ?_⟩
  rintro vs H1 ⟨W1, xs, G1, rfl, e1, A1, z1, h1⟩
  have z1 := z1.strict
  split at h1
  · refine ⟨by rw [← z1.length]; rw [sizeLine_eq]; assumption, fun p hp => ?_⟩
    obtain ⟨e2, A2, r⟩ := new_lst A1 hp z1
    exact h1 _ _ e2.weak A2 (.inl r)
  · exact h1.elim
end

/-! ### subscripts -/
def vIx (G : Gst) : Vl → Vl → Option Vl
  | .lst xs, .int i => atI xs i
  | .tup xs, .int i => atI xs i
  | .stp xs, .int i => atI xs i
  | .ktp xs, .int i => atI xs i
  | .scr ns, .int i => (atI ns i).map .int
  | .str z, .int i => if z.length ≤ 16777216 then (atI z.cps.toList i).map fun c => .str ⟨#[c]⟩ else none
  | .ref j, .int i => match G[j]? with
    | some (.lst xs) => atI xs i
    | _ => none
  | .dct t kvs, k => (dAt t kvs k).join
  | _, _ => none
def dIx (da db : DE) : DE := fun env G => (da env G).bind fun x G1 => (db env G1).bind fun y G2 => opt (vIx G2 x y) G2
section
variable {K : PySem.W.Frag} {W : Wd}
theorem ixN_lt {n : Nat} {i : Int} {j : Nat} (h : ixN n i = some j) : j < n := by
  unfold ixN at h
  split at h
  · split at h
    · cases h; omega
    · cases h
  · split at h
    · cases h; omega
    · cases h
theorem Reps.atI {xs : List Vl} {vs : List V} {i : Int} {x : Vl} (r : Reps K W xs vs) (h : L2.atI xs i = some x) : ∃ v, L2.atI vs i = some v ∧ Rep K W x v := by
  unfold L2.atI at h ⊢
  rw [r.length] at h
  obtain ⟨j, e, h⟩ := Option.bind_eq_some_iff.mp h
  obtain ⟨v, h1, h2⟩ := r.get h
  exact ⟨v, by rw [e]; exact h1, h2⟩
theorem atI_map {α β : Type} (f : α → β) (xs : List α) (i : Int) : L2.atI (xs.map f) i = (L2.atI xs i).map f := by
  unfold L2.atI
  rw [List.length_map]
  cases ixN xs.length i with
  | none => rfl
  | some j => simp
theorem okStr_one {z : Str} {c : Nat} {j : Nat} (h : okStr z = true) (e : z.cps.toList[j]? = some c) : okStr ⟨#[c]⟩ = true := by
  have hm : c ∈ z.cps.toList := List.mem_of_getElem? e
  have := Array.all_eq_true'.mp h c (by simpa using hm)
  simpa [okStr] using this
end
section
variable {kt : Kt} {B : Bs} {X : Cx} {p pa pb pc : Bool} {m ma mb mc : Md} {a b c e : Expr} {es : List Expr} {da db dc d : DE} {ds : DA} {t u : DT} {pos : Pos} {i : Nat}
theorem ix_dict (hu : X.A.units + 1 < cLine) : IxR X (fun x y H Q => ∃ a v, x = .ref a ∧ DGet H a y (some v) ∧ Q v H) := by
  intro value slice pins s σ H x y v u Q I rx ry h hs
  obtain ⟨a, w, rfl, g, q⟩ := h
  cases rx
  exact tail_any (dict_typeIs I g) PySem.F.slot_dict_getitem.lookup (d_getItem hu I g ry fun w' s' I' r => ⟨w, H, I', r, q⟩) (hs)
theorem vIx_r {W : Wd} {G : Gst} {σ : L2.St} {env : LEnv} {x y z : Vl} {v u : V} {Q : VK} (hK : X.K = kt.K) (A : RAll kt B W σ env G) (hx : Pk kt.K W .f x v) (hy : Pk kt.K W .f y u) (e : vIx G x y = some z) (q : ∀ w, Rep kt.K W z w → Q w W.H) :
    rIx X.K v u W.H Q ∨ (∃ a w, v = .ref a ∧ DGet W.H a u (some w) ∧ Q w W.H) := by
  rw [hK]
  cases x with
  | dct t kvs =>
    have e : (dAt t kvs y).join = some z := e
    obtain ⟨o, eo, e⟩ := Option.bind_eq_some_iff.mp (show (dAt t kvs y).bind id = some z from by cases h : dAt t kvs y <;> rw [h] at e <;> simpa using e)
    subst e
    have hy' : Rep kt.K W y u := hy.val (fun xs z => by subst z; cases t <;> cases eo) fun t' kvs' z => by subst z; cases t <;> cases eo
    obtain ⟨a, o', rfl, g, h⟩ := dAt_get hx hy' eo
    obtain ⟨w, rfl, r⟩ := h
    exact .inr ⟨a, w, rfl, g, q w r⟩
  | lst xs =>
    cases y with
    | int i =>
      obtain rfl := hy.int
      obtain ⟨a, vs, rfl, h, r⟩ := hx.lst
      obtain ⟨w, h1, h2⟩ := r.atI e
      exact .inl (.inl ⟨a, vs, i, w, rfl, rfl, SqL.of h, h1, q w h2⟩)
    | _ => cases e
  | tup xs =>
    cases y with
    | int i =>
      obtain rfl := hy.int
      obtain ⟨a, vs, rfl, h, r⟩ := hx.tup
      obtain ⟨w, h1, h2⟩ := r.atI e
      exact .inl (.inr (.inl ⟨a, vs, i, w, rfl, rfl, h, h1, q w h2⟩))
    | _ => cases e
  | stp xs =>
    cases y with
    | int i =>
      obtain rfl := hy.int
      obtain ⟨a, vs, rfl, h, r⟩ := hx.stp
      obtain ⟨w, h1, h2⟩ := r.atI e
      exact .inl (.inr (.inl ⟨a, vs, i, w, rfl, rfl, h, h1, q w h2⟩))
    | _ => cases e
  | ktp xs =>
    cases y with
    | int i =>
      obtain rfl := hy.int
      obtain ⟨a, vs, rfl, h, r⟩ := hx.ktp
      obtain ⟨w, h1, h2⟩ := r.atI e
      exact .inl (.inr (.inl ⟨a, vs, i, w, rfl, rfl, h, h1, q w h2⟩))
    | _ => cases e
  | scr ns =>
    cases y with
    | int i =>
      obtain rfl := hy.int
      obtain ⟨a, rfl, h⟩ := hx.scr
      obtain ⟨k, e1, rfl⟩ := Option.map_eq_some_iff.mp e
      exact .inl (.inl ⟨a, _, i, .int k, rfl, rfl, h, by rw [atI_map, e1]; rfl, q _ rfl⟩)
    | _ => cases e
  | str z' =>
    cases y with
    | int i =>
      obtain rfl := hy.int
      obtain ⟨rfl, ok⟩ := hx.str
      have e : (if z'.length ≤ 16777216 then (L2.atI z'.cps.toList i).map fun c => Vl.str ⟨#[c]⟩ else none) = some z := e
      split at e
      · obtain ⟨c, e1, rfl⟩ := Option.map_eq_some_iff.mp e
        obtain ⟨j, _, e2, _⟩ := atI_get e1
        exact .inl (.inr (.inr ⟨z', i, c, rfl, rfl, by rw [sizeLine_eq]; assumption, e1, q _ ⟨rfl, okStr_one ok e2⟩⟩))
      · cases e
    | _ => cases e
  | ref j =>
    cases y with
    | int i =>
      obtain rfl := hy.int
      obtain ⟨a, rfl, ha⟩ := hx.ref
      have e : (match G[j]? with | some (.lst xs) => L2.atI xs i | _ => none) = some z := e
      split at e
      · rename_i xs eg
        obtain ⟨a', h1, h2, vs, h3, r⟩ := A.ok.rg.ob j _ eg
        rw [ha] at h1; cases h1
        obtain ⟨w, h1, h2⟩ := r.atI e
        exact .inl (.inl ⟨a, vs, i, w, rfl, rfl, SqL.of h3, h1, q w h2⟩)
      · cases e
    | _ => cases e
  | _ => cases e
theorem sx_ix (hu : X.A.units + 1 < cLine) (ha : SX kt B X pa ma a da) (hb : SX kt B X pb mb b db) (hs : PlainIx b := by intro _ _; rfl) (hm : okM pb ma = true := by rfl) (hK : X.K = kt.K := by rfl) :
    SX kt B X (pa && pb) .s (.Subscript a b pos) (dIx da db) := fun Wish tk => by
  refine (pe_ix (ix_seq.or (ix_dict hu)) (ha Wish tk) (hb Wish tk) hs).imp fun σ H Q ⟨W, env, G, e, A, h⟩ => ?_
  subst e
  refine ⟨W, env, G, rfl, A, h.bindE.mono ?_⟩
  rintro v H1 ⟨W1, x, G1, rfl, e1, A1, z1, h1⟩
  refine ⟨W1, env, G1, rfl, A1, h1.bindL.mono ?_⟩
  rintro u H2 ⟨W2, y, G2, rfl, e2, A2, z2, h2⟩
  obtain ⟨z, ez, q⟩ := opsPo h2
  exact vIx_r hK A2 (z1.ext e2 (okM_or hm)).any z2.any ez fun w r => q W2 w Ext.refl A2 r
end

/-! ### slices -/
def cutL {α : Type} (xs : List α) (lo hi : Option Int) : List α := (xs.drop (HT.sIx xs.length 0 lo)).take (HT.sIx xs.length xs.length hi - HT.sIx xs.length 0 lo)
def isWhole (n : Nat) (lo hi : Option Int) : Bool := HT.sIx n 0 lo == 0 && HT.sIx n n hi == n
def vSl (G : Gst) : Vl → Option Int → Option Int → Option Vl
  | .lst xs, lo, hi => some (.lst (cutL xs lo hi))
  | .scr ns, lo, hi => some (.lst ((cutL ns lo hi).map .int))
  | .tup xs, lo, hi => some (if isWhole xs.length lo hi then .tup xs else .tup (cutL xs lo hi))
  | .stp xs, lo, hi => some (if isWhole xs.length lo hi then .stp xs else .tup (cutL xs lo hi))
  | .ktp xs, lo, hi => some (if isWhole xs.length lo hi then .ktp xs else .tup (cutL xs lo hi))
  | .str z, lo, hi => if z.length ≤ 16777216 then some (.str (cutS z lo hi)) else none
  | .ref j, lo, hi => match G[j]? with
    | some (.lst xs) => some (.lst (cutL xs lo hi))
    | _ => none
  | _, _, _ => none
abbrev DO := LEnv → Gst → R (Option Int)
def doNone : DO := fun _ G => .ok none G
def doSome (d : DE) : DO := fun env G => (d env G).bind fun x G1 => match x with
  | .int i => .ok (some i) G1
  | _ => .bad
def dSl (da : DE) (dl dh : DO) : DE := fun env G => (da env G).bind fun x G1 => (dl env G1).bind fun l G2 => (dh env G2).bind fun h G3 => opt (vSl G3 x l h) G3
def ZO : Wd → Option Int → Option Int → Prop := fun _ a b => a = b
def SO (kt : Kt) (B : Bs) (X : Cx) (p : Bool) (e : Option Expr) (d : DO) : Prop := ∀ Wish, Takes X Wish → PO X e (rdX kt B p Wish ZO d)
theorem _root_.L2.PO.imp {X : Cx} {e : Option Expr} {t t' : TO} (h : PO X e t) (i : ∀ σ H Q, t' σ H Q → t σ H Q) : PO X e t' := ⟨fun pins s σ H Q I q => h.run pins s σ H Q I (i σ H Q q)⟩
section
variable {K : PySem.W.Frag} {W : Wd}
theorem Reps.cut {xs : List Vl} {vs : List V} (r : Reps K W xs vs) (lo hi : Option Int) : Reps K W (cutL xs lo hi) (cutV vs lo hi) := by
  unfold cutL cutV
  rw [r.length]
  exact (r.drop _).take _
theorem reps_ints (ns : List Int) : Reps K W (ns.map Vl.int) (ns.map V.int) := by
  induction ns with
  | nil => rfl
  | cons n ns ih => exact ⟨_, _, rfl, rfl, ih⟩
theorem cut_ints (ns : List Int) (lo hi : Option Int) : cutV (ns.map V.int) lo hi = (cutL ns lo hi).map V.int := by
  unfold cutL cutV
  rw [List.length_map, List.map_take, List.map_drop]
theorem okStr_cut {z : Str} (lo hi : Option Int) (h : okStr z = true) : okStr (cutS z lo hi) = true := by
  unfold okStr cutS at *
  rw [List.all_toArray, List.all_eq_true]
  intro c hc
  have hc := List.mem_of_mem_drop (List.mem_of_mem_take hc)
  have := Array.all_eq_true'.mp h c (by simpa using hc)
  exact this
end
section
variable {kt : Kt} {B : Bs} {X : Cx} {p pa pb pc : Bool} {m ma mb mc : Md} {a b c e : Expr} {es : List Expr} {da db dc d : DE} {ds : DA} {t u : DT} {pos : Pos} {i : Nat} {dl dh : DO} {lo hi : Option Expr}
theorem so_none : SO kt B X true none doNone := fun Wish _ => po_none.imp fun σ H Q ⟨W, env, G, e, A, h⟩ => by
  subst e; exact h W _ Ext.refl A rfl
theorem so_some (ha : SX kt B X p m a da) : SO kt B X p (some a) (doSome da) := fun Wish tk => by
  refine (po_some (ha Wish tk)).imp fun σ H Q ⟨W, env, G, e, A, h⟩ => ?_
  subst e
  refine ⟨W, env, G, rfl, A, h.bindL.mono ?_⟩
  rintro v H1 ⟨W1, x, G1, rfl, e1, A1, z1, h1⟩
  cases x with
  | int i => exact ⟨i, z1.int, h1 W1 _ Ext.refl A1 rfl⟩
  | _ => exact h1.elim
theorem vSl_r {W : Wd} {G : Gst} {σ : L2.St} {env : LEnv} {x z : Vl} {v : V} {lo hi : Option Int} {Q : VK} (hK : X.K = kt.K) (A : RAll kt B W σ env G) (hx : Pk kt.K W .f x v) (e : vSl G x lo hi = some z)
    (q : ∀ W' w, Ext true W W' → RAll kt B W' σ env G → Rep kt.K W' z w → Q w W'.H) : rSlL X.K v lo hi W.H Q ∨ rSlP X.K v lo hi W.H Q ∨ rSlS v lo hi W.H Q := by
  rw [hK]
  have tp : ∀ {xs : List Vl} {vs : List V} {a : Addr} {y : Vl}, v = .ref a → SqT kt.K W.H a vs → Reps kt.K W xs vs → Rep kt.K W y v → some (if isWhole xs.length lo hi then y else .tup (cutL xs lo hi)) = some z → rSlP kt.K v lo hi W.H Q := by
    intro xs vs a y ev h r ry e
    subst ev
    have lw : (isWhole xs.length lo hi = true) ↔ (HT.sIx vs.length 0 lo = 0 ∧ HT.sIx vs.length vs.length hi = vs.length) := by
      unfold isWhole; rw [r.length]; simp
    refine ⟨a, vs, rfl, h, fun w => ?_, fun w p o hp hd => ?_⟩
    · rw [if_pos (lw.mpr w)] at e
      cases e
      exact q W _ Ext.refl A ry
    · rw [if_neg (fun k => w (lw.mp k))] at e
      cases e
      obtain ⟨e2, A2, r2⟩ := new_tup A hp hd (r.cut lo hi)
      exact q _ _ e2 A2 r2
  cases x with
  | lst xs =>
    cases e
    obtain ⟨a, vs, rfl, h, r⟩ := hx.lst
    refine .inl ⟨a, vs, rfl, SqL.of h, fun p hp => ?_⟩
    obtain ⟨e2, A2, r2⟩ := new_lst A hp (r.cut lo hi)
    exact q _ _ e2 A2 r2
  | scr ns =>
    cases e
    obtain ⟨a, rfl, h⟩ := hx.scr
    refine .inl ⟨a, _, rfl, h, fun p hp => ?_⟩
    obtain ⟨e2, A2, r2⟩ := new_lst A hp (reps_ints (K := kt.K) (W := W) (cutL ns lo hi))
    rw [cut_ints]
    exact q _ _ e2 A2 r2
  | tup xs =>
    obtain ⟨a, vs, ev, h, r⟩ := hx.tup
    exact .inr (.inl (tp ev h r (hx.val (fun _ z => nomatch z) fun _ _ z => nomatch z) e))
  | stp xs =>
    obtain ⟨a, vs, ev, h, r⟩ := hx.stp
    exact .inr (.inl (tp ev h r (hx.val (fun _ z => nomatch z) fun _ _ z => nomatch z) e))
  | ktp xs =>
    obtain ⟨a, vs, ev, h, r⟩ := hx.ktp
    exact .inr (.inl (tp ev h r (hx.val (fun _ z => nomatch z) fun _ _ z => nomatch z) e))
  | str z' =>
    have e : (if z'.length ≤ 16777216 then some (Vl.str (cutS z' lo hi)) else none) = some z := e
    obtain ⟨rfl, ok⟩ := hx.str
    split at e
    · cases e
      exact .inr (.inr ⟨z', rfl, by rw [sizeLine_eq]; assumption, q W _ Ext.refl A ⟨rfl, okStr_cut lo hi ok⟩⟩)
    · cases e
  | ref j =>
    obtain ⟨a, rfl, ha⟩ := hx.ref
    have e : (match G[j]? with | some (.lst xs) => some (Vl.lst (cutL xs lo hi)) | _ => none) = some z := e
    split at e
    · rename_i xs eg
      cases e
      obtain ⟨a', h1, h2, vs, h3, r⟩ := A.ok.rg.ob j _ eg
      rw [ha] at h1; cases h1
      refine .inl ⟨a, vs, rfl, SqL.of h3, fun p hp => ?_⟩
      obtain ⟨e2, A2, r2⟩ := new_lst A hp (r.cut lo hi)
      exact q _ _ e2 A2 r2
    · cases e
  | _ => cases e
theorem sx_sl {p2 : Pos} (ha : SX kt B X pa ma a da) (hl : SO kt B X pb lo dl) (hh : SO kt B X pc hi dh) (hm : okM (pb && pc) ma = true := by rfl) (hK : X.K = kt.K := by rfl) :
    SX kt B X (pa && (pb && pc)) .s (.Subscript a (.Slice lo hi none p2) pos) (dSl da dl dh) := fun Wish tk => by
  refine (pe_slice (sl_list.or (sl_tupP.or sl_str)) (ha Wish tk) (hl Wish tk) (hh Wish tk)).imp fun σ H Q ⟨W, env, G, e, A, h⟩ => ?_
  subst e
  refine ⟨W, env, G, rfl, A, h.bindE.mono ?_⟩
  rintro v H1 ⟨W1, x, G1, rfl, e1, A1, z1, h1⟩
  refine ⟨W1, env, G1, rfl, A1, h1.bindE.mono ?_⟩
  rintro l H2 ⟨W2, l', G2, rfl, e2, A2, z2, h2⟩
  obtain rfl : l' = l := z2
  refine ⟨W2, env, G2, rfl, A2, h2.bindL.mono ?_⟩
  rintro r H3 ⟨W3, r', G3, rfl, e3, A3, z3, h3⟩
  obtain rfl : r' = r := z3
  obtain ⟨z, ez, q⟩ := opsPo h3
  exact vSl_r hK A3 (z1.ext (e2.trans e3) (okM_or hm)).any ez q
end

/-! ### calls of what is built in -/
def FnS (kt : Kt) (X : Cx) (f : Value) (o : Gst → List Vl → Option Vl) : Prop :=
  ∃ r : List V → Hp → VK → Prop, CallR X f r ∧ ∀ (B : Bs) (σ : L2.St) (env : LEnv) (G : Gst) (W : Wd) (xs : List Vl) (vs : List V) (z : Vl) (Q : VK), RAll kt B W σ env G → PkS kt.K W .f xs vs → o G xs = some z →
    (∀ W' w, Ext true W W' → RAll kt B W' σ env G → Rep kt.K W' z w → Q w W'.H) → r vs W.H Q
def dFn (o : Gst → List Vl → Option Vl) (ds : DA) : DE := fun env G => (ds env G).bind fun xs G1 => opt (o G1 xs) G1
section
variable {kt : Kt} {B : Bs} {X : Cx} {p pa pb pc : Bool} {m ma mb mc : Md} {a b c e : Expr} {es : List Expr} {da db dc d : DE} {ds : DA} {t u : DT} {pos np : Pos} {i : Nat} {x : Str} {id T : String} {o : Gst → List Vl → Option Vl}
theorem sx_fn (ho : FnS kt X (.builtin id) o) (ha : SAm kt B X p m (e :: es) ds) (hg : Gl X x := by rfl) (hm : X.mg x = none := by rfl) (hv : bootBuiltins x = some (.builtin id) := by kernel_rfl) (hn : x ≠ "__name__" := by decide) (hdb : (x == ("__debug__" : Str)) = false := by decide)
    (he : starEach (e :: es) X.env = (false, eval e X.env) :: starEach es X.env := by rfl) (hpl : (backTo pos (starEach es X.env)).any (·.1) = false := by rfl) : SX kt B X p .s (.Call (.Name x np) (e :: es) [] pos) (dFn o ds) := fun Wish tk => by
  obtain ⟨r, hr, hs⟩ := ho
  refine (pe_callB hr hg hm hv (ha Wish tk) hn hdb he hpl).imp fun σ H Q ⟨W, env, G, e, A, h⟩ => ?_
  subst e
  refine ⟨W, env, G, rfl, A, h.bindL.mono ?_⟩
  rintro vs H1 ⟨W1, xs, G1, rfl, e1, A1, z1, h1⟩
  obtain ⟨z, ez, q⟩ := opsPo h1
  exact hs B σ env G1 W1 xs vs z Q A1 z1.any ez q
theorem sx_ty (ho : FnS kt X (.type T) o) (ha : SAm kt B X p m (e :: es) ds) (hg : Gl X x := by rfl) (hm : X.mg x = none := by rfl) (hv : bootBuiltins x = some (.type T) := by kernel_rfl) (hn : x ≠ "__name__" := by decide) (hdb : (x == ("__debug__" : Str)) = false := by decide)
    (he : starEach (e :: es) X.env = (false, eval e X.env) :: starEach es X.env := by rfl) (hpl : (backTo pos (starEach es X.env)).any (·.1) = false := by rfl) : SX kt B X p .s (.Call (.Name x np) (e :: es) [] pos) (dFn o ds) := fun Wish tk => by
  obtain ⟨r, hr, hs⟩ := ho
  refine (pe_callTy hr hg hm hv (ha Wish tk) hn hdb he hpl).imp fun σ H Q ⟨W, env, G, e, A, h⟩ => ?_
  subst e
  refine ⟨W, env, G, rfl, A, h.bindL.mono ?_⟩
  rintro vs H1 ⟨W1, xs, G1, rfl, e1, A1, z1, h1⟩
  obtain ⟨z, ez, q⟩ := opsPo h1
  exact hs B σ env G1 W1 xs vs z Q A1 z1.any ez q
end
/-- the items of what may be read as a list, a tuple -/
def seqOf (G : Gst) : Vl → Option (Bool × List Vl)
  | .lst xs => some (false, xs)
  | .tup xs => some (true, xs)
  | .stp xs => some (true, xs)
  | .ktp xs => some (true, xs)
  | .scr ns => some (false, ns.map .int)
  | .ref j => match G[j]? with
    | some (.lst xs) => some (false, xs)
    | _ => none
  | _ => none
section
variable {kt : Kt} {B : Bs} {X : Cx}
theorem seqOf_r {W : Wd} {G : Gst} {σ : L2.St} {env : LEnv} {x : Vl} {v : V} {k : Bool} {ys : List Vl} (A : RAll kt B W σ env G) (hx : Pk kt.K W .f x v) (e : seqOf G x = some (k, ys)) :
    ∃ a vs, v = .ref a ∧ Reps kt.K W ys vs ∧ (if k then SqT kt.K W.H a vs else SqL kt.K W.H a vs) := by
  cases x with
  | lst xs => cases e; obtain ⟨a, vs, rfl, h, r⟩ := hx.lst; exact ⟨a, vs, rfl, r, SqL.of h⟩
  | tup xs => cases e; obtain ⟨a, vs, rfl, h, r⟩ := hx.tup; exact ⟨a, vs, rfl, r, h⟩
  | stp xs => cases e; obtain ⟨a, vs, rfl, h, r⟩ := hx.stp; exact ⟨a, vs, rfl, r, h⟩
  | ktp xs => cases e; obtain ⟨a, vs, rfl, h, r⟩ := hx.ktp; exact ⟨a, vs, rfl, r, h⟩
  | scr ns => cases e; obtain ⟨a, rfl, h⟩ := hx.scr; exact ⟨a, _, rfl, reps_ints ns, h⟩
  | ref j =>
    obtain ⟨a, rfl, ha⟩ := hx.ref
    have e : (match G[j]? with | some (.lst xs) => some (false, xs) | _ => none) = some (k, ys) := e
    split at e
    · rename_i xs eg
      cases e
      obtain ⟨a', h1, h2, vs, h3, r⟩ := A.ok.rg.ob j _ eg
      rw [ha] at h1; cases h1
      exact ⟨a, vs, rfl, r, SqL.of h3⟩
    · cases e
  | _ => cases e
theorem seqOf_LT {W : Wd} {G : Gst} {σ : L2.St} {env : LEnv} {x : Vl} {v : V} {k : Bool} {ys : List Vl} (A : RAll kt B W σ env G) (hx : Pk kt.K W .f x v) (e : seqOf G x = some (k, ys)) :
    ∃ a vs, v = .ref a ∧ Reps kt.K W ys vs ∧ (SqL kt.K W.H a vs ∨ SqT kt.K W.H a vs) := by
  obtain ⟨a, vs, e1, r, h⟩ := seqOf_r A hx e
  cases k with
  | true => exact ⟨a, vs, e1, r, .inr h⟩
  | false => exact ⟨a, vs, e1, r, .inl h⟩
def oLen (G : Gst) : List Vl → Option Vl
  | [.str z] => if z.length ≤ 16777216 then some (.int z.length) else none
  | [.dct false kvs] => some (.int kvs.length)
  | [x] => (seqOf G x).map fun k => .int k.2.length
  | _ => none
theorem RepK.length {K : PySem.W.Frag} {W : Wd} : ∀ {kvs : List (Vl × Vl)} {ks : List (Key × V)}, RepK K W kvs ks → kvs.length = ks.length
  | [], _, h => by cases h; rfl
  | (k, x) :: kvs, _, h => by
    obtain ⟨q, v, r, rfl, _, _, h3⟩ := h
    simp [RepK.length h3]
theorem call_lenDR : CallR X (.builtin "len") (fun xs H Q => ∃ a kvs, xs = [V.ref a] ∧ Rd H a (.dK kvs) ∧ Q (.int kvs.length) H) := by
  intro pins s σ H xs us Q I r h
  obtain ⟨a, kvs, rfl, g, q⟩ := h
  obtain ⟨u, rfl, rx⟩ := vals1 r
  cases rx
  exact d_len I g fun t s' I' => ⟨.int kvs.length, H, I', ⟨t, rfl⟩, q⟩
theorem fn_len (hK : X.K = kt.K := by rfl) : FnS kt X (.builtin "len") oLen := by
  refine ⟨_, call_len_str.or (call_lenDR.or call_len_seq), fun B σ env G W xs vs z Q A hx e q => ?_⟩
  unfold oLen at e
  split at e
  · obtain ⟨v, rfl, h⟩ := hx.one
    split at e
    · cases e
      obtain ⟨rfl, _⟩ := h.str
      exact .inl ⟨_, rfl, by rw [sizeLine_eq]; assumption, q W _ Ext.refl A rfl⟩
    · cases e
  · cases e
    obtain ⟨v, rfl, h⟩ := hx.one
    obtain ⟨a, ks, rfl, g, r⟩ := h.dK
    exact .inr (.inl ⟨a, ks, rfl, g, by rw [← r.length]; exact q W _ Ext.refl A rfl⟩)
  · obtain ⟨v, rfl, h⟩ := hx.one
    obtain ⟨⟨k, ys⟩, e1, rfl⟩ := Option.map_eq_some_iff.mp e
    obtain ⟨a, vs, rfl, r, g⟩ := seqOf_LT A h e1
    rw [hK]
    exact .inr (.inr ⟨a, vs, rfl, g, by rw [← r.length]; exact q W _ Ext.refl A rfl⟩)
  · cases e
def oInt (_ : Gst) : List Vl → Option Vl
  | [.int i] => some (.int i)
  | [.bl k] => some (.int (if k then 1 else 0))
  | _ => none
theorem fn_int : FnS kt X (.type "int") oInt := by
  refine ⟨_, call_int1, fun B σ env G W xs vs z Q A hx e q => ?_⟩
  unfold oInt at e
  split at e
  · cases e
    obtain ⟨v, rfl, h⟩ := hx.one
    obtain rfl := h.int
    exact .inl ⟨_, rfl, q W _ Ext.refl A rfl⟩
  · cases e
    obtain ⟨v, rfl, h⟩ := hx.one
    obtain rfl := h.bl
    exact .inr ⟨_, rfl, q W _ Ext.refl A rfl⟩
  · cases e
def oAbs (_ : Gst) : List Vl → Option Vl
  | [.int i] => some (.int (if i < 0 then -i else i))
  | _ => none
theorem fn_abs : FnS kt X (.builtin "abs") oAbs := by
  refine ⟨_, call_abs, fun B σ env G W xs vs z Q A hx e q => ?_⟩
  unfold oAbs at e
  split at e
  · cases e
    obtain ⟨v, rfl, h⟩ := hx.one
    obtain rfl := h.int
    exact ⟨_, rfl, q W _ Ext.refl A rfl⟩
  · cases e
def oTuple (G : Gst) : List Vl → Option Vl
  | [x] => match seqOf G x with
    | some (false, ys) => some (.tup ys)
    | some (true, _) => some x
    | none => none
  | _ => none
theorem fn_tuple (hK : X.K = kt.K := by rfl) : FnS kt X (.type "tuple") oTuple := by
  refine ⟨_, call_tupleP, fun B σ env G W xs vs z Q A hx e q => ?_⟩
  unfold oTuple at e
  split at e
  · rename_i x
    obtain ⟨v, rfl, h⟩ := hx.one
    rw [hK]
    split at e
    · rename_i ys e1
      cases e
      obtain ⟨a, vs, rfl, r, g⟩ := seqOf_r A h e1
      refine ⟨a, vs, rfl, .inl ⟨g, fun l o hl hd => ?_⟩⟩
      obtain ⟨e2, A2, r2⟩ := new_tup A hl hd r
      exact q _ _ e2 A2 r2
    · rename_i ys e1
      cases e
      obtain ⟨a, vs, ev, r, g⟩ := seqOf_r A h e1
      subst ev
      refine ⟨a, vs, rfl, .inr ⟨g, q W _ Ext.refl A ?_⟩⟩
      exact h.val (fun xs z => by subst z; cases e1) fun t kvs z => by subst z; cases e1
    · cases e
  · cases e
/-- list(x) of a list, a tuple; of a text, its signs -/
def oList (G : Gst) : List Vl → Option Vl
  | [x] => (seqOf G x).map fun k => .lst k.2
  | _ => none
theorem fn_list (hK : X.K = kt.K := by rfl) : FnS kt X (.type "list") oList := by
  refine ⟨_, call_list_of, fun B σ env G W xs vs z Q A hx e q => ?_⟩
  unfold oList at e
  split at e
  · rename_i x
    obtain ⟨v, rfl, h⟩ := hx.one
    obtain ⟨⟨k, ys⟩, e1, rfl⟩ := Option.map_eq_some_iff.mp e
    obtain ⟨a, vs, rfl, r, g⟩ := seqOf_LT A h e1
    rw [hK]
    refine ⟨a, vs, rfl, g, fun l hl => ?_⟩
    obtain ⟨e2, A2, r2⟩ := new_lst A hl r
    exact q _ _ e2 A2 r2
  · cases e
def oMax2 (_ : Gst) : List Vl → Option Vl
  | [.int i, .int j] => some (.int (if j > i then j else i))
  | _ => none
def oMin2 (_ : Gst) : List Vl → Option Vl
  | [.int i, .int j] => some (.int (if j < i then j else i))
  | _ => none
theorem fn_max2 (hc : X.calm = true) : FnS kt X (.builtin "max") oMax2 := by
  refine ⟨_, call_max2 hc, fun B σ env G W xs vs z Q A hx e q => ?_⟩
  unfold oMax2 at e
  split at e
  · cases e
    obtain ⟨v, u, rfl, h, h'⟩ := hx.two
    obtain rfl := h.int; obtain rfl := h'.int
    exact ⟨_, _, rfl, q W _ Ext.refl A rfl⟩
  · cases e
theorem fn_min2 (hc : X.calm = true) : FnS kt X (.builtin "min") oMin2 := by
  refine ⟨_, call_min2 hc, fun B σ env G W xs vs z Q A hx e q => ?_⟩
  unfold oMin2 at e
  split at e
  · cases e
    obtain ⟨v, u, rfl, h, h'⟩ := hx.two
    obtain rfl := h.int; obtain rfl := h'.int
    exact ⟨_, _, rfl, q W _ Ext.refl A rfl⟩
  · cases e
/-- sorted(xs) of ints -/
def intsOf : List Vl → Option (List Int)
  | [] => some []
  | .int i :: xs => (intsOf xs).map (i :: ·)
  | _ => none
theorem intsOf_eq : ∀ {xs : List Vl} {ns : List Int}, intsOf xs = some ns → xs = ns.map Vl.int
  | [], _, h => by cases h; rfl
  | .int i :: xs, _, h => by
    obtain ⟨ms, e, rfl⟩ := Option.map_eq_some_iff.mp h
    rw [intsOf_eq e]; rfl
theorem ints_reps {K : PySem.W.Frag} {W : Wd} : ∀ {ns : List Int} {vs : List V}, Reps K W (ns.map Vl.int) vs → vs = ns.map V.int
  | [], _, h => h
  | n :: ns, _, h => by
    obtain ⟨v, r, rfl, h1, h2⟩ := h
    rw [ints_reps h2, show v = .int n from h1]; rfl
end
end CardH
end
section
set_option maxHeartbeats 2000000
namespace CardH
open PySem PySem.Spec PyProof.Rows L2

/-! ### a list that is being made -/
def Wd.put (W : Wd) (D : Addr) (o : HO) (r : Role) : Wd := ⟨fun a => if a = D then r else W.Γ a, W.ρ, upd W.H D o⟩
section
variable {kt : Kt} {B : Bs} {W W0 : Wd} {σ : L2.St} {env : LEnv} {G : Gst} {D : Addr} {xs ys : List V} {r : Role} {p : Bool}
def isTmp : Role → Bool
  | .tmp => true
  | _ => false
theorem ExtR.put (hT : W.Γ D = .tmp) (hD : W.H D = some (.lst xs)) : ExtR p isTmp W (W.put D (.lst ys) r) where
  role := fun a _ ht => if_neg (fun e => by rw [e, hT] at ht; cases ht)
  keep := fun a o h _ ht _ => (upd_ne (fun e => by rw [e, hT] at ht; cases ht)).trans h
  tups := fun a zs h => (upd_ne (fun e => by rw [e, hD] at h; cases h)).trans h
  there := fun a h => by
    show upd W.H D _ a ≠ none
    by_cases e : a = D
    · rw [e, upd_same]; simp
    · rw [upd_ne e]; exact h
  pre := ⟨[], by simp [Wd.put]⟩
theorem Ext.put (e : Ext p W0 W) (h0 : W0.H D = none) (hD : W.H D = some (.lst xs)) : Ext p W0 (W.put D (.lst ys) r) where
  role := fun a h => (if_neg (fun z => h (by rw [z]; exact h0))).trans (e.role a h)
  keep := fun a o h nt hp => (upd_ne (ne_of_none h h0)).trans (e.keep a o h nt hp)
  tups := fun a zs h => (upd_ne (ne_of_none h h0)).trans (e.tups a zs h)
  there := fun a h => by
    show upd W.H D _ a ≠ none
    rw [upd_ne (fun z => h (by rw [z]; exact h0))]; exact e.there a h
  pre := e.pre
theorem tabs_but {T : List NdefX.NTab} {H H' : Hp} (t : NdefX.TabsN T H) (h : ∀ b u, H b = some u → ((∃ ps, u = .tbl ps) ∨ ∃ f, u = .ext f) → H' b = some u) : NdefX.TabsN T H' := fun p hp => by
  obtain ⟨ps, h1, h2, h3⟩ := t p hp
  refine ⟨ps, h _ _ h1 (.inl ⟨ps, rfl⟩), h2, fun pos cv hc => ?_⟩
  obtain ⟨c, e1, e2⟩ := h3 pos cv hc
  exact ⟨c, e1, h _ _ e2 (.inr ⟨_, rfl⟩)⟩
theorem RAll.put (A : RAll kt B W σ env G) (hT : W.Γ D = .tmp) (hD : W.H D = some (.lst xs)) (h0 : B.W0.H D = none) : RAll kt B (W.put D (.lst ys) r) σ env G := by
  have e : ExtR true isTmp W (W.put D (.lst ys) r) := ExtR.put hT hD
  refine ⟨⟨fun a ha => ?_, A.ok.rg.extR e rfl rfl (fun _ => rfl) (fun _ _ => rfl) rfl, ?_, fun b ps q => ?_⟩, A.re.extR e rfl rfl (fun _ => rfl), A.si.put h0 hD, fun z a u o q => ?_⟩
  · show upd W.H D _ a ≠ none
    by_cases z : a = D
    · rw [z, upd_same]; simp
    · rw [upd_ne z]
      refine A.ok.tr a fun k => ha ?_
      show (if a = D then r else W.Γ a) = .no
      rw [if_neg z]; exact k
  · refine tabs_but A.ok.tabs fun b u q k => (upd_ne (fun z => ?_)).trans q
    rw [z, hD] at q; cases q
    rcases k with ⟨_, k⟩ | ⟨_, k⟩ <;> cases k
  · have q : upd W.H D (.lst ys) b = some (.tbl ps) := q
    by_cases z : b = D
    · rw [z, upd_same] at q; cases q
    · rw [upd_ne z] at q; exact A.ok.tb b ps q
  · have q : upd W.H D (.lst ys) a = some (.frz u o) := q
    by_cases k : a = D
    · rw [k, upd_same] at q; cases q
    · rw [upd_ne k] at q
      have g : (W.put D (.lst ys) r).Γ a = W.Γ a := if_neg k
      rw [g]
      exact A.nl z a u o q
theorem RAll.fresh (A : RAll kt B W σ env G) (h : W.H D = none) : B.W0.H D = none := by
  cases e : B.W0.H D with
  | none => rfl
  | some o => exact absurd h (A.si.there D (by rw [e]; simp))
/-! slots -/
theorem RE.set {H0 : Hp} (h : RE kt H0 W σ env) {i : Nat} {fv : Fv} {v : V} (hv : FvRep kt.K W (.slot i) fv v) (hf : fv.own = true → ∀ a, v = .ref a → H0 a = none) : RE kt H0 W (σ.set i (some v)) (env.set i (some fv)) := by
  refine ⟨by simp [h.len], fun j g hj => ?_⟩
  by_cases e : i = j
  · subst e
    by_cases hi : i < env.length
    · rw [List.getElem?_set_self hi] at hj
      cases hj
      exact ⟨v, by rw [List.getElem?_set_self (by rw [← h.len]; exact hi)], hv, hf⟩
    · rw [List.getElem?_eq_none (by simpa using hi)] at hj; cases hj
  · rw [List.getElem?_set_ne e] at hj ⊢
    exact h.sl j g hj
theorem RAll.set (A : RAll kt B W σ env G) {i : Nat} {x : Vl} {v : V} (hv : Rep kt.K W x v) : RAll kt B W (σ.set i (some v)) (env.set i (some (.val x))) G :=
  ⟨A.ok, A.re.set (fv := .val x) hv (fun z => nomatch z), A.si, A.nl⟩
def wipeE (env : LEnv) : List Nat → LEnv
  | [] => env
  | v :: vs => (wipeE env vs).set v none
theorem RE.wipe {H0 : Hp} (h : RE kt H0 W σ env) : ∀ vs, RE kt H0 W (L2.wipe σ vs) (wipeE env vs)
  | [] => h
  | v :: vs => by
    have ih := RE.wipe h vs
    refine ⟨by simp [wipeE, L2.wipe, ih.len], fun j g hj => ?_⟩
    unfold wipeE at hj
    unfold L2.wipe
    by_cases e : v = j
    · subst e
      by_cases hi : v < (wipeE env vs).length
      · rw [List.getElem?_set_self hi] at hj; cases hj
      · rw [List.getElem?_eq_none (by simpa using hi)] at hj; cases hj
    · rw [List.getElem?_set_ne e] at hj ⊢
      exact ih.sl j g hj
theorem RAll.wipe (A : RAll kt B W σ env G) (vs : List Nat) : RAll kt B W (L2.wipe σ vs) (wipeE env vs) G := ⟨A.ok, A.re.wipe vs, A.si, A.nl⟩
end

/-! ### targets -/
abbrev DG := LEnv → Vl → Option LEnv
def rdG (kt : Kt) (B : Bs) (sl : List Nat) (g : DG) : TG := fun v σ H Q => ∃ W env G x e', W.H = H ∧ RAll kt B W σ env G ∧ Rep kt.K W x v ∧ g env x = some e' ∧
  ∀ σ', (∀ W' G', Ext false W W' → RAll kt B W' σ env G' → RAll kt B W' σ' e' G') → (∀ vs, (∀ i, i ∈ sl → i ∈ vs) → wipe σ' vs = wipe σ vs) → Q σ' H
def SG (kt : Kt) (B : Bs) (X : Cx) (sl : List Nat) (tg : Expr) (g : DG) : Prop := PG X tg (rdG kt B sl g)
theorem _root_.L2.PG.imp {X : Cx} {e : Expr} {t t' : TG} (h : PG X e t) (i : ∀ v σ H Q, t' v σ H Q → t v σ H Q) : PG X e t' := ⟨fun pins s σ H v u Q I r q => h.run pins s σ H v u Q I r (i v σ H Q q)⟩
theorem _root_.L2.PGs.imp {X : Cx} {e : List Expr} {t t' : TGs} (h : PGs X e t) (i : ∀ v σ H Q, t' v σ H Q → t v σ H Q) : PGs X e t' := ⟨fun pins s σ H v u Q I r q => h.run pins s σ H v u Q I r (i v σ H Q q)⟩
theorem wipe_set_mem {σ : L2.St} {i : Nat} {v : Option V} : ∀ {vs : List Nat}, i ∈ vs → wipe (σ.set i v) vs = wipe σ vs := by
  have step : ∀ {σ : L2.St} {j : Nat} {vs : List Nat}, j ∉ vs → wipe (σ.set j v) vs = (wipe σ vs).set j v := by
    intro σ j vs
    induction vs with
    | nil => intro _; rfl
    | cons k vs ih =>
      intro h
      simp only [List.mem_cons, not_or] at h
      show (wipe (σ.set j v) vs).set k none = ((wipe σ vs).set k none).set j v
      rw [ih h.2, List.set_comm _ _ h.1]
  intro vs
  induction vs with
  | nil => intro h; cases h
  | cons k vs ih =>
    intro h
    show (wipe (σ.set i v) vs).set k none = (wipe σ vs).set k none
    by_cases hm : i ∈ vs
    · rw [ih hm]
    · rw [step hm]
      rcases List.mem_cons.mp h with e | e
      · subst e; rw [List.set_set]
      · exact absurd e hm
def gSet (i : Nat) : DG := fun env x => some (env.set i (some (.val x)))
def itemsOf : Vl → Option (List Vl)
  | .tup xs => some xs
  | .stp xs => some xs
  | .ktp xs => some xs
  | _ => none
abbrev DGs := LEnv → List Vl → Option LEnv
def gsNil : DGs := fun env xs => match xs with
  | [] => some env
  | _ => none
def gsCons (g : DG) (gs : DGs) : DGs := fun env xs => match xs with
  | x :: r => (g env x).bind fun e => gs e r
  | [] => none
def gUn (n : Nat) (gs : DGs) : DG := fun env x => match itemsOf x with
  | some xs => if xs.length = n then gs env xs else none
  | none => none
def rdGs (kt : Kt) (B : Bs) (sl : List Nat) (g : DGs) : TGs := fun vs σ H Q => ∃ W env G xs e', W.H = H ∧ RAll kt B W σ env G ∧ Reps kt.K W xs vs ∧ g env xs = some e' ∧
  ∀ σ', (∀ W' G', Ext false W W' → RAll kt B W' σ env G' → RAll kt B W' σ' e' G') → (∀ vs, (∀ i, i ∈ sl → i ∈ vs) → wipe σ' vs = wipe σ vs) → Q σ' H
def SGs (kt : Kt) (B : Bs) (X : Cx) (sl : List Nat) (tg : List Expr) (g : DGs) : Prop := PGs X tg (rdGs kt B sl g)
section
variable {kt : Kt} {B : Bs} {X : Cx} {pos : Pos}
theorem sg_name (i : Nat) {x : Str} (hN : X.N.Nodup) (hi : X.N[i]? = some x := by rfl) (hx : Loc X.env.scope x := by first | exact Or.inl rfl | exact Or.inr rfl) (hf : X.fn x = true ∨ X.env.scope.names.lookup x = some .local := by first | exact .inl rfl | exact .inr rfl) :
    SG kt B X [i] (.Name x pos) (gSet i) := (pg_name hN hi hx hf).imp fun v σ H Q ⟨W, env, G, x, e', eh, A, r, eg, q⟩ => by
  cases eg
  exact q _ (fun W' G' e A' => A'.set (r.ext e)) fun vs h => wipe_set_mem (h i (by simp))
theorem sgs_nil : SGs kt B X [] [] gsNil := pgs_nil.imp fun v σ H Q ⟨W, env, G, xs, e', eh, A, r, eg, q⟩ => by
  cases xs with
  | nil => cases r; cases eg; exact ⟨rfl, q σ (fun W' G' _ a => a) fun _ _ => rfl⟩
  | cons x xs => cases eg
theorem sgs_cons {e : Expr} {es : List Expr} {g : DG} {gs : DGs} {s1 s2 : List Nat} (h1 : SG kt B X s1 e g) (h2 : SGs kt B X s2 es gs) (hs : (assignEach (e :: es) X.env).map (·.2) = assign e X.env :: (assignEach es X.env).map (·.2) := by rfl) :
    SGs kt B X (s1 ++ s2) (e :: es) (gsCons g gs) := (pgs_cons h1 h2 hs).imp fun v σ H Q ⟨W, env, G, xs, e', eh, A, r, eg, q⟩ => by
  cases xs with
  | nil => cases eg
  | cons x xs =>
    obtain ⟨v0, vr, rfl, r1, r2⟩ := r
    obtain ⟨e1, eg1, eg2⟩ := Option.bind_eq_some_iff.mp eg
    refine ⟨v0, vr, rfl, W, env, G, x, e1, eh, A, r1, eg1, fun σ1 h1 w1 => ⟨W, e1, G, xs, e', eh, h1 W G Ext.refl A, r2, eg2, fun σ2 h2 w2 => ?_⟩⟩
    refine q σ2 (fun W' G' ee a => h2 W' G' ee (h1 W' G' ee a)) fun vs hm => ?_
    rw [w2 vs fun i hi => hm i (List.mem_append_right _ hi), w1 vs fun i hi => hm i (List.mem_append_left _ hi)]
theorem sg_tup {es : List Expr} {k : Nat} {gs : DGs} {n : Nat} {sl : List Nat} (hc : X.calm = true) (h : SGs kt B X sl es gs) (hn : (assignEach es X.env).length = n := by rfl) (hst : (assignEach es X.env).findIdx? (·.1) = none := by rfl) (hK : X.K = kt.K := by rfl) :
    SG kt B X sl (.Tuple es k pos) (gUn n gs) := (pg_tup hc h hn hst).imp fun v σ H Q ⟨W, env, G, x, e', eh, A, r, eg, q⟩ => by
  unfold gUn at eg
  split at eg
  · rename_i xs ex
    split at eg
    · rename_i hl
      have pk : Pk kt.K W .s x v := .inl r
      have : ∃ a vs, v = .ref a ∧ SqT kt.K W.H a vs ∧ Reps kt.K W xs vs := by
        cases x with
        | tup ys => cases ex; exact pk.tup
        | stp ys => cases ex; exact pk.stp
        | ktp ys => cases ex; exact pk.ktp
        | _ => cases ex
      obtain ⟨a, vs, rfl, h1, h2⟩ := this
      rw [hK]
      exact ⟨a, vs, rfl, by rw [← eh]; exact h1, by rw [← h2.length]; exact hl, W, env, G, xs, e', eh, A, h2, eg, q⟩
    · cases eg
  · cases eg
end

/-! ### what is walked -/
structure Yl (kt : Kt) (W' : Wd) (xs : List Vl) (Gd : Hp → Prop) (Y : Nat → Hp → V → Hp → Prop) : Prop where
  gd : ∀ W'', ExtS W' W'' → Gd W''.H
  yl : ∀ i H x H', i < xs.length → Y i H x H' → ∀ W'', ExtS W' W'' → W''.H = H → ∃ y, xs[i]? = some y ∧ ((H' = H ∧ Rep kt.K W'' y x) ∨ (∃ T vs, x = .ref T ∧ H T = none ∧ H' = upd H T (.tup vs) ∧ Rep kt.K (W''.alloc T (.tup vs) .no) y x))
abbrev DI := LEnv → Gst → R (List Vl)
def SI (kt : Kt) (B : Bs) (X : Cx) (p : Bool) (tg iter : Expr) (d : DI) : Prop := ∀ Wish, Takes X Wish → ∃ wi : TI, PI X tg iter wi ∧ ∀ σ H R, (∃ W env G, W.H = H ∧ RAll kt B W σ env G ∧
  (match d env G with
    | .bad => False
    | .exn c G' => ∀ W' od, Ext p W W' → RAll kt B W' σ env G' → ExOk c od W'.H → Wish (kt.exc c.cls) od σ W'.H
    | .ok xs G' => ∀ W', Ext p W W' → RAll kt B W' σ env G' → ∀ J Gd Y, Walk J xs.length Gd Y → Yl kt W' xs Gd Y → R J W'.H)) → wi σ H R
/-- the items of a list, a tuple, a text, as they are walked -/
def walkOf : Vl → Option (List Vl)
  | .lst xs => some xs
  | .tup xs => some xs
  | .stp xs => some xs
  | .ktp xs => some xs
  | .scr ns => some (ns.map .int)
  | .str z => some (z.cps.toList.map fun c => .str ⟨#[c]⟩)
  | _ => none
def diVal (d : DE) : DI := fun env G => (d env G).bind fun x G1 => opt (walkOf x) G1
def iAny (K : PySem.W.Frag) (te : TE) : TI := fun σ H R => te σ H fun v H1 => (∃ a, v = .ref a ∧ ((∃ xs, SqL K H1 a xs) ∧ R (Itl K a) H1 ∨ (∃ xs, SqT K H1 a xs) ∧ R (Itt K a) H1)) ∨ ∃ z, v = .str z ∧ R (Its z) H1
theorem pi_any {X : Cx} {tg l : Expr} {tl : TE} (hl : PE X l tl) : PI X tg l (iAny X.K tl) := by
  refine ⟨fun pins s σ H R I h => ?_⟩
  refine thn (hl.run pins s σ H _ I h) fun v s1 ⟨x, H1, I1, r1, q1⟩ => ?_
  rcases q1 with ⟨a, e, ⟨⟨xs, hq⟩, q⟩ | ⟨⟨xs, hq⟩, q⟩⟩ | ⟨z, e, q⟩
  · subst e
    cases r1
    obtain ⟨its, rv, p, hz⟩ := I1.list hq
    refine wpAny_pyIter_list p.isList ?_
    refine ⟨s1.heap.objs.size, [s1.heap.objs.size], _, _, H1, rfl, I1.kept (t' := s1.toks) fun b o e => Heap.get?_push_of_some _ e, turn_list a _, ⟨_, Heap.get?_push_size _ rfl, rfl, rfl⟩, fun b hb => ?_, q⟩
    have e : b = s1.heap.objs.size := by simpa using hb
    subst e
    exact I1.fpOk (Nat.le_refl _) (I1.hok.fresh (Nat.le_refl _))
  · subst e
    cases r1
    obtain ⟨its, rv, p, hz⟩ := I1.tuple hq
    refine wpAny_pyIter_tuple (show s1.heap.IsTuple a its.toArray from p) ?_
    refine ⟨s1.heap.objs.size, [s1.heap.objs.size], _, _, H1, rfl, I1.kept (t' := s1.toks) fun b o e => Heap.get?_push_of_some _ e, turn_tuple a _, ⟨_, Heap.get?_push_size _ rfl, rfl, rfl⟩, fun b hb => ?_, q⟩
    have e : b = s1.heap.objs.size := by simpa using hb
    subst e
    exact I1.fpOk (Nat.le_refl _) (I1.hok.fresh (Nat.le_refl _))
  · subst e
    obtain ⟨t, rfl⟩ := r1
    cases ha : z.cps.all (· < 128)
    · exact wpAny_pyIter_wide ha (pi_one (tk := s1.toks) I1 _ (turn_str _ z t "str_iterator" (.inr rfl)) ⟨_, Heap.get?_push_size _ rfl, rfl, rfl⟩ q)
    · exact wpAny_pyIter_ascii ha (pi_one (tk := s1.toks) I1 _ (turn_str _ z t "str_ascii_iterator" (.inl rfl)) ⟨_, Heap.get?_push_size _ rfl, rfl, rfl⟩ q)
section
variable {kt : Kt} {B : Bs} {X : Cx} {p pa pb pc : Bool} {m ma mb mc : Md} {a b c e : Expr} {es : List Expr} {da db dc d : DE} {ds : DA} {t u : DT} {pos np : Pos} {i : Nat} {tg : Expr}
theorem rep_sqL {W W' : Wd} {xs : List Vl} {v : V} (h : Rep kt.K W (.lst xs) v) : ∃ a vs, v = .ref a ∧ Reps kt.K W xs vs ∧ ∀ W'', ExtS W W'' → SqL kt.K W''.H a vs := by
  obtain ⟨a, vs, rfl, g, h1, h2⟩ := h
  exact ⟨a, vs, rfl, h2, fun W'' e => SqL.of (e.keep a _ h1 (fun _ z => nomatch z) (by rw [g]; rfl) (.inr (by rw [g]; rfl)))⟩
theorem rep_sqT {W : Wd} {x : Vl} {xs : List Vl} {v : V} (h : Rep kt.K W x v) (e : itemsOf x = some xs) : ∃ a vs, v = .ref a ∧ Reps kt.K W xs vs ∧ ∀ W'', ExtS W W'' → SqT kt.K W''.H a vs := by
  cases x with
  | tup ys =>
    cases e
    obtain ⟨a, vs, o, rfl, g, h1, _, h2⟩ := h
    exact ⟨a, vs, rfl, h2, fun W'' e => .inl (.inr ⟨o, e.keep a _ h1 (fun _ z => nomatch z) (by rw [g]; rfl) (.inr (by rw [g]; rfl))⟩)⟩
  | stp ys =>
    cases e
    obtain ⟨a, vs, rfl, h1, h2⟩ := h
    exact ⟨a, vs, rfl, h2, fun W'' e => SqT.of (e.tups a _ h1)⟩
  | ktp ys =>
    cases e
    obtain ⟨a, vs, rfl, h1, h2⟩ := h
    exact ⟨a, vs, rfl, h2, fun W'' e => .inr h1⟩
  | _ => cases e
/-- what the walked wants -/
def WkI (kt : Kt) (B : Bs) (p : Bool) (σ : L2.St) (env : LEnv) (W : Wd) (Wish : WX) (R' : It → Hp → Prop) (r : R (List Vl)) : Prop := match r with
    | .bad => False
    | .exn c G' => ∀ W' od, Ext p W W' → RAll kt B W' σ env G' → ExOk c od W'.H → Wish (kt.exc c.cls) od σ W'.H
    | .ok xs G' => ∀ W', Ext p W W' → RAll kt B W' σ env G' → ∀ J Gd Y, Walk J xs.length Gd Y → Yl kt W' xs Gd Y → R' J W'.H
theorem bindI {α β : Type} {Z : Wd → α → β → Prop} {W : Wd} {σ : L2.St} {env : LEnv} {Wish : WX} {r : CardH.R α} {f : α → Gst → Option (List Vl)} {R' : It → Hp → Prop}
    (h : WkI kt B p σ env W Wish R' (r.bind fun x G1 => opt (f x G1) G1)) :
    PoX kt B p σ env W Wish Z r (fun v H1 => ∃ W1 x G1 xs, W1.H = H1 ∧ RAll kt B W1 σ env G1 ∧ Z W1 x v ∧ f x G1 = some xs ∧ ∀ J Gd Y, Walk J xs.length Gd Y → Yl kt W1 xs Gd Y → R' J W1.H) := by
  cases r with
  | bad => exact h
  | exn c G => exact h
  | ok x G =>
    rw [R.bind_ok] at h
    cases e : f x G with
    | none => rw [e] at h; exact h.elim
    | some xs =>
      rw [e] at h
      exact fun W' v e1 A z => ⟨W', x, G, xs, rfl, A, z, e, h W' e1 A⟩
theorem si_val (ha : SX kt B X p .s a da) (hK : X.K = kt.K := by rfl) : SI kt B X p tg a (diVal da) := fun Wish tk => by
  refine ⟨_, pi_any (ha Wish tk), fun σ H R ⟨W, env, G, e, A, h⟩ => ?_⟩
  subst e
  refine ⟨W, env, G, rfl, A, (bindI (f := fun x _ => walkOf x) h).mono ?_⟩
  rintro v H1 ⟨W', x, G', xs, rfl, A', z, ew, h⟩
  have z := z.strict
  have tp : ∀ {ys : List Vl}, itemsOf x = some ys → ys = xs → (∃ a, v = .ref a ∧ ((∃ xs, SqL X.K W'.H a xs) ∧ R (Itl X.K a) W'.H ∨ (∃ xs, SqT X.K W'.H a xs) ∧ R (Itt X.K a) W'.H)) ∨ ∃ z, v = .str z ∧ R (Its z) W'.H := by
    intro ys ey e1
    subst e1
    obtain ⟨a, vs, rfl, r, hq⟩ := rep_sqT z ey
    rw [hK]
    refine .inl ⟨a, rfl, .inr ⟨⟨vs, hq W' ExtR.refl⟩, h _ _ _ (by rw [r.length]; exact walk_tup) ⟨hq, fun i H y H' hi y1 W'' e2 eh => ?_⟩⟩⟩
    obtain ⟨y', h1, h2⟩ := (Reps.extR e2 rfl rfl _ _ r).get' y1.2
    exact ⟨y', h1, .inl ⟨y1.1, h2⟩⟩
  cases x with
  | lst ys =>
    cases ew
    obtain ⟨a, vs, rfl, r, hq⟩ := rep_sqL (W' := W') z
    rw [hK]
    refine .inl ⟨a, rfl, .inl ⟨⟨vs, hq W' ExtR.refl⟩, h _ _ _ (by rw [r.length]; exact walk_list) ⟨hq, fun i H y H' hi y1 W'' e2 eh => ?_⟩⟩⟩
    obtain ⟨y', h1, h2⟩ := (Reps.extR e2 rfl rfl _ _ r).get' y1.2
    exact ⟨y', h1, .inl ⟨y1.1, h2⟩⟩
  | tup ys => cases ew; exact tp rfl rfl
  | stp ys => cases ew; exact tp rfl rfl
  | ktp ys => cases ew; exact tp rfl rfl
  | scr ns =>
    cases ew
    obtain ⟨a, rfl, hh⟩ := z
    have hq : ∀ W'', ExtS W' W'' → SqL kt.K W''.H a (ns.map V.int) := fun W'' e2 => by
      rcases hh with ⟨g, r⟩ | h1
      · exact .inl (rd_keep e2 (by rw [g]; rfl) (.inr (by rw [g]; rfl)) (fun _ z => nomatch z) r)
      · exact .inr h1
    have r := reps_ints (K := kt.K) (W := W') ns
    rw [hK]
    refine .inl ⟨a, rfl, .inl ⟨⟨_, hq W' ExtR.refl⟩, h _ _ _ (by rw [r.length]; exact walk_list) ⟨hq, fun i H y H' hi y1 W'' e2 eh => ?_⟩⟩⟩
    obtain ⟨y', h1, h2⟩ := (Reps.extR e2 rfl rfl _ _ r).get' y1.2
    exact ⟨y', h1, .inl ⟨y1.1, h2⟩⟩
  | str s =>
    cases ew
    obtain ⟨rfl, ok⟩ := z
    refine .inr ⟨s, rfl, h _ _ _ (by rw [List.length_map, Array.length_toList]; exact walk_str) ⟨fun _ _ => trivial, fun i H y H' hi y1 W'' e2 eh => ?_⟩⟩
    obtain ⟨c, hc, rfl⟩ := y1.2
    refine ⟨.str ⟨#[c]⟩, by simp [hc], .inl ⟨y1.1, rfl, ?_⟩⟩
    exact okStr_one (j := i) ok (by simpa using hc)
  | _ => cases ew
def rgL (i : Int) (n : Nat) : List Vl := (List.range n).map fun k => .int (i + (k : Nat))
/-- range's turns -/
def rng1 : List Vl → Option (List Vl)
  | [.int j] => if sm62 j = true then some (rgL 0 j.toNat) else none
  | _ => none
def rng2 : List Vl → Option (List Vl)
  | [.int i, .int j] => if sm62 i = true ∧ sm62 j = true then some (rgL i (j - i).toNat) else none
  | _ => none
def rgC (i c : Int) (n : Nat) : List Vl := (List.range n).map fun k => .int (i + (k : Nat) * c)
/-- range(i, j, -1), range(i, j, c) with c > 0 -/
def rng3 : List Vl → Option (List Vl)
  | [.int i, .int j, .int c] => if c = -1 ∧ sm62 i = true ∧ sm62 j = true then some (rgC i (-1) (i - j).toNat) else
    if c ≠ 0 ∧ c.natAbs < 1073741824 ∧ Builtin.Range.small i j c = true ∧ 0 ≤ Builtin.Range.rangeSize i j c then some (rgC i c (Builtin.Range.rangeSize i j c).toNat) else none
  | _ => none
def diRng (f : List Vl → Option (List Vl)) (ds : DA) : DI := fun env G => (ds env G).bind fun xs G1 => opt (f xs) G1
theorem yl_range {W : Wd} {i : Int} {n : Nat} : Yl kt W (rgL i n) (fun _ => True) (YFn fun k => .int (i + k)) :=
  ⟨fun _ _ => trivial, fun k H x H' hk y W'' e eh => by
    have hk : k < n := by simpa [rgL] using hk
    exact ⟨.int (i + k), by simp [rgL, hk], .inl ⟨y.1, y.2⟩⟩⟩
theorem yl_rangeC {W : Wd} {i c : Int} {n : Nat} : Yl kt W (rgC i c n) (fun _ => True) (YFn fun k => .int (i + (k : Nat) * c)) :=
  ⟨fun _ _ => trivial, fun k H x H' hk y W'' e eh => by
    have hk : k < n := by simpa [rgC] using hk
    exact ⟨.int (i + (k : Nat) * c), by simp [rgC, hk], .inl ⟨y.1, y.2⟩⟩⟩
theorem rgL_length {i : Int} {n : Nat} : (rgL i n).length = n := by simp [rgL]
theorem rgC_length {i c : Int} {n : Nat} : (rgC i c n).length = n := by simp [rgC]
theorem PkS.three {K : PySem.W.Frag} {W : Wd} {m : Md} {x y z : Vl} {vs : List V} (h : PkS K W m [x, y, z] vs) : ∃ v u w, vs = [v, u, w] ∧ Pk K W m x v ∧ Pk K W m y u ∧ Pk K W m z w := by
  obtain ⟨v, r, e1, h1, h2⟩ := h
  obtain ⟨u, w, rfl, h3, h4⟩ := h2.two
  exact ⟨v, u, w, e1, h1, h3, h4⟩
theorem si_r1 (ha : SAm kt B X p .s [a] ds) (hg : Gl X "range" := by rfl) (hm : X.mg "range" = none := by rfl) (hs : starEach [a] X.env = [(false, eval a X.env)] := by rfl) :
    SI kt B X p tg (.Call (.Name "range" np) [a] [] pos) (diRng rng1 ds) := fun Wish tk => by
  refine ⟨_, pi_range1 hg hm (ha Wish tk) hs, fun σ H R ⟨W, env, G, e, A, h⟩ => ?_⟩
  subst e
  refine ⟨W, env, G, rfl, A, (bindI (Z := fun W x v => PkS kt.K W .s x v) (f := fun x _ => rng1 x) h).mono ?_⟩
  rintro vs H1 ⟨W1, xs, G1, ys, rfl, A1, z1, ef, hr⟩
  unfold rng1 at ef
  split at ef
  · split at ef
    · rename_i hb
      cases ef
      obtain ⟨v, rfl, z2⟩ := z1.one
      cases z2.int
      have hb := sm62_ok hb
      exact ⟨_, rfl, hb.1, hb.2, hr _ _ _ (by rw [rgL_length]; exact walk_range) yl_range⟩
    · cases ef
  · cases ef
theorem si_r2 (ha : SAm kt B X p .s [a, b] ds) (hg : Gl X "range" := by rfl) (hm : X.mg "range" = none := by rfl) (hs : starEach [a, b] X.env = [(false, eval a X.env), (false, eval b X.env)] := by rfl) (hs2 : starEach [b] X.env = [(false, eval b X.env)] := by rfl) :
    SI kt B X p tg (.Call (.Name "range" np) [a, b] [] pos) (diRng rng2 ds) := fun Wish tk => by
  refine ⟨_, pi_range2 hg hm (ha Wish tk) hs hs2, fun σ H R ⟨W, env, G, e, A, h⟩ => ?_⟩
  subst e
  refine ⟨W, env, G, rfl, A, (bindI (Z := fun W x v => PkS kt.K W .s x v) (f := fun x _ => rng2 x) h).mono ?_⟩
  rintro vs H1 ⟨W1, xs, G1, ys, rfl, A1, z1, ef, hr⟩
  unfold rng2 at ef
  split at ef
  · split at ef
    · rename_i hb
      cases ef
      obtain ⟨v, u, rfl, z2, z3⟩ := z1.two
      cases z2.int; cases z3.int
      exact ⟨_, _, rfl, ⟨(sm62_ok hb.1).1, (sm62_ok hb.1).2, (sm62_ok hb.2).1, (sm62_ok hb.2).2⟩, hr _ _ _ (by rw [rgL_length]; exact walk_range) yl_range⟩
    · cases ef
  · cases ef
theorem si_r3 {c : Expr} (ha : SAm kt B X p .s [a, b, c] ds) (hg : Gl X "range" := by rfl) (hm : X.mg "range" = none := by rfl) (hs : starEach [a, b, c] X.env = (false, eval a X.env) :: starEach [b, c] X.env := by rfl) (hpl : (backTo pos (starEach [b, c] X.env)).any (·.1) = false := by rfl) :
    SI kt B X p tg (.Call (.Name "range" np) [a, b, c] [] pos) (diRng rng3 ds) := fun Wish tk => by
  refine ⟨_, pi_range3 hg hm (ha Wish tk) hs hpl, fun σ H R ⟨W, env, G, e, A, h⟩ => ?_⟩
  subst e
  refine ⟨W, env, G, rfl, A, (bindI (Z := fun W x v => PkS kt.K W .s x v) (f := fun x _ => rng3 x) h).mono ?_⟩
  rintro vs H1 ⟨W1, xs, G1, ys, rfl, A1, z1, ef, hr⟩
  unfold rng3 at ef
  split at ef
  · obtain ⟨v, u, w, rfl, z2, z3, z4⟩ := z1.three
    cases z2.int; cases z3.int; cases z4.int
    split at ef
    · rename_i hb
      cases ef
      obtain ⟨rfl, g1, g2⟩ := hb
      obtain ⟨h1, h2⟩ := sm62_ok g1
      obtain ⟨h3, h4⟩ := sm62_ok g2
      exact ⟨_, _, _, _, rfl, RgC.neg h1 h2 h3 h4, hr _ _ _ (by rw [rgC_length]; exact walk_rangeC) yl_rangeC⟩
    · split at ef
      · rename_i hb
        cases ef
        obtain ⟨h1, h2, h3, h4⟩ := hb
        exact ⟨_, _, _, _, rfl, ⟨h1, h2, h3, (Int.toNat_of_nonneg h4).symm⟩, hr _ _ _ (by rw [rgC_length]; exact walk_rangeC) yl_rangeC⟩
      · cases ef
  · cases ef
/-- enumerate(list) -/
def enL : Nat → List Vl → List Vl
  | _, [] => []
  | n, x :: xs => .stp [.int n, x] :: enL (n + 1) xs
theorem enL_length : ∀ (xs : List Vl) (n : Nat), (enL n xs).length = xs.length
  | [], _ => rfl
  | _ :: xs, n => by simp [enL, enL_length xs]
theorem enL_get : ∀ (xs : List Vl) (n i : Nat), (enL n xs)[i]? = xs[i]?.map fun x => .stp [.int ((n + i : Nat) : Int), x]
  | [], _, _ => by simp [enL]
  | x :: xs, n, 0 => by simp [enL]
  | x :: xs, n, i + 1 => by
    simp only [enL, List.getElem?_cons_succ, enL_get xs (n + 1) i]
    rw [show n + 1 + i = n + (i + 1) by omega]
def enOf : List Vl → Option (List Vl)
  | [.lst xs] => some (enL 0 xs)
  | _ => none
theorem si_en {elts : List Expr} {kk : Nat} {tpos : Pos} (ha : SAm kt B X p .s [e] ds) (hg : Gl X "enumerate" := by rfl) (hm : X.mg "enumerate" = none := by rfl) (hs : starEach [e] X.env = [(false, eval e X.env)] := by rfl) (hK : X.K = kt.K := by rfl) :
    SI kt B X p (.Tuple elts kk tpos) (.Call (.Name "enumerate" np) [e] [] pos) (diRng enOf ds) := fun Wish tk => by
  refine ⟨_, pi_enum hg hm (ha Wish tk) hs, fun σ H R ⟨W, env, G, e, A, h⟩ => ?_⟩
  subst e
  refine ⟨W, env, G, rfl, A, (bindI (Z := fun W x v => PkS kt.K W .s x v) (f := fun x _ => enOf x) h).mono ?_⟩
  rintro vs H1 ⟨W1, xs, G1, ys, rfl, A1, z1, ef, hr⟩
  unfold enOf at ef
  split at ef
  · rename_i zs
    cases ef
    obtain ⟨v, rfl, z2⟩ := z1.one
    obtain ⟨a, us, rfl, r, hq⟩ := rep_sqL (W' := W1) z2.strict
    rw [hK]
    refine ⟨a, us, rfl, hq W1 ExtR.refl, hr _ _ _ (by rw [enL_length, r.length]; exact walk_enum) ⟨hq, fun i H x H' hi y W'' e2 eh => ?_⟩⟩
    obtain ⟨T, w1, w2, rfl, hT, rfl, e3, e4⟩ := y
    cases e3
    obtain ⟨y', h1, h2⟩ := (Reps.extR e2 rfl rfl _ _ r).get' e4
    refine ⟨.stp [.int i, y'], by rw [enL_get, h1]; simp, .inr ⟨T, _, rfl, hT, rfl, ?_⟩⟩
    have hT' : W''.H T = none := by rw [eh]; exact hT
    exact ⟨T, _, rfl, upd_same, _, _, rfl, rfl, _, _, rfl, h2.ext (Ext.alloc hT'), rfl⟩
  · cases ef
end
end CardH
end
section
set_option maxHeartbeats 2000000
namespace CardH
open PySem PySem.Spec PyProof.Rows L2

/-! ### comprehensions -/
def noex {α : Type} (r : CardH.R α) : CardH.R α := (fun _ : Nat => match r with
  | .ok a G => .ok a G
  | _ => .bad) hgt3
def compL (g : DG) (dt : DT) (de : DE) (e0 : LEnv) : List Vl → Gst → CardH.R (List Vl)
  | [], G => .ok [] G
  | x :: xs, G => match g e0 x with
    | none => .bad
    | some e => (dt e G).bind fun b G1 => match b with
      | true => (de e G1).bind fun y G2 => (compL g dt de e0 xs G2).bind fun ys G3 => .ok (y :: ys) G3
      | false => compL g dt de e0 xs G1
def dYes : DT := fun _ G => .ok true G
def dLc (vs : List Nat) (di : DI) (g : DG) (dt : DT) (de : DE) : DE := fun env G => (di env G).bind fun xs G1 => (noex (compL g dt de (wipeE env vs) xs G1)).bind fun ys G2 => if ys.length ≤ 16777216 then .ok (.lst ys) G2 else .bad
def STs (kt : Kt) (B : Bs) (X : Cx) (p : Bool) (ifs : List Expr) (d : DT) : Prop := ∀ Wish, Takes X Wish → PTs X ifs (rdX kt B p Wish ZB d)
theorem _root_.L2.PTs.imp {X : Cx} {e : List Expr} {t t' : TT} (h : PTs X e t) (i : ∀ σ H Q, t' σ H Q → t σ H Q) : PTs X e t' := ⟨fun pins s σ H Q I q => h.run pins s σ H Q I (i σ H Q q)⟩
theorem upd_self {H : Hp} {D : Addr} {o : HO} (h : H D = some o) : upd H D o = H := by
  funext a
  by_cases e : a = D
  · rw [e, upd_same, h]
  · rw [upd_ne e]
theorem wipe_wipe {σ : L2.St} {vs : List Nat} : wipe (wipe σ vs) vs = wipe σ vs := by
  have step : ∀ (us : List Nat), (∀ i, i ∈ us → i ∈ vs) → wipe (wipe σ us) vs = wipe σ vs := by
    intro us
    induction us with
    | nil => intro _; rfl
    | cons k us ih =>
      intro h
      show wipe ((wipe σ us).set k none) vs = wipe σ vs
      rw [wipe_set_mem (h k (by simp)), ih fun i hi => h i (by simp [hi])]
  exact step vs fun _ h => h
section
variable {kt : Kt} {B : Bs} {X : Cx} {p pi pt pe : Bool} {elt tg iter : Expr} {ifs : List Expr} {scope : Scope} {own : List (Str × Nat)} {pos : Pos} {sl : List Nat} {di : DI} {g : DG} {dt : DT} {de : DE}
theorem sts_nil : STs kt B X true [] dYes := fun Wish _ => pts_nil.imp fun σ H Q ⟨W, env, G, e, A, h⟩ => by
  subst e; exact h W true Ext.refl A rfl
theorem sts_one {c : Expr} (h : ST kt B X p c dt) : STs kt B X p [c] dt := fun Wish tk => pts_one (h Wish tk)
theorem takes_blk {s : Shared} {H : Hp} {cenv : Env} {fp : List Addr} : Takes (X.blk s H scope cenv fp) (fun _ _ _ _ => False) := fun u s' ⟨a, B, sI, pins, σ, H, cls, d, _, _, _, _, _, _, _, _, w⟩ => w
theorem Ext.andL {a b : Bool} {W W' : Wd} (e : Ext a W W') : Ext (a && b) W W' := e.mono fun z => (Bool.and_eq_true _ _ ▸ z).1
theorem Ext.andR {a b : Bool} {W W' : Wd} (e : Ext b W W') : Ext (a && b) W W' := e.mono fun z => (Bool.and_eq_true _ _ ▸ z).2
theorem Ext.fls {a : Bool} {W W' : Wd} (e : Ext a W W') : Ext false W W' := e.mono fun z => nomatch z
theorem lc_imp (hi : SI kt B X pi tg iter di)
    (hsl : sl.all (fun i => (own.map (·.2)).contains i) = true) {Wish : WX} (tk : Takes X Wish) :
    ∃ wi, PI X tg iter wi ∧ ∀ σ H Q, rdX kt B (pi && (pt && pe)) Wish (fun W x v => Pk kt.K W .s x v) (dLc (own.map (·.2)) di g dt de) σ H Q →
      tLc wi (rdG kt B sl g) (rdX kt B pt (fun _ _ _ _ => False) ZB dt) (rdX kt B pe (fun _ _ _ _ => False) (fun W x v => Pk kt.K W .s x v) de) (own.map (·.2)) σ H Q := by
  obtain ⟨wi, hwi, him⟩ := hi Wish tk
  have hsl : ∀ i, i ∈ sl → i ∈ own.map (·.2) := fun i h => by simpa using List.all_eq_true.mp hsl i h
  refine ⟨wi, hwi, fun σ H Q ⟨W, env, G, e, A, h⟩ => ?_⟩
  subst e
  refine him _ _ _ ⟨W, env, G, rfl, A, ?_⟩
  unfold dLc at h
  cases q : di env G with
  | bad => rw [q] at h; exact h.elim
  | exn c G' => rw [q] at h; exact fun W' od e A z => h W' od e.andL A z
  | ok xs G1 =>
    rw [q, R.bind_ok] at h
    intro W1 e1 A1 J Gd Y wk yl D hD
    generalize hvs : own.map (·.2) = vs at h hsl ⊢
    cases qc : compL g dt de (wipeE env vs) xs G1 with
    | bad => rw [qc] at h; exact h.elim
    | exn c G' => rw [qc] at h; exact h.elim
    | ok ys Gf =>
      rw [qc] at h
      have h : PoX kt B (pi && (pt && pe)) σ env W Wish (fun W x v => Pk kt.K W .s x v) (if ys.length ≤ 16777216 then .ok (.lst ys) Gf else .bad) Q := h
      split at h
      case isFalse => exact h.elim
      rename_i hlen
      refine lc_it wk (fun i H => ∃ Wi Gi acc accV rest, Wi.H = H ∧ Ext (pt && pe) W1 Wi ∧ RAll kt B Wi (wipe σ vs) (wipeE env vs) Gi ∧ Wi.Γ D = .tmp ∧ Wi.H D = some (.lst accV) ∧ Reps kt.K Wi acc accV ∧
        compL g dt de (wipeE env vs) (xs.drop i) Gi = .ok rest Gf ∧ acc ++ rest = ys) ?_ ?_ ?_ ?_
      · exact ⟨W1.alloc D (.lst []) .tmp, G1, [], [], ys, rfl, (Ext.alloc hD).weak, (A1.wipe vs).alloc hD rfl rfl, if_pos rfl, upd_same, rfl, qc, rfl⟩
      · rintro i H hi ⟨Wi, Gi, acc, accV, rest, rfl, ei, _⟩
        exact yl.gd Wi ei.toS
      · rintro i x H H' hi ⟨Wi, Gi, acc, accV, rest, eH, ei, Ai, gi, di', ri, ci, ai⟩ y
        obtain ⟨y0, hy0, hrep⟩ := yl.yl i H x H' hi y Wi ei.toS eH
        have hW2 : ∃ W2, W2.H = H' ∧ Ext true Wi W2 ∧ RAll kt B W2 (wipe σ vs) (wipeE env vs) Gi ∧ Rep kt.K W2 y0 x := by
          rcases hrep with ⟨e, r⟩ | ⟨T, us, e, hT, e2, r⟩
          · exact ⟨Wi, by rw [e]; exact eH, Ext.refl, Ai, r⟩
          · have hT' : Wi.H T = none := by rw [eH]; exact hT
            exact ⟨Wi.alloc T (.tup us) .no, by rw [e2, ← eH]; rfl, Ext.alloc hT', Ai.alloc hT' rfl rfl, r⟩
        obtain ⟨W2, rfl, e2, A2, rep⟩ := hW2
        have d2 : W2.H D = some (.lst accV) := e2.keep D _ di' (fun _ z => nomatch z) (.inl rfl)
        have g2 : W2.Γ D = .tmp := (e2.role D (by rw [di']; simp)).trans gi
        have r2 := ri.ext e2
        have e02 : Ext (pt && pe) W1 W2 := (ei.trans e2).mono fun z => by rw [z]; rfl
        have hdrop : xs.drop i = y0 :: xs.drop (i + 1) := by
          obtain ⟨h1, h2⟩ := List.getElem?_eq_some_iff.mp hy0
          rw [List.drop_eq_getElem_cons h1, h2]
        rw [hdrop] at ci
        unfold compL at ci
        cases eg : g (wipeE env vs) y0 with
        | none => rw [eg] at ci; cases ci
        | some e' =>
          rw [eg] at ci
          dsimp only at ci
          refine ⟨W2, wipeE env vs, Gi, y0, e', rfl, A2, rep, eg, fun σ' hset hw => ⟨by rw [hw vs hsl, wipe_wipe], W2, e', Gi, rfl, hset W2 Gi Ext.refl A2, ?_⟩⟩
          cases qt : dt e' Gi with
          | bad => rw [qt] at ci; cases ci
          | exn c G' => rw [qt] at ci; cases ci
          | ok b G3 =>
            rw [qt, R.bind_ok] at ci
            intro W3 b' e3 A3 z3
            obtain rfl : b = b' := z3
            cases b with
            | false =>
              rw [if_neg Bool.false_ne_true]
              dsimp only at ci
              exact ⟨W3, G3, acc, accV, rest, rfl, (e02.trans e3).mono fun z => by rw [z]; exact (Bool.and_eq_true _ _ ▸ z).1,
                ⟨A3.ok, A2.re.ext e3, A3.si, A3.nl⟩, (e3.role D (by rw [d2]; simp)).trans g2, e3.keep D _ d2 (fun _ z => nomatch z) (.inr (by rw [g2]; rfl)), r2.ext e3, ci, ai⟩
            | true =>
              rw [if_pos rfl]
              dsimp only at ci
              refine ⟨W3, e', G3, rfl, A3, ?_⟩
              cases qe : de e' G3 with
              | bad => rw [qe] at ci; cases ci
              | exn c G' => rw [qe] at ci; cases ci
              | ok yv G4 =>
                rw [qe, R.bind_ok] at ci
                intro W4 v e4 A4 z4
                have e34 := e3.trans e4
                have d4 : W4.H D = some (.lst accV) := e34.keep D _ d2 (fun _ z => nomatch z) (.inr (by rw [g2]; rfl))
                have g4 : W4.Γ D = .tmp := (e34.role D (by rw [d2]; simp)).trans g2
                have r4 := r2.ext e34
                cases qr : compL g dt de (wipeE env vs) (xs.drop (i + 1)) G4 with
                | bad => rw [qr] at ci; cases ci
                | exn c G' => rw [qr] at ci; cases ci
                | ok zs G5 =>
                  rw [qr, R.bind_ok] at ci
                  cases ci
                  have hl : acc.length + 1 ≤ ys.length := by rw [← ai]; simp
                  have A4' : RAll kt B W4 (wipe σ vs) (wipeE env vs) G4 := ⟨A4.ok, A2.re.ext e34, A4.si, A4.nl⟩
                  refine ⟨accV, d4, by rw [← r4.length, sizeLine_eq]; omega, W4.put D (.lst (accV ++ [v])) .tmp, G4, acc ++ [yv], accV ++ [v], zs, rfl, ?_, A4'.put g4 d4 (A1.fresh hD), if_pos rfl, upd_same, ?_, qr, by rw [← ai]; simp⟩
                  · exact Ext.put ((e02.trans e34).mono fun z => by rw [z]; rfl) hD d4
                  · exact (Reps.extR (ExtR.put g4 d4 : ExtR true isTmp W4 _) rfl rfl _ _ r4).append (Reps.one (Rep.extR (ExtR.put g4 d4 : ExtR true isTmp W4 _) rfl rfl _ _ z4.strict))
      · rintro H ⟨Wi, Gi, acc, accV, rest, rfl, ei, Ai, gi, di', ri, ci, ai⟩
        rw [List.drop_length] at ci
        cases ci
        rw [List.append_nil] at ai
        subst ai
        have e5 : Ext (pt && pe) W1 (Wi.put D (.lst accV) .froz) := Ext.put ei hD di'
        have A5 := Ai.put (ys := accV) (r := .froz) gi di' (A1.fresh hD)
        have h5 := h (Wi.put D (.lst accV) .froz) (.ref D) (e1.trans e5) ⟨A5.ok, A1.re.ext e5, A5.si, A5.nl⟩ (.inl ⟨D, accV, rfl, if_pos rfl, upd_same, Reps.extR (ExtR.put gi di' : ExtR true isTmp Wi _) rfl rfl _ _ ri⟩)
        have eH : (Wi.put D (.lst accV) .froz).H = Wi.H := upd_self di'
        rw [eH] at h5
        exact h5
theorem sx_lc (hc : X.calm = true) (hN : X.N.Nodup) (hi : SI kt B X pi tg iter di) (ok : blkC X.N X.env.scope scope own = true)
    (hg : ∀ (s : Shared) (H : Hp) (C : Addr) (cl : List (Str × Addr)) (fp : List Addr), SG kt B (X.blk s H scope (compEnvC scope cl C X.env) fp) sl tg g)
    (ht : ∀ (s : Shared) (H : Hp) (C : Addr) (cl : List (Str × Addr)) (fp : List Addr), STs kt B (X.blk s H scope (compEnvC scope cl C X.env) fp) pt ifs dt)
    (he : ∀ (s : Shared) (H : Hp) (C : Addr) (cl : List (Str × Addr)) (fp : List Addr), SX kt B (X.blk s H scope (compEnvC scope cl C X.env) fp) pe .s elt de)
    (hsl : sl.all (fun i => (own.map (·.2)).contains i) = true := by rfl) (hs : ∀ x, foldedSetIterable iter X.env x = pure x := by intro _; rfl) :
    SX kt B X (pi && (pt && pe)) .s (.ListComp elt [⟨tg, iter, ifs, 0⟩] scope pos) (dLc (own.map (·.2)) di g dt de) := fun Wish tk => by
  obtain ⟨wi, hwi, him⟩ := lc_imp (pt := pt) (pe := pe) (g := g) (dt := dt) (de := de) hi hsl tk
  exact (pe_lc hc hN hwi (blkOk_by ok) hg (fun s H C cl fp => ht s H C cl fp _ takes_blk) (fun s H C cl fp => he s H C cl fp _ takes_blk) hs).imp him
end
end CardH
end
section
set_option maxHeartbeats 2000000
namespace CardH
open PySem PySem.Spec PyProof.Rows L2

/-! ### statements -/
structure ROut (kt : Kt) (B : Bs) (W : Wd) (G : Gst) : Prop where
  ok : WOk kt W G
  si : Ext B.p B.W0 W
  nl : B.lk = false → NoLock W
theorem RAll.out {kt : Kt} {B : Bs} {W : Wd} {σ : L2.St} {env : LEnv} {G : Gst} (A : RAll kt B W σ env G) : ROut kt B W G := ⟨A.ok, A.si, A.nl⟩
def PoS (kt : Kt) (B : Bs) (W : Wd) (Wish : WX) (r : SR) (D : Ends) : Prop := match r with
  | .bad => False
  | .nx e G => ∀ W' σ, ExtS W W' → RAll kt B W' σ e G → D.nx σ W'.H
  | .bk e G => ∀ W' σ, ExtS W W' → RAll kt B W' σ e G → D.bk σ W'.H
  | .ct e G => ∀ W' σ, ExtS W W' → RAll kt B W' σ e G → D.ct σ W'.H
  | .rt v G => ∀ W' w, ExtS W W' → ROut kt B W' G → Rep kt.K W' v w → D.rt w W'.H
  | .ex c e G => ∀ W' σ od, ExtS W W' → RAll kt B W' σ e G → ExOk c od W'.H → Wish (kt.exc c.cls) od σ W'.H
def rdS (kt : Kt) (B : Bs) (Wish : WX) (d : DS) : TS := fun D σ H => ∃ W env G, W.H = H ∧ RAll kt B W σ env G ∧ PoS kt B W Wish (d env G) D
def SS (kt : Kt) (B : Bs) (X : Cx) (st : Stmt) (d : DS) : Prop := ∀ Wish, Takes X Wish → PS X st (rdS kt B Wish d)
def SSs (kt : Kt) (B : Bs) (X : Cx) (st : List Stmt) (d : DS) : Prop := ∀ Wish, Takes X Wish → PSs X st (rdS kt B Wish d)
/-- an expression within a statement -/
def sb {α : Type} (env : LEnv) (r : CardH.R α) (f : α → Gst → SR) : SR := (fun _ : Nat => match r with
  | .ok a G => f a G
  | .exn c G => .ex c env G
  | .bad => .bad) hgt3
@[simp] theorem sb_ok {α : Type} (env : LEnv) (a : α) (G : Gst) (f : α → Gst → SR) : sb env (.ok a G) f = f a G := rfl
@[simp] theorem sb_exn {α : Type} (env : LEnv) (c : Ex) (G : Gst) (f : α → Gst → SR) : sb env (.exn c G) f = .ex c env G := rfl
section
variable {kt : Kt} {B : Bs} {X : Cx} {W W1 : Wd} {Wish : WX} {σ : L2.St} {env : LEnv} {p : Bool} {α β : Type}
theorem PoS.shiftS {r : SR} {D : Ends} (h : PoS kt B W Wish r D) (e : ExtS W W1) : PoS kt B W1 Wish r D := by
  cases r with
  | bad => exact h
  | nx _ _ => exact fun W' σ e' => h W' σ (e.trans e')
  | bk _ _ => exact fun W' σ e' => h W' σ (e.trans e')
  | ct _ _ => exact fun W' σ e' => h W' σ (e.trans e')
  | rt _ _ => exact fun W' w e' => h W' w (e.trans e')
  | ex _ _ _ => exact fun W' σ od e' => h W' σ od (e.trans e')
theorem PoS.shift {r : SR} {D : Ends} (h : PoS kt B W Wish r D) (e : Ext p W W1) : PoS kt B W1 Wish r D := h.shiftS e.toS
theorem PoS.bindS {Z : Wd → α → β → Prop} {r : CardH.R α} {f : α → Gst → SR} {D : Ends} (h : PoS kt B W Wish (sb env r f) D) :
    PoX kt B p σ env W Wish Z r (fun v H1 => ∃ W1 x G1, W1.H = H1 ∧ Ext p W W1 ∧ RAll kt B W1 σ env G1 ∧ Z W1 x v ∧ PoS kt B W1 Wish (f x G1) D) := by
  cases r with
  | bad => exact h
  | exn c G => exact fun W' od e A z => h W' σ od e.toS A z
  | ok x G => exact fun W' v e A z => ⟨W', x, G, rfl, e, A, z, h.shift e⟩
end
def dNext : DS := fun e G => .nx e G
def dSeq (a b : DS) : DS := fun e G => match a e G with
  | .nx e1 G1 => b e1 G1
  | r => r
def dRet (d : DE) : DS := fun e G => sb e (d e G) fun v G1 => .rt v G1
def dRetN : DS := fun _ G => .rt .non G
def dExpr (d : DE) : DS := fun e G => sb e (d e G) fun _ G1 => .nx e G1
def dBreak : DS := fun e G => .bk e G
def dCont : DS := fun e G => .ct e G
def dIfS (t : DT) (a b : DS) : DS := fun e G => sb e (t e G) fun c G1 => match c with
  | true => a e G1
  | false => b e G1
def dAsg (d : DE) (g : DG) : DS := fun e G => sb e (d e G) fun x G1 => match g e x with
  | some e1 => .nx e1 G1
  | none => .bad
def forL (g : DG) (db : DS) : List Vl → LEnv → Gst → SR
  | [], e, G => .nx e G
  | x :: xs, e, G => match g e x with
    | none => .bad
    | some e1 => match db e1 G with
      | .nx e2 G2 => forL g db xs e2 G2
      | .ct e2 G2 => forL g db xs e2 G2
      | .bk e2 G2 => .nx e2 G2
      | r => r
def dFor (di : DI) (g : DG) (db : DS) : DS := fun e G => sb e (di e G) fun xs G1 => forL g db xs e G1
def whileL (t : DT) (db : DS) : Nat → LEnv → Gst → SR
  | 0, _, _ => .bad
  | n + 1, e, G => sb e (t e G) fun c G1 => match c with
    | false => .nx e G1
    | true => match db e G1 with
      | .nx e2 G2 => whileL t db n e2 G2
      | .ct e2 G2 => whileL t db n e2 G2
      | .bk e2 G2 => .nx e2 G2
      | r => r
def dWhile (n : Nat) (t : DT) (db : DS) : DS := whileL t db n
section
variable {kt : Kt} {B : Bs} {X : Cx} {p : Bool} {m : Md} {e : Expr} {d : DE} {t : DT} {st : Stmt} {rest a b body : List Stmt} {ds d1 d2 : DS} {pos : Pos} {g : DG} {sl : List Nat} {di : DI}
theorem sss_nil : SSs kt B X [] dNext := fun Wish _ => pss_nil.imp fun D σ H ⟨W, env, G, e, A, h⟩ => by
  subst e; exact h W σ ExtR.refl A
theorem sss_cons (h1 : SS kt B X st d1) (h2 : SSs kt B X rest d2) : SSs kt B X (st :: rest) (dSeq d1 d2) := fun Wish tk => (pss_cons (h1 Wish tk) (h2 Wish tk)).imp fun D σ H ⟨W, env, G, e, A, h⟩ => by
  subst e
  refine ⟨W, env, G, rfl, A, ?_⟩
  unfold dSeq at h
  cases q : d1 env G with
  | bad => rw [q] at h; exact h
  | nx e1 G1 => rw [q] at h; exact fun W' σ' e' A' => ⟨W', e1, G1, rfl, A', PoS.shiftS h e'⟩
  | bk _ _ => rw [q] at h; exact h
  | ct _ _ => rw [q] at h; exact h
  | rt _ _ => rw [q] at h; exact h
  | ex _ _ _ => rw [q] at h; exact h
theorem sss_one (h1 : SS kt B X st d1) : SSs kt B X [st] d1 := fun Wish tk => (pss_one (h1 Wish tk))
theorem ss_pass : SS kt B X (.Pass pos) dNext := fun Wish _ => ps_pass.imp fun D σ H ⟨W, env, G, e, A, h⟩ => by
  subst e; exact h W σ ExtR.refl A
theorem ss_doc {x j pos'} : SS kt B X (.Expr (.Constant (.str x) j pos) pos') dNext := fun Wish _ => ps_doc.imp fun D σ H ⟨W, env, G, e, A, h⟩ => by
  subst e; exact h W σ ExtR.refl A
theorem ss_break : SS kt B X (.Break pos) dBreak := fun Wish _ => ps_break.imp fun D σ H ⟨W, env, G, e, A, h⟩ => by
  subst e; exact h W σ ExtR.refl A
theorem ss_cont : SS kt B X (.Continue pos) dCont := fun Wish _ => ps_continue.imp fun D σ H ⟨W, env, G, e, A, h⟩ => by
  subst e; exact h W σ ExtR.refl A
theorem ss_expr (h : SX kt B X p m e d) (hs : swapsWith e none pos.line X.env = pure false := by rfl) : SS kt B X (.Expr e pos) (dExpr d) := fun Wish tk => (ps_expr (h Wish tk) hs).imp fun D σ H ⟨W, env, G, e, A, h⟩ => by
  subst e
  refine ⟨W, env, G, rfl, A, h.bindS.mono ?_⟩
  rintro v H1 ⟨W1, x, G1, rfl, e1, A1, z1, h1⟩
  exact h1 W1 σ ExtR.refl A1
theorem ss_ret (h : SX kt B X p .s e d) : SS kt B X (.Return (some e) pos) (dRet d) := fun Wish tk => (ps_ret (h Wish tk)).imp fun D σ H ⟨W, env, G, e, A, h⟩ => by
  subst e
  refine ⟨W, env, G, rfl, A, h.bindS.mono ?_⟩
  rintro v H1 ⟨W1, x, G1, rfl, e1, A1, z1, h1⟩
  exact h1 W1 v ExtR.refl A1.out z1.strict
theorem ss_retN : SS kt B X (.Return none pos) dRetN := fun Wish tk => ps_retN.imp fun D σ H ⟨W, env, G, e, A, h⟩ => by
  subst e
  exact h W .non ExtR.refl A.out rfl
theorem ss_if {c : Expr} (hc : ST kt B X p c t) (ha : SSs kt B X a d1) (hb : SSs kt B X b d2) : SS kt B X (.If c a b pos) (dIfS t d1 d2) := fun Wish tk => (ps_if (hc Wish tk) (ha Wish tk) (hb Wish tk)).imp fun D σ H ⟨W, env, G, e, A, h⟩ => by
  subst e
  refine ⟨W, env, G, rfl, A, h.bindS.mono ?_⟩
  rintro c H1 ⟨W1, x, G1, rfl, e1, A1, z1, h1⟩
  obtain rfl : x = c := z1
  cases x with
  | true => rw [if_pos rfl]; exact ⟨W1, env, G1, rfl, A1, h1⟩
  | false => rw [if_neg Bool.false_ne_true]; exact ⟨W1, env, G1, rfl, A1, h1⟩
theorem ss_asg {tg : Expr} (he : SX kt B X p .s e d) (hg : SG kt B X sl tg g) (hs : swapsWithSole [tg] e pos.line X.env = pure false := by rfl) (hw : swappedStores [tg] e X.env = pure none := by rfl) (h1 : (assignEach [tg] X.env).map (·.2) = [assign tg X.env] := by rfl) :
    SS kt B X (.Assign [tg] e pos) (dAsg d g) := fun Wish tk => (ps_asg (he Wish tk) hg hs hw h1).imp fun D σ H ⟨W, env, G, e, A, h⟩ => by
  subst e
  refine ⟨W, env, G, rfl, A, h.bindS.mono ?_⟩
  rintro v H1 ⟨W1, x, G1, rfl, e1, A1, z1, h1⟩
  cases eg : g env x with
  | none => rw [eg] at h1; exact h1.elim
  | some e' =>
    rw [eg] at h1
    exact ⟨W1, env, G1, x, e', rfl, A1, z1.strict, eg, fun σ' hset hw => h1 W1 σ' ExtR.refl (hset W1 G1 Ext.refl A1)⟩
/-- name = e -/
theorem ss_set (i : Nat) {x : Str} {pos' : Pos} (hN : X.N.Nodup) (he : SX kt B X p .s e d) (hi : X.N[i]? = some x := by rfl) (hx : Loc X.env.scope x := by first | exact Or.inl rfl | exact Or.inr rfl) (hs : swapsWith e (some (.Name x pos')) pos.line X.env = pure false := by rfl)
    (hf : X.fn x = true ∨ X.env.scope.names.lookup x = some .local := by first | exact .inl rfl | exact .inr rfl) : SS kt B X (.Assign [.Name x pos'] e pos) (dAsg d (gSet i)) := fun Wish tk => (ps_set hN hi hx (he Wish tk) hs hf).imp fun D σ H ⟨W, env, G, e, A, h⟩ => by
  subst e
  refine ⟨W, env, G, rfl, A, h.bindS.mono ?_⟩
  rintro v H1 ⟨W1, x, G1, rfl, e1, A1, z1, h1⟩
  exact h1 W1 _ ExtR.refl (A1.set z1.strict)
theorem for_core {W : Wd} {Wish : WX} {σ : L2.St} {env : LEnv} {G : Gst} {D : Ends} {xs : List Vl} {J : It} {Gd : Hp → Prop} {Y : Nat → Hp → V → Hp → Prop} {db : DS} (A : RAll kt B W σ env G) (h : PoS kt B W Wish (forL g db xs env G) D) (wk : Walk J xs.length Gd Y) (yl : Yl kt W xs Gd Y) :
    ∃ W' : Nat → Nat → L2.St → Hp → Prop, (∃ m, W' 0 m σ W.H) ∧ ∀ i m σ H, W' i m σ H →
      (J.stop i H ∧ D.nx σ H) ∨ (J.go i H ∧ ∃ N : L2.St → Hp → Prop, (∀ σ' H', N σ' H' → ∃ m', m' < m ∧ W' (i + 1) m' σ' H') ∧ ∀ x H', J.yld i H x H' → rdG kt B sl g x σ H' fun σ2 H2 => rdS kt B Wish db { D with nx := N, ct := N, bk := D.nx } σ2 H2) := by
  refine for_it wk (fun i σ H => ∃ Wi ei Gi, Wi.H = H ∧ ExtS W Wi ∧ RAll kt B Wi σ ei Gi ∧ PoS kt B Wi Wish (forL g db (xs.drop i) ei Gi) D) ?_ ?_ ?_ ?_
  · exact ⟨W, env, G, rfl, ExtR.refl, A, h⟩
  · rintro i σ H hi ⟨Wi, ei, Gi, rfl, e, _⟩
    exact yl.gd Wi e
  · rintro i x σ H H' hi ⟨Wi, ei, Gi, eH, e, Ai, hi'⟩ y
    obtain ⟨y0, hy0, hrep⟩ := yl.yl i H x H' hi y Wi e eH
    have hW2 : ∃ W2, W2.H = H' ∧ Ext true Wi W2 ∧ RAll kt B W2 σ ei Gi ∧ Rep kt.K W2 y0 x := by
      rcases hrep with ⟨e, r⟩ | ⟨T, us, e, hT, e2, r⟩
      · exact ⟨Wi, by rw [e]; exact eH, Ext.refl, Ai, r⟩
      · have hT' : Wi.H T = none := by rw [eH]; exact hT
        exact ⟨Wi.alloc T (.tup us) .no, by rw [e2, ← eH]; rfl, Ext.alloc hT', Ai.alloc hT' rfl rfl, r⟩
    obtain ⟨W2, rfl, e2, A2, rep⟩ := hW2
    have e02 : ExtS W W2 := e.trans e2.toS
    have hdrop : xs.drop i = y0 :: xs.drop (i + 1) := by
      obtain ⟨h1, h2⟩ := List.getElem?_eq_some_iff.mp hy0
      rw [List.drop_eq_getElem_cons h1, h2]
    rw [hdrop] at hi'
    unfold forL at hi'
    cases eg : g ei y0 with
    | none => rw [eg] at hi'; exact hi'.elim
    | some e' =>
      rw [eg] at hi'
      dsimp only at hi'
      refine ⟨W2, ei, Gi, y0, e', rfl, A2, rep, eg, fun σ' hset hw => ⟨W2, e', Gi, rfl, hset W2 Gi Ext.refl A2, ?_⟩⟩
      cases qb : db e' Gi with
      | bad => rw [qb] at hi'; exact hi'.elim
      | nx e3 G3 =>
        rw [qb] at hi'
        exact fun W3 σ3 e23 A3 => ⟨W3, e3, G3, rfl, e02.trans e23, A3, (PoS.shift hi' e2).shiftS e23⟩
      | ct e3 G3 =>
        rw [qb] at hi'
        exact fun W3 σ3 e23 A3 => ⟨W3, e3, G3, rfl, e02.trans e23, A3, (PoS.shift hi' e2).shiftS e23⟩
      | bk e3 G3 =>
        rw [qb] at hi'
        exact fun W3 σ3 e23 A3 => hi' W3 σ3 (e2.toS.trans e23) A3
      | rt v3 G3 =>
        rw [qb] at hi'
        exact fun W3 w e23 A3 => hi' W3 w (e2.toS.trans e23) A3
      | ex c e3 G3 =>
        rw [qb] at hi'
        exact fun W3 σ3 od e23 A3 => hi' W3 σ3 od (e2.toS.trans e23) A3
  · rintro σ H ⟨Wi, ei, Gi, rfl, e, Ai, hi'⟩
    rw [List.drop_length] at hi'
    exact hi' Wi σ ExtR.refl Ai
theorem ss_for {tg iter : Expr} {db : DS} (hp : PassesOwn (model X.prog X.w) X.A X.env X.xe) (hc : X.calm = true) (hi : SI kt B X p tg iter di) (hg : SG kt B X sl tg g) (hb : SSs kt B X body db) (hs : ∀ x, foldedSetIterable iter X.env x = pure x := by intro _; rfl) :
    SS kt B X (.For tg iter body [] pos) (dFor di g db) := fun Wish tk => by
  obtain ⟨wi, hwi, him⟩ := hi Wish tk
  refine (ps_for hp hc hwi hg (hb Wish tk) hs).imp fun D σ H ⟨W, env, G, e, A, h⟩ => ?_
  subst e
  refine him _ _ _ ⟨W, env, G, rfl, A, ?_⟩
  unfold dFor at h
  cases q : di env G with
  | bad => rw [q] at h; exact h
  | exn c G' => rw [q] at h; exact fun W' od e A z => h W' σ od e.toS A z
  | ok xs G1 =>
    rw [q, sb_ok] at h
    intro W1 e1 A1 J Gd Y wk yl
    exact for_core A1 (h.shift e1) wk yl
theorem ss_while {c : Expr} {db : DS} (n : Nat) (hp : PassesOwn (model X.prog X.w) X.A X.env X.xe) (hc : ST kt B X p c t) (hb : SSs kt B X body db) : SS kt B X (.While c body [] pos) (dWhile n t db) := fun Wish tk => (ps_while hp (hc Wish tk) (hb Wish tk)).imp fun D σ H ⟨W, env, G, e, A, h⟩ => by
  subst e
  refine ⟨fun m σ H => ∃ Wi ei Gi, Wi.H = H ∧ RAll kt B Wi σ ei Gi ∧ PoS kt B Wi Wish (whileL t db m ei Gi) D, ⟨n, W, env, G, rfl, A, h⟩, ?_⟩
  rintro m σ H ⟨Wi, ei, Gi, rfl, Ai, hi⟩
  cases m with
  | zero => exact hi.elim
  | succ m =>
    refine ⟨Wi, ei, Gi, rfl, Ai, (PoS.bindS hi).mono ?_⟩
    rintro b H1 ⟨W1, x, G1, rfl, e1, A1, z1, h1⟩
    obtain rfl : x = b := z1
    cases x with
    | false => rw [if_neg Bool.false_ne_true]; exact h1 W1 σ ExtR.refl A1
    | true =>
      rw [if_pos rfl]
      refine ⟨fun σ H => ∃ Wi ei Gi, Wi.H = H ∧ RAll kt B Wi σ ei Gi ∧ PoS kt B Wi Wish (whileL t db m ei Gi) D, fun σ' H' x => ⟨m, Nat.lt_succ_self _, x⟩, W1, ei, G1, rfl, A1, ?_⟩
      dsimp only at h1
      cases qb : db ei G1 with
      | bad => rw [qb] at h1; exact h1.elim
      | nx e3 G3 => rw [qb] at h1; exact fun W3 σ3 e23 A3 => ⟨W3, e3, G3, rfl, A3, PoS.shiftS h1 e23⟩
      | ct e3 G3 => rw [qb] at h1; exact fun W3 σ3 e23 A3 => ⟨W3, e3, G3, rfl, A3, PoS.shiftS h1 e23⟩
      | bk e3 G3 => rw [qb] at h1; exact h1
      | rt v3 G3 => rw [qb] at h1; exact h1
      | ex c e3 G3 => rw [qb] at h1; exact h1
end

/-! ### raise -/
abbrev DX := LEnv → Gst → CardH.R Ex
def SMk (kt : Kt) (B : Bs) (X : Cx) (e : Expr) (d : DX) : Prop := ∀ Wish, Takes X Wish → ∃ t, PMk X e t ∧ ∀ σ H Q, (∃ W env G, W.H = H ∧ RAll kt B W σ env G ∧ (match d env G with
    | .bad => False
    | .exn c G' => ∀ W' od, Ext false W W' → RAll kt B W' σ env G' → ExOk c od W'.H → Wish (kt.exc c.cls) od σ W'.H
    | .ok c G' => ∀ W' od, Ext false W W' → RAll kt B W' σ env G' → ExOk c od W'.H → Q (kt.exc c.cls) od W'.H)) → t σ H Q
def dRaise (d : DX) : DS := fun e G => sb e (d e G) fun c G1 => .ex c e G1
def dxC (c : Nat) : DX := fun _ G => .ok { cls := c } G
def dxE (c : Nat) (d : DE) : DX := fun e G => (d e G).bind fun _ G1 => .ok { cls := c } G1
section
variable {kt : Kt} {B : Bs} {X : Cx} {p : Bool} {m : Md} {e : Expr} {d : DE} {pos : Pos} {dx : DX}
theorem ss_raise (hc : X.calm = true) (h : SMk kt B X e dx) : SS kt B X (.Raise (some e) none pos) (dRaise dx) := fun Wish tk => by
  obtain ⟨t, ht, hi⟩ := h Wish tk
  refine (ps_raise hc tk ht).imp fun D σ H ⟨W, env, G, e, A, h⟩ => hi _ _ _ ⟨W, env, G, e, A, ?_⟩
  unfold dRaise at h
  cases q : dx env G with
  | bad => rw [q] at h; exact h
  | exn c G' => rw [q] at h; exact fun W' od e A z => h W' σ od e.toS A z
  | ok c G' => rw [q] at h; exact fun W' od e A z => h W' σ od e.toS A z
/-- an own class of the text, of a text -/
structure ExcCls (kt : Kt) (X : Cx) (c : Nat) (x : Str) : Prop where
  ex : ∃ (C : Addr) (bmB : List Value) (Bn newId initId : String), ExcBaseFacts Bn newId initId bmB ∧ PySem.W.excIn X.K C bmB newId = true ∧ X.mg x = some (.ref C) ∧ PySem.W.keepIn X.K (.ref C) = true ∧ Raises X (.ref C) ∧ kt.exc c = .ref C
theorem smk_own (c : Nat) {x : Str} {ms : Str} {j : Nat} {np p2 : Pos} (F : ExcCls kt X c x) (hg : Gl X x := by rfl) (hdb : (x == ("__debug__" : Str)) = false := by decide) : SMk kt B X (.Call (.Name x np) [.Constant (.str ms) j p2] [] pos) (dxC c) := fun Wish tk => by
  obtain ⟨C, bmB, Bn, newId, initId, F, q, gC, kC, r, ec⟩ := F.ex
  refine ⟨_, pmk_own F q gC kC r hg hdb, fun σ H Q ⟨W, env, G, e, A, h⟩ => ?_⟩
  subst e
  have h := h W none Ext.refl A trivial
  rw [show kt.exc ({ cls := c } : Ex).cls = .ref C from ec] at h
  exact h
theorem smk_own1 (c : Nat) {x : Str} {np : Pos} (F : ExcCls kt X c x) (he : SX kt B X p m e d) (hg : Gl X x := by rfl) (hs : starEach [e] X.env = (false, eval e X.env) :: starEach [] X.env := by rfl) (hdb : (x == ("__debug__" : Str)) = false := by decide) :
    SMk kt B X (.Call (.Name x np) [e] [] pos) (dxE c d) := fun Wish tk => by
  obtain ⟨C, bmB, Bn, newId, initId, F, q, gC, kC, r, ec⟩ := F.ex
  refine ⟨_, SkE.pmk_own1 F q gC kC r hg (he Wish tk) hs hdb, fun σ H Q ⟨W, env, G, e, A, h⟩ => ?_⟩
  subst e
  refine ⟨W, env, G, rfl, A, ?_⟩
  unfold dxE at h
  cases q : d env G with
  | bad => rw [q] at h; exact h
  | exn c G' => rw [q] at h; exact fun W' od e A z => h W' od e.fls A z
  | ok x G' =>
    rw [q] at h
    intro W' v e' A' z
    have h := h W' none e'.fls A' trivial
    rw [show kt.exc ({ cls := c } : Ex).cls = .ref C from ec] at h
    exact h
end
end CardH
end
section
set_option maxHeartbeats 2000000
namespace CardH
open PySem PySem.Spec PyProof.Rows L2

/-! ### what is written in place -/
def Wd.wr (W : Wd) (a : Addr) (o : HO) : Wd := ⟨W.Γ, W.ρ, upd W.H a o⟩
def okW : HO → Bool
  | .lst _ => true
  | .ins _ _ _ => true
  | .dK _ => true
  | .dT _ => true
  | _ => false
section
variable {kt : Kt} {B : Bs} {W W' : Wd} {σ : L2.St} {env : LEnv} {G : Gst} {a : Addr} {o o0 : HO} {i j : Nat} {r : Role} {p : Bool}
theorem Ext.wr (hs : (W.Γ a).still = false) (h : W.H a = some o0) (hw : okW o0 = true) : Ext false W (W.wr a o) where
  role := fun _ _ => rfl
  keep := fun b u hb nt hp => (upd_ne (fun e => by
    rcases hp with hp | hp
    · cases hp
    · rw [e, hs] at hp; cases hp)).trans hb
  tups := fun b xs hb => (upd_ne (fun e => by rw [e, h] at hb; cases hb; cases hw)).trans hb
  there := fun b hb => by
    show upd W.H a o b ≠ none
    by_cases e : b = a
    · rw [e, upd_same]; simp
    · rw [upd_ne e]; exact hb
  pre := ⟨[], by simp [Wd.wr]⟩
theorem FvRep.but {K : PySem.W.Frag} (e : Ext false W W') (hk : ∀ b, W.Γ b = r → W.H b ≠ none → W'.H b = W.H b) : ∀ (x : Fv) (v : V), FvRep K W r x v → FvRep K W' r x v
  | .val x, v, h => Rep.ext e x v h
  | .ol xs, v, h => by
    obtain ⟨b, vs, e1, g, h1, h2⟩ := h
    exact ⟨b, vs, e1, (e.role b (by rw [h1]; simp)).trans g, (hk b g (by rw [h1]; simp)).trans h1, Reps.ext e _ _ h2⟩
  | .od false kvs, v, h => by
    obtain ⟨b, ks, e1, g, h1, h2⟩ := h
    refine ⟨b, ks, e1, (e.role b (rd_some h1)).trans g, ?_, RepK.ext e _ _ h2⟩
    unfold Rd at h1 ⊢
    rw [hk b g (rd_some h1)]; exact h1
  | .od true kvs, v, h => by
    obtain ⟨b, ks, e1, g, h1, h2⟩ := h
    refine ⟨b, ks, e1, (e.role b (rd_some h1)).trans g, ?_, RepT.ext e _ _ h2⟩
    unfold Rd at h1 ⊢
    rw [hk b g (rd_some h1)]; exact h1
theorem FldsRep.but (e : Ext false W W') (hk : ∀ b f, W.Γ b = .fld i f → W.H b ≠ none → W'.H b = W.H b) : ∀ (fs : List (Nat × Fv)) (fv : List (Str × V)), FldsRep kt W i fs fv → FldsRep kt W' i fs fv
  | [], _, h => h
  | (f, x) :: fs, fv, h => by
    obtain ⟨nm, v, r, h0, e1, h1, h2⟩ := h
    exact ⟨nm, v, r, h0, e1, FvRep.but e (fun b g => hk b f g) _ _ h1, FldsRep.but e hk fs r h2⟩
/-- the j-th object, or what one of its fields owns, is written -/
theorem RG.wr {ob' : Ob} (h : RG kt W G) (e : Ext false W W') (hr : W'.ρ = W.ρ) (hk : ∀ b (_ : Nat), b ≠ a → W.H b ≠ none → W'.H b = W.H b) (ha : ∀ i, W.Γ a = .obj i ∨ (∃ f, W.Γ a = .fld i f) → i = j) (hb : ∀ b, W.ρ[j]? = some b → ObRep kt W' j b ob') : RG kt W' (G.set j ob') := by
  refine ⟨by rw [hr, List.length_set]; exact h.len, fun i o hi => ?_⟩
  by_cases eij : j = i
  · subst eij
    by_cases hj : j < G.length
    · rw [List.getElem?_set_self hj] at hi
      cases hi
      obtain ⟨b, h1, h2, h3⟩ := h.ob j _ (List.getElem?_eq_getElem hj)
      refine ⟨b, by rw [hr]; exact h1, ?_, hb b h1⟩
      refine (e.role b ?_).trans h2
      generalize G[j] = o3 at h3
      cases o3 with
      | lst xs => obtain ⟨vs, q, _⟩ := h3; rw [q]; simp
      | ins C fs => obtain ⟨dx, fv, q, _⟩ := h3; rw [q]; simp
    · rw [List.getElem?_eq_none (by simpa using hj)] at hi; cases hi
  · rw [List.getElem?_set_ne eij] at hi
    obtain ⟨b, h1, h2, h3⟩ := h.ob i o hi
    have hba : b ≠ a := fun z => eij (ha i (.inl (by rw [← z]; exact h2))).symm
    have hbn : W.H b ≠ none := by
      cases o with
      | lst xs => obtain ⟨vs, q, _⟩ := h3; rw [q]; simp
      | ins C fs => obtain ⟨dx, fv, q, _⟩ := h3; rw [q]; simp
    refine ⟨b, by rw [hr]; exact h1, (e.role b hbn).trans h2, ?_⟩
    cases o with
    | lst xs =>
      obtain ⟨vs, q, z⟩ := h3
      exact ⟨vs, (hk b i hba hbn).trans q, Reps.ext e _ _ z⟩
    | ins C fs =>
      obtain ⟨dx, fv, q, z, k⟩ := h3
      refine ⟨dx, fv, (hk b i hba hbn).trans q, FldsRep.but e (fun c f g hc => hk c i (fun z => ?_) hc) _ _ z, k⟩
      exact eij (ha i (.inr ⟨f, by rw [← z]; exact g⟩)).symm
theorem RAll.wr {ob' : Ob} (A : RAll kt B W σ env G) (hp : B.p = false) (h : W.H a = some o0) (hw : okW o0 = true) (hw' : okW o = true) (ha : W.Γ a = .obj j ∨ ∃ f, W.Γ a = .fld j f) (hb : ∀ b, W.ρ[j]? = some b → ObRep kt (W.wr a o) j b ob') :
    RAll kt B (W.wr a o) σ env (G.set j ob') := by
  have hs : (W.Γ a).still = false := by rcases ha with ha | ⟨f, ha⟩ <;> rw [ha] <;> rfl
  have e : Ext false W (W.wr a o) := Ext.wr hs h hw
  refine ⟨⟨fun b hb' => ?_, RG.wr A.ok.rg e rfl (fun b i hba hbn => upd_ne hba) (fun i hi => ?_) hb, ?_, fun b ps q => ?_⟩, A.re.ext e, ?_, fun z b u x q => ?_⟩
  · exact e.there b (A.ok.tr b hb')
  · rcases ha with ha | ⟨f, ha⟩ <;> rcases hi with hi | ⟨f', hi⟩ <;> rw [ha] at hi <;> cases hi <;> rfl
  · refine tabs_but A.ok.tabs fun b u q k => (upd_ne (fun z => ?_)).trans q
    rw [z, h] at q; cases q
    rcases k with ⟨_, k⟩ | ⟨_, k⟩ <;> rw [k] at hw <;> cases hw
  · have q : upd W.H a o b = some (.tbl ps) := q
    by_cases z : b = a
    · rw [z, upd_same] at q; cases q; cases hw'
    · rw [upd_ne z] at q; exact A.ok.tb b ps q
  · exact (A.si.trans e).mono fun z => by rw [hp] at z; cases z
  · have q : upd W.H a o b = some (.frz u x) := q
    by_cases k : b = a
    · rw [k, upd_same] at q; cases q; cases hw'
    · rw [upd_ne k] at q
      exact A.nl z b u x q
end
/-! ### o[i] = v, o a list of the store -/
def dSetO (dv do_ di : DE) : DS := fun e G => sb e (dv e G) fun v G1 => sb e (do_ e G1) fun x G2 => sb e (di e G2) fun y G3 => match x, y with
  | .ref j, .int k => match G3[j]? with
    | some (.lst xs) => match ixN xs.length k with
      | some n => .nx e (G3.set j (.lst (xs.set n v)))
      | none => .bad
    | _ => .bad
  | _, _ => .bad
section
variable {kt : Kt} {B : Bs} {X : Cx} {p pa pb pc : Bool} {m ma mb mc : Md} {a b e : Expr} {es : List Expr} {da db d dv : DE} {ds : DA} {pos pos' np : Pos}
theorem ss_setO (hp : B.p = false) (hv : SX kt B X pa .s e dv) (ho : SX kt B X pb .s a da) (hi : SX kt B X pc .s b db) (hs : swapsWithSole [.Subscript a b pos'] e pos.line X.env = pure false := by rfl) (hw : swappedStores [.Subscript a b pos'] e X.env = pure none := by rfl)
    (h1 : (assignEach [.Subscript a b pos'] X.env).map (·.2) = [assign (.Subscript a b pos') X.env] := by rfl)
    (ha : ∀ v, assign (.Subscript a b pos') X.env v = (do
      let ov ← holding [v] (eval a X.env)
      let iv ← holding [v, ov] (eval b X.env)
      standAt pos'
      holding [v, ov, iv] (setItem ov iv v)
      release [v, ov, iv] []) := by intro _; rfl) : SS kt B X (.Assign [.Subscript a b pos'] e pos) (dSetO dv da db) := fun Wish tk => by
  refine (ps_asg (hv Wish tk) (pg_sub (ho Wish tk) (hi Wish tk) set_list ha) hs hw h1).imp fun D σ H ⟨W, env, G, e, A, h⟩ => ?_
  subst e
  refine ⟨W, env, G, rfl, A, h.bindS.mono ?_⟩
  rintro v H1 ⟨W1, x, G1, rfl, e1, A1, z1, h1⟩
  refine ⟨W1, env, G1, rfl, A1, h1.bindS.mono ?_⟩
  rintro u H2 ⟨W2, y, G2, rfl, e2, A2, z2, h2⟩
  refine ⟨W2, env, G2, rfl, A2, h2.bindS.mono ?_⟩
  rintro w H3 ⟨W3, z, G3, rfl, e3, A3, z3, h3⟩
  split at h3
  · rename_i j k
    split at h3
    · rename_i xs eg
      split at h3
      · rename_i n en
        obtain ⟨a', rfl, ha'⟩ := (z2.ext (m := .s) e3 (.inr (fun z => by cases z))).ref
        obtain rfl := z3.int
        obtain ⟨a2, q1, q2, vs, q3, r⟩ := A3.ok.rg.ob _ _ eg
        rw [ha'] at q1; cases q1
        have rv : Rep kt.K W3 x v := (z1.strict.ext e2).ext e3
        refine ⟨a', vs, k, n, rfl, rfl, q3, by rw [← r.length]; exact en, ?_⟩
        have e4 : Ext false W3 (W3.wr a' (.lst (vs.set n v))) := Ext.wr (by rw [q2]; rfl) q3 rfl
        refine h3 (W3.wr a' (.lst (vs.set n v))) σ e4.toS (A3.wr hp q3 rfl rfl (.inl q2) fun b hb => ?_)
        rw [ha'] at hb; cases hb
        exact ⟨_, upd_same, (Reps.ext e4 _ _ r).set n (rv.ext e4)⟩
      · exact h3.elim
    · exact h3.elim
  · exact h3.elim
end

/-! ### fields -/
def dFld (f : Nat) (da : DE) : DE := fun env G => (da env G).bind fun x G1 => match x with
  | .ref i => match G1[i]? with
    | some (.ins _ fs) => match fs.lookup f with
      | some (.val y) => .ok y G1
      | _ => .bad
    | _ => .bad
  | _ => .bad
def dFldP (f : Nat) (da : DE) : DE := fun env G => (da env G).bind fun x G1 => match x with
  | .ref i => match G1[i]? with
    | some (.ins _ fs) => match fs.lookup f with
      | some y => .ok y.toVl G1
      | _ => .bad
    | _ => .bad
  | _ => .bad
def putN (f : Nat) (x : Fv) : List (Nat × Fv) → List (Nat × Fv)
  | [] => [(f, x)]
  | (g, y) :: r => if g = f then (g, x) :: r else (g, y) :: putN f x r
def dSetF (C0 f : Nat) (dv do_ : DE) : DS := fun e G => sb e (dv e G) fun v G1 => sb e (do_ e G1) fun x G2 => match x with
  | .ref i => match G2[i]? with
    | some (.ins C fs) => if C = C0 ∧ fs.length < 1000 then .nx e (G2.set i (.ins C (putN f (.val v) fs))) else .bad
    | _ => .bad
  | _ => .bad
/-- o.f op= v -/
def dAugF (C0 f : Nat) (o : Vl → Vl → Option Vl) (do_ dv : DE) : DS := fun e G => sb e (do_ e G) fun x G1 => match x with
  | .ref i => match G1[i]? with
    | some (.ins C1 fs) => match (if C1 = C0 then fs.lookup f else none) with
      | some (.val y) => sb e (dv e G1) fun v G2 => match o y v with
        | some z => match G2[i]? with
          | some (.ins C fs') => if C = C0 ∧ fs'.length < 1000 then .nx e (G2.set i (.ins C (putN f (.val z) fs'))) else .bad
          | _ => .bad
        | none => .bad
      | _ => .bad
    | _ => .bad
  | _ => .bad
theorem names_inj {l : List Str} (h : l.Nodup) {i j : Nat} {x : Str} (hi : l[i]? = some x) (hj : l[j]? = some x) : i = j := nodup_ix h hi hj
section
variable {kt : Kt} {B : Bs} {X : Cx} {W : Wd} {i : Nat}
theorem FldsRep.lookup (hn : kt.names.Nodup) {f : Nat} {nm : Str} (ef : kt.names[f]? = some nm) : ∀ {fs : List (Nat × Fv)} {fv : List (Str × V)} {x : Fv}, FldsRep kt W i fs fv → fs.lookup f = some x → ∃ v, fv.lookup nm = some v ∧ FvRep kt.K W (.fld i f) x v
  | [], _, _, _, h => by cases h
  | (g, y) :: fs, fv, x, h, e => by
    obtain ⟨nm', v, r, h0, rfl, h1, h2⟩ := h
    rw [List.lookup_cons] at e
    by_cases c : f = g
    · subst c
      rw [h0] at ef; cases ef
      rw [beq_self_eq_true] at e
      cases e
      exact ⟨v, by rw [List.lookup_cons, beq_self_eq_true], h1⟩
    · rw [show (f == g) = false from beq_eq_false_iff_ne.mpr c] at e
      obtain ⟨w, q1, q2⟩ := FldsRep.lookup hn ef h2 e
      refine ⟨w, ?_, q2⟩
      rw [List.lookup_cons, show (nm == nm') = false from beq_eq_false_iff_ne.mpr fun z => c (names_inj hn ef (by rw [z]; exact h0))]
      exact q1
theorem FldsRep.noneS {m : Str} : ∀ {fs : List (Nat × Fv)} {fv : List (Str × V)}, FldsRep kt W i fs fv → (∀ f nm, f ∈ fs.map (·.1) → kt.names[f]? = some nm → nm ≠ m) → fv.lookup m = Option.none
  | [], _, h, _ => by cases h; rfl
  | (g, y) :: fs, fv, h, k => by
    obtain ⟨nm', v, r, h0, rfl, h1, h2⟩ := h
    rw [List.lookup_cons, show (m == nm') = false from beq_eq_false_iff_ne.mpr fun z => k g nm' (by simp) h0 z.symm]
    exact FldsRep.noneS h2 fun f nm hf => k f nm (by simp only [List.map_cons, List.mem_cons]; exact .inr hf)
theorem FldsRep.put (hn : kt.names.Nodup) {f : Nat} {nm : Str} (ef : kt.names[f]? = some nm) {x : Fv} {v : V} (hx : FvRep kt.K W (.fld i f) x v) : ∀ {fs : List (Nat × Fv)} {fv : List (Str × V)}, FldsRep kt W i fs fv → FldsRep kt W i (putN f x fs) (putF nm v fv)
  | [], _, h => by cases h; exact ⟨nm, v, [], ef, rfl, hx, rfl⟩
  | (g, y) :: fs, fv, h => by
    obtain ⟨nm', u, r, h0, rfl, h1, h2⟩ := h
    unfold putN putF
    by_cases c : g = f
    · subst c
      rw [h0] at ef; cases ef
      rw [if_pos rfl, if_pos rfl]
      exact ⟨_, v, r, h0, rfl, hx, h2⟩
    · rw [if_neg c, if_neg fun z => c (names_inj hn h0 (by rw [z]; exact ef))]
      exact ⟨nm', u, _, h0, rfl, h1, FldsRep.put hn ef hx h2⟩
theorem FldsRep.length : ∀ {fs : List (Nat × Fv)} {fv : List (Str × V)}, FldsRep kt W i fs fv → fs.length = fv.length
  | [], _, h => by cases h; rfl
  | (g, y) :: fs, fv, h => by
    obtain ⟨nm', u, r, h0, rfl, h1, h2⟩ := h
    simp [FldsRep.length h2]
theorem putN_mem {f : Nat} {x : Fv} {g : Nat} : ∀ {fs : List (Nat × Fv)}, g ∈ (putN f x fs).map (·.1) → g = f ∨ g ∈ fs.map (·.1)
  | [], h => by simp [putN] at h; exact .inl h
  | (k, y) :: fs, h => by
    unfold putN at h
    split at h
    · exact .inr h
    · simp only [List.map_cons, List.mem_cons] at h ⊢
      rcases h with h | h
      · exact .inr (.inl h)
      · rcases putN_mem h with h | h
        · exact .inl h
        · exact .inr (.inr h)
theorem FldsOk.put {C f : Nat} {nm : Str} {x : Fv} {fs : List (Nat × Fv)} (h : FldsOk kt C fs) (ef : kt.names[f]? = some nm) (hn : NoAttr kt.K (kt.cls C) nm) : FldsOk kt C (putN f x fs) := by
  refine ⟨h.1, fun g nm' hg eg => ?_⟩
  rcases putN_mem hg with e | hg
  · subst e
    rw [ef] at eg; cases eg; exact hn
  · exact h.2 g nm' hg eg
theorem lookup_mem {f : Nat} {x : Fv} : ∀ {fs : List (Nat × Fv)}, fs.lookup f = some x → f ∈ fs.map (·.1)
  | [], h => by cases h
  | (g, y) :: fs, h => by
    rw [List.lookup_cons] at h
    by_cases c : f = g
    · subst c; simp
    · rw [show (f == g) = false from beq_eq_false_iff_ne.mpr c] at h
      simp only [List.map_cons, List.mem_cons]
      exact .inr (lookup_mem h)
variable {p pa pb pc : Bool} {m ma mb mc : Md} {a b e : Expr} {es : List Expr} {da db d dv : DE} {ds : DA} {pos pos' np tpos : Pos} {nm : Str}
theorem sx_fld (f : Nat) (hn : kt.names.Nodup) (ha : SX kt B X p .s a da) (ef : kt.names[f]? = some nm := by rfl) (hb : attributeBase a nm X.env (eval a X.env) = eval a X.env := by rfl) (hK : X.K = kt.K := by rfl) : SX kt B X p .s (.Attribute a nm pos) (dFld f da) := fun Wish tk => by
  refine (pe_fld (ha Wish tk) hb).imp fun σ H Q ⟨W, env, G, e, A, h⟩ => ?_
  subst e
  refine ⟨W, env, G, rfl, A, h.bindL.mono ?_⟩
  rintro v H1 ⟨W1, x, G1, rfl, e1, A1, z1, h1⟩
  cases x with
  | ref i =>
    dsimp only at h1
    split at h1
    · rename_i C fs eg
      split at h1
      · rename_i y ey
        obtain ⟨a', rfl, ha'⟩ := z1.ref
        obtain ⟨a2, q1, q2, dx, fv, q3, r, k⟩ := A1.ok.rg.ob _ _ eg
        rw [ha'] at q1; cases q1
        obtain ⟨v, l, fr⟩ := r.lookup hn ef ey
        rw [hK]
        exact ⟨a', kt.cls C, dx, fv, v, rfl, q3, k.1, k.2 f nm (lookup_mem ey) ef, l, h1 W1 v Ext.refl A1 (.inl fr)⟩
      · exact h1.elim
    · exact h1.elim
  | _ => exact h1.elim
theorem sx_fldP (f : Nat) (hn : kt.names.Nodup) (ha : SX kt B X p .s a da) (ef : kt.names[f]? = some nm := by rfl) (hb : attributeBase a nm X.env (eval a X.env) = eval a X.env := by rfl) (hK : X.K = kt.K := by rfl) : SX kt B X p .f (.Attribute a nm pos) (dFldP f da) := fun Wish tk => by
  refine (pe_fld (ha Wish tk) hb).imp fun σ H Q ⟨W, env, G, e, A, h⟩ => ?_
  subst e
  refine ⟨W, env, G, rfl, A, h.bindL.mono ?_⟩
  rintro v H1 ⟨W1, x, G1, rfl, e1, A1, z1, h1⟩
  cases x with
  | ref i =>
    dsimp only at h1
    split at h1
    · rename_i C fs eg
      split at h1
      · rename_i y ey
        obtain ⟨a', rfl, ha'⟩ := z1.ref
        obtain ⟨a2, q1, q2, dx, fv, q3, r, k⟩ := A1.ok.rg.ob _ _ eg
        rw [ha'] at q1; cases q1
        obtain ⟨v, l, fr⟩ := r.lookup hn ef ey
        rw [hK]
        exact ⟨a', kt.cls C, dx, fv, v, rfl, q3, k.1, k.2 f nm (lookup_mem ey) ef, l, h1 W1 v Ext.refl A1 (.inr ⟨_, y, rfl, rfl, fr⟩)⟩
      · exact h1.elim
    · exact h1.elim
  | _ => exact h1.elim
/-- o.f = v -/
theorem ss_setF (C0 f : Nat) (hn : kt.names.Nodup) (hp : B.p = false) (no : NoAttr kt.K (kt.cls C0) nm) (hv : SX kt B X pa .s e dv) (ho : SX kt B X pb .s a da)
    (ef : kt.names[f]? = some nm := by rfl) (hs : swapsWith e (some (.Attribute a nm pos')) pos.line X.env = pure false := by rfl) (hK : X.K = kt.K := by rfl) : SS kt B X (.Assign [.Attribute a nm pos'] e pos) (dSetF C0 f dv da) := fun Wish tk => by
  refine (ps_fld (ho Wish tk) (hv Wish tk) hs).imp fun D σ H ⟨W, env, G, e, A, h⟩ => ?_
  subst e
  refine ⟨W, env, G, rfl, A, h.bindS.mono ?_⟩
  rintro v H1 ⟨W1, x, G1, rfl, e1, A1, z1, h1⟩
  refine ⟨W1, env, G1, rfl, A1, h1.bindS.mono ?_⟩
  rintro u H2 ⟨W2, y, G2, rfl, e2, A2, z2, h2⟩
  cases y with
  | ref i =>
    dsimp only at h2
    split at h2
    · rename_i C fs eg
      split at h2
      · rename_i hl
        obtain ⟨rfl, hl⟩ := hl
        obtain ⟨a', rfl, ha'⟩ := z2.ref
        obtain ⟨a2, q1, q2, dx, fv, q3, r, k⟩ := A2.ok.rg.ob _ _ eg
        rw [ha'] at q1; cases q1
        rw [hK]
        refine ⟨a', kt.cls C, dx, fv, rfl, q3, k.1, no, by rw [← r.length]; exact hl, ?_⟩
        have e4 : Ext false W2 (W2.wr a' (.ins (kt.cls C) dx (putF nm v fv))) := Ext.wr (by rw [q2]; rfl) q3 rfl
        refine h2 (W2.wr a' (.ins (kt.cls C) dx (putF nm v fv))) σ e4.toS (A2.wr hp q3 rfl rfl (.inl q2) fun b hb => ?_)
        rw [ha'] at hb; cases hb
        refine ⟨dx, _, upd_same, FldsRep.put hn ef (x := .val x) (Rep.ext e4 _ _ (z1.strict.ext e2)) (FldsRep.but e4 (fun b f g _ => upd_ne fun z => ?_) _ _ r), k.put ef no⟩
        rw [z, q2] at g; cases g
      · exact h2.elim
    · exact h2.elim
  | _ => exact h2.elim
/-- an augmented operator -/
def InS (kt : Kt) (X : Cx) (op : Operator) (o : Vl → Vl → Option Vl) : Prop :=
  ∃ r : R2, OpR X (inplaceOp op) r ∧ ∀ (B : Bs) (σ : L2.St) (env : LEnv) (G : Gst) (W : Wd) (x y : Vl) (v u : V) (z : Vl) (Q : VK), RAll kt B W σ env G → Pk kt.K W .f x v → Pk kt.K W .f y u → o x y = some z →
    (∀ W' w, Ext true W W' → RAll kt B W' σ env G → Rep kt.K W' z w → Q w W'.H) → r v u W.H Q
theorem ss_augF {op : Operator} {o : Vl → Vl → Option Vl} (C0 f : Nat) (ho' : InS kt X op o) (hn : kt.names.Nodup) (hp : B.p = false) (no : NoAttr kt.K (kt.cls C0) nm) (ho : SX kt B X pb .s a da) (hv : SX kt B X pa .s e dv)
    (ef : kt.names[f]? = some nm := by rfl) (hK : X.K = kt.K := by rfl) : SS kt B X (.AugAssign (.Attribute a nm tpos) op e pos) (dAugF C0 f o da dv) := fun Wish tk => by
  obtain ⟨r, hr, hs⟩ := ho'
  refine (ps_fldaug (ho Wish tk) (hv Wish tk) (rd := r) (fun pins s σ H x y u v Q I rx ry q => hr pins s σ H x y u v Q I rx ry q)).imp fun D σ H ⟨W, env, G, e, A, h⟩ => ?_
  subst e
  refine ⟨W, env, G, rfl, A, h.bindS.mono ?_⟩
  rintro v H1 ⟨W1, x, G1, rfl, e1, A1, z1, h1⟩
  cases x with
  | ref i =>
    dsimp only at h1
    split at h1
    · rename_i C fs eg
      split at h1
      · rename_i y ey
        split at ey
        case isFalse => cases ey
        rename_i eC
        subst eC
        obtain ⟨a', rfl, ha'⟩ := z1.ref
        obtain ⟨a2, q1, q2, dx, fv, q3, r3, k⟩ := A1.ok.rg.ob _ _ eg
        rw [ha'] at q1; cases q1
        obtain ⟨v0, l, fr⟩ := r3.lookup hn ef ey
        rw [hK]
        refine ⟨a', kt.cls C, dx, fv, v0, rfl, q3, k.1, k.2 f nm (lookup_mem ey) ef, l, W1, env, G1, rfl, A1, h1.bindS.mono ?_⟩
        rintro u H2 ⟨W2, y2, G2, rfl, e2, A2, z2, h2⟩
        cases ez : o y y2 with
        | none => rw [ez] at h2; exact h2.elim
        | some z =>
          rw [ez] at h2
          dsimp only at h2
          refine hs B σ env G2 W2 y y2 v0 u z _ A2 (.inl (Rep.ext e2 _ _ fr)) z2.any ez fun W3 w e3 A3 rw3 => ?_
          split at h2
          · rename_i C' fs' eg'
            split at h2
            · rename_i hl
              obtain ⟨rfl, hl⟩ := hl
              have ha3 : W3.ρ[i]? = some a' := e3.toR.ref (e2.toR.ref ha')
              obtain ⟨a3, p1, p2, dx', fv', p3, r4, k'⟩ := A3.ok.rg.ob _ _ eg'
              rw [ha3] at p1; cases p1
              refine ⟨dx', fv', p3, by rw [← r4.length]; exact hl, ?_⟩
              have e4 : Ext false W3 (W3.wr a' (.ins (kt.cls C') dx' (putF nm w fv'))) := Ext.wr (by rw [p2]; rfl) p3 rfl
              refine h2 (W3.wr a' (.ins (kt.cls C') dx' (putF nm w fv'))) σ (e3.fls.trans e4).toS (A3.wr hp p3 rfl rfl (.inl p2) fun b hb => ?_)
              rw [ha3] at hb; cases hb
              refine ⟨dx', _, upd_same, FldsRep.put hn ef (x := .val z) (Rep.ext e4 _ _ rw3) (FldsRep.but e4 (fun b f g _ => upd_ne fun z => ?_) _ _ r4), k'.put ef no⟩
              rw [z, p2] at g; cases g
            · exact h2.elim
          · exact h2.elim
      · exact h1.elim
    · exact h1.elim
  | _ => exact h1.elim
end
end CardH
end
section
set_option maxHeartbeats 2000000
namespace CardH
open PySem PySem.Spec PyProof.Rows L2

/-! ### functions -/
abbrev FT := List Vl → Gst → CardH.R Vl
def spD (kt : Kt) (n : Nat) (Φ : FT) : Sp := fun vs H Q E => ∃ W G xs, W.H = H ∧ WOk kt W G ∧ NoLock W ∧ Reps kt.K W xs vs ∧ xs.length = n ∧ (match Φ xs G with
  | .bad => False
  | .ok x G' => ∀ W' v, Ext false W W' → WOk kt W' G' → NoLock W' → Rep kt.K W' x v → Q v W'.H
  | .exn c G' => ∀ W' od, Ext false W W' → WOk kt W' G' → NoLock W' → ExOk c od W'.H → E (kt.exc c.cls) od W'.H)
structure DFn (P : Program) (w : World) (base : Heap) (kt : Kt) (k : Nat) (f : Addr) (n : Nat) (Φ : FT) : Prop where
  ex : ∃ fd ps, FnOk P w kt.K kt.mg base (L2.CX P w) k f fd ps (spD kt n Φ) ∧ Binds kt.K fd ps [] ∧ ps.length = n
  kp : PySem.W.keepIn kt.K (.ref f) = true
theorem DFn.mono {P : Program} {w : World} {base : Heap} {kt : Kt} {j k : Nat} {f : Addr} {n : Nat} {Φ : FT} (F : DFn P w base kt j f n Φ) (h : j ≤ k) : DFn P w base kt k f n Φ := by
  obtain ⟨⟨fd, ps, F, b, l⟩, kp⟩ := F
  exact ⟨⟨fd, ps, F.mono h, b, l⟩, kp⟩
/-- Φ answers where Ψ does, as Ψ does -/
def Fle (n : Nat) (Ψ Φ : FT) : Prop := ∀ xs G, xs.length = n → Ψ xs G ≠ .bad → Φ xs G = Ψ xs G
theorem DFn.imp {P : Program} {w : World} {base : Heap} {kt : Kt} {k : Nat} {f : Addr} {n : Nat} {Φ Ψ : FT} (F : DFn P w base kt k f n Φ) (h : Fle n Ψ Φ) : DFn P w base kt k f n Ψ := by
  obtain ⟨⟨fd, ps, F, b, l⟩, kp⟩ := F
  refine ⟨⟨fd, ps, F.imp fun vs H Q E ⟨W, G, xs, e, ok, nl, r, hl, q⟩ => ⟨W, G, xs, e, ok, nl, r, hl, ?_⟩, b, l⟩, kp⟩
  have e := h xs G hl
  cases eq : Ψ xs G with
  | bad => rw [eq] at q; exact q.elim
  | ok x G' => rw [e (by rw [eq]; exact fun z => nomatch z), eq]; rw [eq] at q; exact q
  | exn c G' => rw [e (by rw [eq]; exact fun z => nomatch z), eq]; rw [eq] at q; exact q
def startE (n : Nat) (xs : List Vl) : LEnv := xs.map (fun x => some (.val x)) ++ List.replicate (n - xs.length) none
def runF (n : Nat) (d : DS) : FT := fun xs G => match d (startE n xs) G with
  | .nx _ G' => .ok .non G'
  | .rt v G' => .ok v G'
  | .ex c _ G' => .exn c G'
  | _ => .bad
section
variable {P : Program} {w : World} {base : Heap} {kt : Kt}
theorem start_re {W : Wd} {xs : List Vl} {vs : List V} {N : List Str} (r : Reps kt.K W xs vs) (H0 : Hp) : RE kt H0 W (L2.start N vs) (startE N.length xs) := by
  have hl := r.length
  refine ⟨by simp [L2.start, startE, hl], fun i fv hi => ?_⟩
  unfold startE at hi
  by_cases h : i < xs.length
  · rw [List.getElem?_append_left (by simpa using h), List.getElem?_map] at hi
    cases e : xs[i]? with
    | none => rw [e] at hi; cases hi
    | some x =>
      rw [e] at hi; cases hi
      obtain ⟨v, h1, h2⟩ := r.get e
      refine ⟨v, ?_, h2, fun z => nomatch z⟩
      unfold L2.start
      rw [List.getElem?_append_left (by rw [List.length_map, ← hl]; exact h), List.getElem?_map, h1]; rfl
  · rw [List.getElem?_append_right (by simpa using h), List.getElem?_replicate] at hi
    split at hi <;> cases hi
/-- a def of the text, by its body -/
theorem DFn.of {x qual : Str} {st : Stmt} {f : Addr} {fd : FuncData} {N ps : List Str} {k : Nat} (F : Fun kt.K x qual st f fd) (S : FnScope N ps (defScope st)) (hb : Binds kt.K fd ps []) (d : DS)
    (hbody : ∀ (cdv : Value) (A : Around) (outer : List Env) (s : Shared) (H : Hp) (E : XK) (W0 : Wd), Room k (A.deeper (envOfC qual (defScope st) s.heap.objs.size f cdv)) →
      SSs kt ⟨W0, false, false⟩ (cxOf (L2.CX P w) P w kt.K kt.mg base N qual (defScope st) f cdv A outer s H E) (defBody st) d) : DFn P w base kt (k + 1) f ps.length (runF N.length d) := by
  refine ⟨⟨fd, ps, F.okX S (fun vs H Q E ⟨W, G, xs, e, ok, nl, r, hl, q⟩ => by rw [← r.length]; exact hl) fun cdv A outer s H vs Q E hr ⟨W, G, xs, e, ok, nl, r, hl, q⟩ => ?_, hb, rfl⟩, F.kp⟩
  subst e
  have tk : Takes (cxOf (L2.CX P w) P w kt.K kt.mg base N qual (defScope st) f cdv A outer s W.H E) (fun cls d _ H => E cls d H) := takes_of rfl rfl rfl rfl
  refine ⟨_, hbody cdv A outer s W.H E W hr _ tk, W, startE N.length xs, G, rfl, ⟨ok, start_re r _, Ext.refl, fun _ => nl⟩, ?_⟩
  unfold runF at q
  cases e : d (startE N.length xs) G with
  | bad => rw [e] at q; exact q
  | nx e' G' => rw [e] at q; exact fun W' σ _ A => q W' .non A.si A.ok (A.nl rfl) rfl
  | bk e' G' => rw [e] at q; exact q.elim
  | ct e' G' => rw [e] at q; exact q.elim
  | rt v G' => rw [e] at q; exact fun W' w _ A r => q W' w A.si A.ok (A.nl rfl) r
  | ex c e' G' => rw [e] at q; exact fun W' σ od _ A z => q W' od A.si A.ok (A.nl rfl) z
end

/-! ### calls -/
def dCall (n : Nat) (Φ : FT) (ds : DA) : DE := fun env G => (ds env G).bind fun xs G1 => if xs.length = n then Φ xs G1 else .bad
def dMeth (C n : Nat) (Φ : FT) (do_ : DE) (ds : DA) : DE := fun env G => (do_ env G).bind fun x G1 => match x with
  | .ref i => match G1[i]? with
    | some (.ins C' _) => if C' = C then (ds env G1).bind fun xs G2 => if xs.length + 1 = n then Φ (x :: xs) G2 else .bad else .bad
    | _ => .bad
  | _ => .bad
def dMake (C n : Nat) (Φ : FT) (ds : DA) : DE := fun env G => (ds env G).bind fun xs G1 => if xs.length + 1 = n then (Φ (.ref G1.length :: xs) (G1 ++ [.ins C []])).bind fun r G2 => match r with
    | .non => .ok (.ref G1.length) G2
    | _ => .bad
  else .bad
/-- the promise at a call -/
theorem sp_of {kt : Kt} {B : Bs} {σ : L2.St} {env : LEnv} {W : Wd} {G : Gst} {Wish : WX} {n : Nat} {Φ : FT} {xs : List Vl} {vs : List V} {Q : VK} (hlk : B.lk = false) (hp : B.p = false) (A : RAll kt B W σ env G) (r : Reps kt.K W xs vs) (hl : xs.length = n)
    (h : PoX kt B false σ env W Wish (fun W x v => Pk kt.K W .s x v) (Φ xs G) Q) : spD kt n Φ vs W.H Q (fun cls d H => Wish cls d σ H) := by
  refine ⟨W, G, xs, rfl, A.ok, A.nl hlk, r, hl, ?_⟩
  cases e : Φ xs G with
  | bad => rw [e] at h; exact h
  | ok x G' =>
    rw [e] at h
    exact fun W' v ee ok nl rr => h W' v ee ⟨ok, A.re.ext ee, (A.si.trans ee).mono (fun z => by rw [hp] at z; cases z), fun _ => nl⟩ (.inl rr)
  | exn c G' =>
    rw [e] at h
    exact fun W' od ee ok nl z => h W' od ee ⟨ok, A.re.ext ee, (A.si.trans ee).mono (fun z => by rw [hp] at z; cases z), fun _ => nl⟩ z
theorem PoX.fls {kt : Kt} {B : Bs} {p : Bool} {α β : Type} {Z : Wd → α → β → Prop} {σ : L2.St} {env : LEnv} {W : Wd} {Wish : WX} {r : CardH.R α} {Q : β → Hp → Prop} (h : PoX kt B false σ env W Wish Z r Q) : PoX kt B p σ env W Wish Z r Q := h.weakP fun z => nomatch z
section
variable {kt : Kt} {B : Bs} {X : Cx} {p pa pb : Bool} {a e : Expr} {es : List Expr} {da : DE} {ds : DA} {pos np apos : Pos} {x m : Str} {k n : Nat} {f : Addr} {Φ : FT}
theorem sx_call (F : DFn X.prog X.w X.base kt k f n Φ) (hr : Room k X.A) (hf : kt.mg x = some (.ref f)) (hlk : B.lk = false) (hp : B.p = false) (ha : SAm kt B X p .s (e :: es) ds) (hg : Gl X x := by rfl) (hK : X.K = kt.K := by rfl) (hmg : X.mg = kt.mg := by rfl)
    (hdb : (x == ("__debug__" : Str)) = false := by decide) (he : starEach (e :: es) X.env = (false, eval e X.env) :: starEach es X.env := by rfl) (hpl : (backTo pos (starEach es X.env)).any (·.1) = false := by rfl) :
    SX kt B X false .s (.Call (.Name x np) (e :: es) [] pos) (dCall n Φ ds) := fun Wish tk => by
  obtain ⟨⟨fd, ps, F, b, l⟩, kp⟩ := F
  rw [← hK, ← hmg] at F
  rw [← hK] at b kp
  rw [← hmg] at hf
  refine (pe_callS (E := WE Wish) F hr hg hf kp b (passAt tk) (ha Wish tk) hdb he hpl).imp fun σ H Q ⟨W, env, G, e, A, h⟩ => ?_
  subst e
  refine ⟨W, env, G, rfl, A, (PoX.bindE (q := false) h.fls).mono ?_⟩
  rintro vs H1 ⟨W1, xs, G1, rfl, e1, A1, z1, h1⟩
  split at h1
  · exact sp_of hlk hp A1 z1.strict ‹_› h1
  · exact h1.elim
theorem sx_call0 (F : DFn X.prog X.w X.base kt k f n Φ) (hr : Room k X.A) (hf : kt.mg x = some (.ref f)) (hlk : B.lk = false) (hp : B.p = false) (hg : Gl X x := by rfl) (hK : X.K = kt.K := by rfl) (hmg : X.mg = kt.mg := by rfl)
    (hdb : (x == ("__debug__" : Str)) = false := by decide) : SX kt B X false .s (.Call (.Name x np) [] [] pos) (dCall n Φ daNil) := fun Wish tk => by
  obtain ⟨⟨fd, ps, F, b, l⟩, kp⟩ := F
  rw [← hK, ← hmg] at F
  rw [← hK] at b kp
  rw [← hmg] at hf
  refine ⟨fun pins s σ H Q I ⟨W, env, G, e, A, h⟩ => ?_⟩
  subst e
  refine wpAny_Call_Name_kw (ld_glob I hg hf ?_ hdb)
  have h : PoX kt B false σ env W Wish (fun W x v => Pk kt.K W .s x v) (if ([] : List Vl).length = n then Φ [] G else .bad) Q := h
  split at h
  · exact PySem.W.callWith_K0 I.kIn kp (run_fnS (us := []) (vs := []) (E := WE Wish) F hr b (passAt tk σ) I .nil (sp_of hlk hp A (xs := []) rfl ‹_› h))
  · exact h.elim
theorem meth_none {W : Wd} {G : Gst} {i : Nat} {C : Nat} {fs : List (Nat × Fv)} {fv : List (Str × V)} (r : FldsRep kt W i fs fv) (ok : FldsOk kt C fs) (hm : Meth kt.K (kt.cls C) m f) : fv.lookup m = none :=
  FldsRep.noneS r fun g nm hg eg e => by
    have := ok.2 g nm hg eg
    rw [e] at this
    have h2 := hm.at_
    unfold NoAttr at this
    rw [this] at h2
    cases h2
/-- what is between an instance and its method -/
theorem meth_at {W : Wd} {G : Gst} {σ : L2.St} {env : LEnv} {v : V} {i C : Nat} {fs : List (Nat × Fv)} (A : RAll kt B W σ env G) (z : Pk kt.K W .s (.ref i) v) (eg : G[i]? = some (.ins C fs)) (hm : Meth kt.K (kt.cls C) m f) :
    ∃ a dx fv, v = .ref a ∧ W.H a = some (.ins (kt.cls C) dx fv) ∧ Cls kt.K (kt.cls C) ∧ fv.lookup m = none := by
  obtain ⟨a', rfl, ha'⟩ := z.ref
  obtain ⟨a2, q1, q2, dx, fv, q3, r, k⟩ := A.ok.rg.ob _ _ eg
  rw [ha'] at q1; cases q1
  exact ⟨a', dx, fv, rfl, q3, k.1, meth_none (G := G) r k hm⟩
theorem sx_meth {pl : Sem Bool} (C : Nat) (hm : Meth kt.K (kt.cls C) m f) (F : DFn X.prog X.w X.base kt k f n Φ) (hr : Room k X.A) (hlk : B.lk = false) (hp : B.p = false) (ho : SX kt B X pa .s a da) (ha : SAm kt B X p .s (e :: es) ds) (hK : X.K = kt.K := by rfl) (hmg : X.mg = kt.mg := by rfl)
    (hst : starEach (e :: es) X.env = (false, eval e X.env) :: starEach es X.env := by rfl) (hpl : (backTo pos (starEach es X.env)).any (·.1) = false := by rfl)
    (ht : eval (.Call (.Attribute a m apos) (e :: es) [] pos) X.env = (do
      let ov ← eval a X.env
      standAt apos.atName
      let (f, first) ← holding [ov] (getMethod ov m pl)
      callWith pos f first (backTo pos (starEach (e :: es) X.env)) (backToKw pos (keywordEach [] X.env))) := by rfl) :
    SX kt B X false .s (.Call (.Attribute a m apos) (e :: es) [] pos) (dMeth C n Φ da ds) := fun Wish tk => by
  obtain ⟨⟨fd, ps, F, b, l⟩, kp⟩ := F
  rw [← hK, ← hmg] at F
  rw [← hK] at b kp
  refine ⟨fun pins s σ H Q I ⟨W, env, G, e, A, h⟩ => ?_⟩
  subst e
  refine PySem.W.methodCall_KW (pl := pl) (thn ((ho Wish tk).run pins s σ _ _ I ⟨W, env, G, rfl, A, (PoX.bindE (q := false) h.fls).mono fun v H1 q => q⟩) fun u s1 ⟨v, H1, I1, ru, W1, x, G1, e1, ee, A1, z1, h1⟩ => ?_) ht
  subst e1
  split at h1
  case h_2 => exact h1.elim
  rename_i i
  split at h1
  case h_2 => exact h1.elim
  rename_i C' fs eg
  split at h1
  case isFalse => exact h1.elim
  rename_i eC
  subst eC
  obtain ⟨a', dx, fv, rfl, q3, c, ln⟩ := meth_at A1 z1 eg hm
  obtain rfl : u = Value.ref a' := ru
  rw [← hK] at c hm
  refine getmeth_ok I1 q3 c hm ln ?_
  refine PySem.W.callWith_K (first := [.ref a']) (h₀ := X.base) I.ok.mod.kin hm.kp (thn ((ha Wish tk).run pos pins s1 σ _ _ I1 ⟨W1, env, G1, rfl, A1, (PoX.bindE (q := false) h1.fls).mono fun v H1 q => q⟩) fun us s2 ⟨vs, H2, I2, r, W2, xs, G2, e2, ee2, A2, z2, h2⟩ => ⟨I2.kIn, ?_⟩) hst hpl
  subst e2
  split at h2
  · exact run_fnS (us := .ref a' :: us) (vs := .ref a' :: vs) (E := WE Wish) F hr b (passAt tk σ) I2 (.cons rfl r)
      (sp_of hlk hp A2 (xs := .ref i :: xs) ⟨_, _, rfl, (z1.ext (m := .s) ee2 (.inr (by simp))).strict, z2.strict⟩ ‹_› h2)
  · exact h2.elim
theorem sx_meth0 {pl : Sem Bool} (C : Nat) (hm : Meth kt.K (kt.cls C) m f) (F : DFn X.prog X.w X.base kt k f n Φ) (hr : Room k X.A) (hlk : B.lk = false) (hp : B.p = false) (ho : SX kt B X pa .s a da) (hK : X.K = kt.K := by rfl) (hmg : X.mg = kt.mg := by rfl)
    (ht : eval (.Call (.Attribute a m apos) [] [] pos) X.env = (do
      let ov ← eval a X.env
      standAt apos.atName
      let (f, first) ← holding [ov] (getMethod ov m pl)
      callWith pos f first (backTo pos (starEach [] X.env)) (backToKw pos (keywordEach [] X.env))) := by rfl) :
    SX kt B X false .s (.Call (.Attribute a m apos) [] [] pos) (dMeth C n Φ da daNil) := fun Wish tk => by
  obtain ⟨⟨fd, ps, F, b, l⟩, kp⟩ := F
  rw [← hK, ← hmg] at F
  rw [← hK] at b kp
  refine ⟨fun pins s σ H Q I ⟨W, env, G, e, A, h⟩ => ?_⟩
  subst e
  refine PySem.W.methodCall_KW (pl := pl) (thn ((ho Wish tk).run pins s σ _ _ I ⟨W, env, G, rfl, A, (PoX.bindE (q := false) h.fls).mono fun v H1 q => q⟩) fun u s1 ⟨v, H1, I1, ru, W1, x, G1, e1, ee, A1, z1, h1⟩ => ?_) ht
  subst e1
  split at h1
  case h_2 => exact h1.elim
  rename_i i
  split at h1
  case h_2 => exact h1.elim
  rename_i C' fs eg
  split at h1
  case isFalse => exact h1.elim
  rename_i eC
  subst eC
  obtain ⟨a', dx, fv, rfl, q3, c, ln⟩ := meth_at A1 z1 eg hm
  obtain rfl : u = Value.ref a' := ru
  rw [← hK] at c hm
  have h1 : PoX kt B false σ env W1 Wish (fun W x v => Pk kt.K W .s x v) (if ([] : List Vl).length + 1 = n then Φ [.ref i] G1 else .bad) Q := h1
  split at h1
  · refine getmeth_ok I1 q3 c hm ln ?_
    exact PySem.W.callWith_K0 (first := [.ref a']) I1.kIn hm.kp (run_fnS (us := [.ref a']) (vs := [.ref a']) (E := WE Wish) F hr b (passAt tk σ) I1 (.cons rfl .nil)
      (sp_of hlk hp A1 (xs := [.ref i]) ⟨_, _, rfl, z1.strict, rfl⟩ ‹_› h1))
  · exact h1.elim
/-! ### new objects -/
def Wd.mk1 (W : Wd) (x dx C : Addr) (n : Nat) : Wd := ⟨fun a => if a = x then .obj n else W.Γ a, W.ρ ++ [x], upd (upd W.H dx (.own x)) x (.ins C dx [])⟩
theorem RAll.mk1 {W : Wd} {σ : L2.St} {env : LEnv} {G : Gst} {y dx : Addr} {C : Nat} (A : RAll kt B W σ env G) (hy : W.H y = none) (hd : W.H dx = none) (hne : dx ≠ y) (c : Cls kt.K (kt.cls C)) :
    Ext true W (W.mk1 y dx (kt.cls C) G.length) ∧ RAll kt B (W.mk1 y dx (kt.cls C) G.length) σ env (G ++ [.ins C []]) := by
  have e : Ext true W (W.mk1 y dx (kt.cls C) G.length) := by
    have nb : ∀ b, W.H b ≠ none → (upd (upd W.H dx (.own y)) y (.ins (kt.cls C) dx [])) b = W.H b := fun b hb => by
      rw [upd_ne (fun z => hb (by rw [z]; exact hy)), upd_ne (fun z => hb (by rw [z]; exact hd))]
    exact ⟨fun b hb => if_neg fun z => hb (by rw [z]; exact hy), fun b o hb _ _ => (nb b (by rw [hb]; simp)).trans hb, fun b xs hb => (nb b (by rw [hb]; simp)).trans hb, fun b hb => by
      show (upd (upd W.H dx (.own y)) y (.ins (kt.cls C) dx [])) b ≠ none
      rw [nb b hb]; exact hb, [y], rfl⟩
  have hy2 : (W.mk1 y dx (kt.cls C) G.length).H y = some (.ins (kt.cls C) dx []) := upd_same
  refine ⟨e, ⟨fun b hb => ?_, ⟨?_, fun i o hi => ?_⟩, ?_, fun b ps q => ?_⟩, A.re.ext e, (A.si.trans e).mono fun z => by rw [z]; rfl, fun z b u o q => ?_⟩
  · show (upd (upd W.H dx (.own y)) y (.ins (kt.cls C) dx [])) b ≠ none
    by_cases k : b = y
    · rw [k, upd_same]; simp
    · rw [upd_ne k]
      by_cases k2 : b = dx
      · rw [k2, upd_same]; simp
      · rw [upd_ne k2]
        refine A.ok.tr b fun w => hb ?_
        show (if b = y then _ else W.Γ b) = _
        rw [if_neg k]; exact w
  · simp [Wd.mk1, A.ok.rg.len]
  · by_cases hl : i < G.length
    · rw [List.getElem?_append_left hl] at hi
      obtain ⟨b, h1, h2, h3⟩ := A.ok.rg.ob i o hi
      have hbn : W.H b ≠ none := by
        cases o with
        | lst xs => obtain ⟨vs, q, _⟩ := h3; rw [q]; simp
        | ins C fs => obtain ⟨dx, fv, q, _⟩ := h3; rw [q]; simp
      refine ⟨b, e.toR.ref h1, (e.role b hbn).trans h2, ?_⟩
      cases o with
      | lst xs =>
        obtain ⟨vs, q, z⟩ := h3
        exact ⟨vs, e.keep b _ q (fun _ z => nomatch z) (.inl rfl), Reps.ext e _ _ z⟩
      | ins C fs =>
        obtain ⟨dx, fv, q, z, k⟩ := h3
        exact ⟨dx, fv, e.keep b _ q (fun _ z => nomatch z) (.inl rfl), FldsRep.extR e.toR rfl rfl (fun _ => rfl) _ _ z, k⟩
    · have hil : i = G.length := by
        have := (List.getElem?_eq_some_iff.mp hi).1
        rw [List.length_append, List.length_singleton] at this
        omega
      subst hil
      rw [List.getElem?_append_right (Nat.le_refl _)] at hi
      simp only [Nat.sub_self, List.getElem?_cons_zero, Option.some.injEq] at hi
      subst hi
      refine ⟨y, ?_, if_pos rfl, dx, [], hy2, rfl, c, fun f nm hf => nomatch hf⟩
      show (W.ρ ++ [y])[G.length]? = some y
      rw [← A.ok.rg.len, List.getElem?_append_right (Nat.le_refl _)]; simp
  · exact tabsN_upd (tabsN_upd A.ok.tabs hd) ((upd_ne (Ne.symm hne)).trans hy)
  · have q : (upd (upd W.H dx (.own y)) y (.ins (kt.cls C) dx [])) b = some (.tbl ps) := q
    by_cases k : b = y
    · rw [k, upd_same] at q; cases q
    · rw [upd_ne k] at q
      by_cases k2 : b = dx
      · rw [k2, upd_same] at q; cases q
      · rw [upd_ne k2] at q; exact A.ok.tb b ps q
  · have q : (upd (upd W.H dx (.own y)) y (.ins (kt.cls C) dx [])) b = some (.frz u o) := q
    by_cases k : b = y
    · rw [k, upd_same] at q; cases q
    · rw [upd_ne k] at q
      by_cases k2 : b = dx
      · rw [k2, upd_same] at q; cases q
      · rw [upd_ne k2] at q
        have g : (W.mk1 y dx (kt.cls C) G.length).Γ b = W.Γ b := if_neg k
        rw [g]
        exact A.nl z b u o q
theorem run_makeS {pins : List (Addr × Obj)} {σ : L2.St} {H : Hp} {s : Shared} {Q : VK} {us : List Value} {vs : List V} {C : Addr} {fd : FuncData} {ps : List Str} {sp : Sp} {E : XK} (M : Mk X.K C f) (F : FnOk X.prog X.w X.K X.mg X.base (L2.CX X.prog X.w) k f fd ps sp) (hr : Room (k + 1) X.A) (hb : Binds X.K fd ps [])
    (hx : ∀ (H : Hp) (s : Shared) (e : Value) (s' : Shared), Inv X pins σ H s → L2.CX X.prog X.w X.stack H s E e s' → X.xe e s') (I : Inv X pins σ H s) (r : Vals vs us)
    (h : ∀ x dx, H x = none → H dx = none → dx ≠ x → sp (.ref x :: vs) (upd (upd H dx (.own x)) x (.ins C dx [])) (fun v H2 => v = .non ∧ Q (.ref x) H2) E) :
    wpAny (model X.prog X.w) X.A (call (.ref C) us) (EP X pins σ Q) X.xe s := by
  have hq := h (s.heap.objs.size + 1) s.heap.objs.size (I.hok.fresh (Nat.le_succ _)) (I.hok.fresh (Nat.le_refl _)) (Nat.ne_of_lt (Nat.lt_succ_self _))
  have I2 := Inv.made (C := C) I
  have r2 : Vals (V.ref (s.heap.objs.size + 1) :: vs) (Value.ref (s.heap.objs.size + 1) :: us) := .cons rfl r
  have hl : (Value.ref (s.heap.objs.size + 1) :: us).length = ps.length := by
    have e := r2.length
    rw [F.len _ _ _ _ hq] at e
    exact e.symm
  have b := hb _ (Value.ref (s.heap.objs.size + 1) :: us) I2.kIn (by rw [List.append_nil]; exact hl)
  rw [List.append_nil] at b
  refine wpAny_call (make_map (f := f) I.kIn M.makes M.init (beq_iff_eq.mp M.fn) (codeAny_mono (F.run _ X.stack _ _ ⟨Value.ref (s.heap.objs.size + 1) :: us, []⟩ (Value.ref (s.heap.objs.size + 1) :: us) _ _ E (hr.make C us [])
    (I2.env0.make C us []) b r2 hq) fun r s' hq' => ?_))
  cases r with
  | error e => exact hx _ _ e s' I2 hq'
  | ok fl =>
    cases fl with
    | ret u =>
      obtain ⟨v, H', I3, rv, ev, q3⟩ := I2.after hq'
      subst ev
      exact ⟨rv, ⟨V.ref (s.heap.objs.size + 1), H', I3, rfl, q3⟩⟩
    | next => exact False.elim hq'
    | brk => exact False.elim hq'
    | cont => exact False.elim hq'
/-- the promise of an __init__ at a making -/
theorem mk_of' {W : Wd} {σ : L2.St} {env : LEnv} {G : Gst} {Wish : WX} {C : Nat} {xs : List Vl} {vs : List V} {Q : VK} (hlk : B.lk = false) (hp : B.p = false) (c : Cls kt.K (kt.cls C)) (A : RAll kt B W σ env G) (r : Reps kt.K W xs vs) (hl : xs.length + 1 = n)
    (h : PoX kt B false σ env W Wish (fun W x v => Pk kt.K W .s x v) ((Φ (.ref G.length :: xs) (G ++ [.ins C []])).bind fun r G2 => match r with
    | .non => .ok (.ref G.length) G2
    | _ => .bad) Q) : ∀ x dx, W.H x = none → W.H dx = none → dx ≠ x → spD kt n Φ (.ref x :: vs) (upd (upd W.H dx (.own x)) x (.ins (kt.cls C) dx [])) (fun v H2 => v = .non ∧ Q (.ref x) H2) (fun cls d H => Wish cls d σ H) := by
  intro x dx hx hd hne
  obtain ⟨e1, A1⟩ := A.mk1 (C := C) hx hd hne c
  have rx : (W.mk1 x dx (kt.cls C) G.length).ρ[G.length]? = some x := by
    show (W.ρ ++ [x])[G.length]? = some x
    rw [← A.ok.rg.len, List.getElem?_append_right (Nat.le_refl _)]; simp
  refine sp_of hlk hp (Wish := Wish) (Q := fun v H2 => v = .non ∧ Q (.ref x) H2) A1 (xs := .ref G.length :: xs) ⟨_, _, rfl, ⟨x, rfl, rx⟩, Reps.ext e1 _ _ r⟩ hl ?_
  refine ((PoX.shift (p := true) (q := false) (show PoX kt B (true && false) _ _ _ _ _ _ _ from h) e1).bindL).mono ?_
  rintro v H1 ⟨W1, y, G1, rfl, e2, A2, z, h1⟩
  cases y with
  | non => exact ⟨z.non, h1 W1 (.ref x) Ext.refl A2 (.inl ⟨x, rfl, e2.toR.ref rx⟩)⟩
  | _ => exact h1.elim
theorem sx_make (C : Nat) (M : Mk kt.K (kt.cls C) f) (c : Cls kt.K (kt.cls C)) (F : DFn X.prog X.w X.base kt k f n Φ) (hr : Room (k + 1) X.A) (hf : kt.mg x = some (.ref (kt.cls C))) (hlk : B.lk = false) (hp : B.p = false) (ha : SAm kt B X p .s (e :: es) ds) (hg : Gl X x := by rfl) (hK : X.K = kt.K := by rfl) (hmg : X.mg = kt.mg := by rfl)
    (hdb : (x == ("__debug__" : Str)) = false := by decide) (he : starEach (e :: es) X.env = (false, eval e X.env) :: starEach es X.env := by rfl) (hpl : (backTo pos (starEach es X.env)).any (·.1) = false := by rfl) :
    SX kt B X false .s (.Call (.Name x np) (e :: es) [] pos) (dMake C n Φ ds) := fun Wish tk => by
  obtain ⟨⟨fd, ps, F, b, l⟩, kp⟩ := F
  rw [← hK, ← hmg] at F
  rw [← hK] at b kp M
  rw [← hmg] at hf
  refine ⟨fun pins s σ H Q I ⟨W, env, G, e, A, h⟩ => ?_⟩
  subst e
  refine wpAny_Call_Name_kw (ld_glob I hg hf ?_ hdb)
  refine PySem.W.callWith_K (h₀ := X.base) I.ok.mod.kin M.kp (thn ((ha Wish tk).run pos pins s σ _ _ I ⟨W, env, G, rfl, A, (PoX.bindE (q := false) h.fls).mono fun v H1 q => q⟩) fun us s1 ⟨vs, H1, I1, r, W1, xs, G1, e1, ee, A1, z1, h1⟩ => ⟨I1.kIn, ?_⟩) he hpl
  subst e1
  split at h1
  · exact run_makeS M F hr b (fun H s e s' => passAt tk σ pins H s e s') I1 r (mk_of' hlk hp c A1 z1.strict ‹_› h1)
  · exact h1.elim
theorem sx_make0 (C : Nat) (M : Mk kt.K (kt.cls C) f) (c : Cls kt.K (kt.cls C)) (F : DFn X.prog X.w X.base kt k f n Φ) (hr : Room (k + 1) X.A) (hf : kt.mg x = some (.ref (kt.cls C))) (hlk : B.lk = false) (hp : B.p = false) (hg : Gl X x := by rfl) (hK : X.K = kt.K := by rfl) (hmg : X.mg = kt.mg := by rfl)
    (hdb : (x == ("__debug__" : Str)) = false := by decide) : SX kt B X false .s (.Call (.Name x np) [] [] pos) (dMake C n Φ daNil) := fun Wish tk => by
  obtain ⟨⟨fd, ps, F, b, l⟩, kp⟩ := F
  rw [← hK, ← hmg] at F
  rw [← hK] at b kp M
  rw [← hmg] at hf
  refine ⟨fun pins s σ H Q I ⟨W, env, G, e, A, h⟩ => ?_⟩
  subst e
  refine wpAny_Call_Name_kw (ld_glob I hg hf ?_ hdb)
  have h : PoX kt B false σ env W Wish (fun W x v => Pk kt.K W .s x v) (if ([] : List Vl).length + 1 = n then (Φ (.ref G.length :: []) (G ++ [.ins C []])).bind (fun r G2 => match r with
    | .non => .ok (.ref G.length) G2
    | _ => .bad) else .bad) Q := h
  split at h
  · exact PySem.W.callWith_K0 I.kIn M.kp (run_makeS M F hr b (fun H s e s' => passAt tk σ pins H s e s') I .nil (mk_of' hlk hp c A (xs := []) rfl ‹_› h))
  · exact h.elim
end
end CardH
end
section
set_option maxHeartbeats 2000000
namespace CardH
open PySem PySem.Spec PyProof.Rows L2 LamX

/-! ### lambdas that are told -/
/-- nothing but code objects comes, nothing but the tables grows -/
structure Grown (T : List (Addr × Str)) (H H1 : Hp) : Prop where
  ext : ExtN H H1
  tabs : Tabs T H1
  there : ∀ b, H b ≠ none → H1 b ≠ none
  tb : ∀ b ps, H b = some (.tbl ps) → ∃ ps', H1 b = some (.tbl ps')
section
variable {X : Cx} {pins : List (Addr × Obj)} {σ : L2.St} {H : Hp} {s : Shared}
theorem lam_new {T : List (Addr × Str)} {c P : Addr} {params : Arguments} {body : Expr} {scope : Scope} {pos : Pos} {E : Value → Shared → Prop} {Q : Value → Shared → Prop} (I : Inv X pins σ H s) (TB : TabB X.base X.mg c P) (hcode : X.env.code = .ref c)
    (hm : (P, X.env.qual ++ "<lambda>") ∈ T) (hu : ∀ p ∈ T, p.1 = P → p.2 = X.env.qual ++ "<lambda>") (hT : Tabs T H) (hdef : defaultsOf params X.env = ([], [])) (hfree : ∀ y ∈ scope.names, y.2 = .free → ∃ c, X.env.cells.lookup y.1 = some c)
    (k : ∀ (f c' : Addr) (pm ctv : Value) (H1 : Hp) (s' : Shared), Inv X pins σ H1 s' → Grown T H H1 → s'.heap.get? f = some (PySem.W.kla_obj "<lambda>" (X.env.qual ++ "<lambda>") params body scope (cloFrom X.env.cells scope.names []) pm c' ctv) →
      H1 f = none → f ∉ frs X.stack → H1 c' = some (CodeO c' (X.env.qual ++ "<lambda>")) → Q (.ref f) s') : wpAny (model X.prog X.w) X.A (eval (.Lambda params body scope pos) X.env) Q E s := by
  obtain ⟨ps, atP, trip, among⟩ := hT _ hm
  have bP := TB.bm.keeps I.bk
  have get : s.heap.get? P = some { cls := .none, data := .fields ps } := I.hok P _ atP
  have nofr : ∀ f, s.heap.objs.size ≤ f → f ∉ frs X.stack := by
    intro f hf z
    rcases List.mem_cons.mp (I.stkSub _ z) with e | e
    · subst e; exact absurd (Nat.lt_of_lt_of_le I.lt hf) (Nat.lt_irrefl _)
    · exact I.nofs hf e
  refine PySem.W.kla_eval hdef ?_
  rcases e : codeAmong pos ps.toList with _ | cv
  · refine PySem.W.kla_makeFunction (mg := X.mg) (c := c) (P := P) (ps := ps) (closure_ok hfree) I.ok.glob (I.mod.glob.keeps I.bk) hcode (TB.code.keeps I.bk) get trip e TB.gP bP ?_
    intro c' ctv h' tk hx hge hlt ⟨c2, oc, vs, t, e2, hoc, hd, hv⟩ htb
    cases e2
    have new : H c' = none := I.hok.fresh hge
    have fsz := Nat.le_trans hge (Nat.le_of_lt hlt)
    have nf1 : h'.objs.size ≠ c' := Nat.ne_of_gt hlt
    have nf2 : h'.objs.size ≠ P := Nat.ne_of_gt (Nat.lt_of_lt_of_le (Heap.lt_size get) fsz)
    have nPc : P ≠ c' := ne_of_none atP new
    have J := inv_table (t' := tk) (more := #[rawInt pos.line, rawInt pos.col, .ref c']) (h' := h'.push (PySem.W.kla_obj "<lambda>" (X.env.qual ++ "<lambda>") params body scope (cloFrom X.env.cells scope.names []) ((X.mg "__name__").getD .none) c' ctv)) I atP
      (fun b o hb q => Heap.get?_push_of_some _ (hx b o hb q)) (Heap.get?_push_of_some _ htb) hge ⟨oc, vs, t, Heap.get?_push_of_some _ hoc, hd, hv⟩
    generalize hG : upd (upd H P (.tbl (ps ++ #[rawInt pos.line, rawInt pos.col, .ref c']))) c' (CodeO c' (X.env.qual ++ "<lambda>")) = H1 at J
    have at1 : H1 c' = some (CodeO c' (X.env.qual ++ "<lambda>")) := by rw [← hG]; exact upd_same
    have at2 : H1 P = some (.tbl (ps ++ #[rawInt pos.line, rawInt pos.col, .ref c'])) := by rw [← hG, upd_ne nPc]; exact upd_same
    have at3 : ∀ b, b ≠ c' → b ≠ P → H1 b = H b := fun b n1 n2 => by rw [← hG, upd_ne n1, upd_ne n2]
    have ex : ExtN H H1 := by
      intro b o q n
      have n2 : b ≠ P := by rintro rfl; rw [atP] at q; exact n ps (Option.some.inj q).symm
      rw [at3 b (ne_of_none q new) n2]; exact q
    refine k h'.objs.size c' ((X.mg "__name__").getD .none) ctv H1 _ J ⟨ex, ?_, fun b hb => ?_, fun b qs q => ?_⟩ (Heap.get?_push_size _ rfl) ?_ (nofr _ fsz) at1
    · intro p hp
      by_cases hb : p.1 = P
      · rw [hu p hp hb, hb]
        refine ⟨_, at2, ?_, fun p' cv hcv => ?_⟩
        · rw [Array.toList_append]; exact PySem.TriplesOk_snoc _ _ _ _ trip
        · rw [Array.toList_append] at hcv
          rcases among_app _ trip hcv with z | z
          · obtain ⟨c0, q1, q2⟩ := among p' cv z
            exact ⟨c0, q1, ex _ _ q2 codeO_ne⟩
          · exact ⟨c', z, at1⟩
      · obtain ⟨qs, a1, a2, a3⟩ := hT p hp
        refine ⟨qs, by rw [at3 _ (ne_of_none a1 new) hb]; exact a1, a2, fun p' cv hcv => ?_⟩
        obtain ⟨c0, q1, q2⟩ := a3 p' cv hcv
        exact ⟨c0, q1, ex _ _ q2 codeO_ne⟩
    · by_cases z : b = P
      · subst z; rw [at2]; simp
      · by_cases z' : b = c'
        · subst z'; exact absurd new hb
        · rw [at3 b z' z]; exact hb
    · by_cases z : b = P
      · subst z; exact ⟨_, at2⟩
      · exact ⟨qs, by rw [at3 b (ne_of_none q new) z]; exact q⟩
    · rw [at3 _ nf1 nf2]; exact I.hok.fresh fsz
  · obtain ⟨c', ec, hco⟩ := among pos cv e
    subst ec
    refine PySem.W.kla_makeFunctionHit (mg := X.mg) (c := c) (P := P) (ps := ps) (closure_ok hfree) I.ok.glob (I.mod.glob.keeps I.bk) hcode (TB.code.keeps I.bk) get trip e bP ?_
    intro ctv h' tk hx hsz
    have J : Inv X pins σ H { s with heap := h'.push (PySem.W.kla_obj "<lambda>" (X.env.qual ++ "<lambda>") params body scope (cloFrom X.env.cells scope.names []) ((X.mg "__name__").getD .none) c' ctv), toks := tk } := I.kept fun b o q => Heap.get?_push_of_some _ (hx b o q)
    exact k h'.objs.size c' ((X.mg "__name__").getD .none) ctv H _ J ⟨ExtN.refl H, hT, fun _ h => h, fun b qs q => ⟨qs, q⟩⟩ (Heap.get?_push_size _ rfl) (I.hok.fresh hsz) (nofr _ hsz) hco
end
/-- the tables, each of one name -/
def tabsOf (Tl : List (Addr × Str)) : List NdefX.NTab := Tl.map fun p => (p.1, fun _ _ => p.2)
theorem tabs_to {Tl : List (Addr × Str)} {H : Hp} (h : NdefX.TabsN (tabsOf Tl) H) : Tabs Tl H := fun p hp => NdefX.TabN.to (h (p.1, fun _ _ => p.2) (List.mem_map.mpr ⟨p, hp, rfl⟩))
theorem tabs_back {Tl : List (Addr × Str)} {H : Hp} (h : Tabs Tl H) : NdefX.TabsN (tabsOf Tl) H := fun q hq => by
  obtain ⟨p, hp, rfl⟩ := List.mem_map.mp hq
  exact NdefX.TabN.of (h p hp)
theorem RAll.grown {kt : Kt} {B : Bs} {W : Wd} {σ : L2.St} {env : LEnv} {G : Gst} {Tl : List (Addr × Str)} {H1 : Hp} (hT : kt.T = tabsOf Tl) (A : RAll kt B W σ env G) (g : Grown Tl W.H H1) : Ext true W ⟨W.Γ, W.ρ, H1⟩ ∧ RAll kt B ⟨W.Γ, W.ρ, H1⟩ σ env G := by
  have e : Ext true W ⟨W.Γ, W.ρ, H1⟩ := ⟨fun _ _ => rfl, fun a o h nt _ => g.ext a o h nt, fun a xs h => g.ext a _ h (fun _ z => nomatch z), fun a h => g.there a h, [], by simp⟩
  refine ⟨e, ⟨fun a ha => g.there a (A.ok.tr a ha), A.ok.rg.ext e rfl, by rw [hT]; exact tabs_back g.tabs, fun b ps q => ?_⟩, A.re.ext e, (A.si.trans e).mono fun z => by rw [z]; rfl, fun z a o u q => ?_⟩
  · trivial
  · have q : H1 a = some (.frz o u) := q
    show (W.Γ a).still = true ∧ ∀ i, W.Γ a ≠ .slot i
    cases hW : W.H a with
    | none =>
      have : W.Γ a = .no := by
        cases hg : W.Γ a with
        | no => rfl
        | _ => exact absurd hW (A.ok.tr a (by rw [hg]; simp))
      rw [this]; exact ⟨rfl, fun _ z => nomatch z⟩
    | some w =>
      by_cases hw : ∃ ps, w = .tbl ps
      · obtain ⟨ps, rfl⟩ := hw
        obtain ⟨ps2, q2⟩ := g.tb a ps hW
        rw [q] at q2; cases q2
      · have := g.ext a w hW fun ps z => hw ⟨ps, z⟩
        rw [q] at this; cases this
        exact A.nl z a o u hW
/-- what the clauses make of an exception of the class cls -/
def toldAt (K : PySem.W.Frag) (cls : Value) : List (Addr × Str) → Option Str
  | [] => none
  | (C, r) :: l => match PySem.W.exmOne K cls (.ref C) with
    | some true => some r
    | some false => toldAt K cls l
    | none => none
abbrev hdsL (l : List (Addr × Str)) : List (Value × (Addr → Value → Option Addr → TS)) := l.map fun p => (Value.ref p.1, fun _ _ _ => tRet (tC (V.str p.2)))
theorem wMany_told {K : PySem.W.Frag} {Wout : WX} {D : Ends} {cls : Value} {d : Option Addr} {σ : L2.St} {H : Hp} {r : Str} : ∀ {l : List (Addr × Str)}, toldAt K cls l = some r → D.rt (.str r) H → wMany K Wout D (hdsL l) cls d σ H
  | [], h, _ => by cases h
  | (C, r') :: l, h, q => by
    have h : (match PySem.W.exmOne K cls (.ref C) with | some true => some r' | some false => toldAt K cls l | none => none) = some r := h
    cases e : PySem.W.exmOne K cls (.ref C) with
    | none => rw [e] at h; cases h
    | some b =>
      rw [e] at h
      refine ⟨b, e, fun z a _ => ?_, fun z => ?_⟩
      · subst z
        cases h
        exact q
      · subst z
        exact wMany_told h q
/-- told(lambda: ..) -/
def dTold (tf : Ex → Option Str) (d : DE) : DE := fun env G => match d env G with
  | .ok v G1 => .ok v G1
  | .exn c G1 => match tf c with
    | some r => .ok (.str r) G1
    | none => .bad
  | .bad => .bad
/-- the def that tells: try: return a(); its clauses each return a text -/
structure ToldD (kt : Kt) (x a : Str) (g : Addr) (Ng : List Str) (sg : Scope) (body : List Stmt) (l : List (Addr × Str)) : Prop where
  ex : ∃ (oc : Value) (od : Option Addr) (pg : Arguments) (dV kV doc pm : Value) (an : Option Addr) (cdv ct : Value) (osl : Array (Option Value)), kt.K.lookup g = some ⟨oc, od, .func (PySem.W.fnOf x x pg body sg dV kV doc pm an cdv ct), osl⟩ ∧ PySem.W.codeIn kt.K cdv x = true ∧
    L2.Binds kt.K (PySem.W.fnOf x x pg body sg dV kV doc pm an cdv ct) [a] []
  kp : PySem.W.keepIn kt.K (.ref g) = true
  gl : kt.mg x = some (.ref g)
  sc : FnScope Ng [a] sg
  n0 : Ng[0]? = some a
  vis : Vis sg a
section
variable {kt : Kt} {B : Bs} {X : Cx} {p : Bool} {d : DE}
theorem sx_told {Tl : List (Addr × Str)} {x a : Str} {g c P : Addr} {k : Nat} {sg : Scope} {Ng : List Str} {params : Arguments} {body : Expr} {scope : Scope} {np lpos pos p1 p2 p3 p8 : Pos} {h₀ : ExceptHandler} {hds : List ExceptHandler} {l : List (Addr × Str)} {tf : Ex → Option Str}
    (hT : kt.T = tabsOf Tl) (D : ToldD kt x a g Ng sg [.Try [.Return (some (.Call (.Name a p1) [] [] p2)) p3] (h₀ :: hds) [] [] p8] l)
    (hH : ∀ (cdv : Value) (s : Shared) (H : Hp), HdsOk (cxOf C8.CX0 X.prog X.w X.K X.mg X.base Ng x sg g cdv X.A X.stack s H C8.E0).nox (h₀ :: hds) (hdsL l)) (htf : ∀ c r, tf c = some r → toldAt kt.K (kt.exc c.cls) l = some r ∧ okStr r = true)
    (TB : TabB X.base X.mg c P) (hcode : X.env.code = .ref c) (hmT : (P, X.env.qual ++ "<lambda>") ∈ Tl) (hu : ∀ p ∈ Tl, p.1 = P → p.2 = X.env.qual ++ "<lambda>") (hr : Room (k + 2) X.A) (L : lamSB X.env.scope scope = true)
    (hbody : ∀ (A : Around) (outer : List Env) (s : Shared) (H : Hp) (E : XK) (f c' : Addr), Room k (A.deeper (lamEnv X scope s.heap.objs.size f c')) → SX kt B (lamCx X A outer s H E scope f c') p .s body d)
    (hg : Gl X x := by rfl) (hdef : defaultsOf params X.env = ([], []) := by rfl) (hbind : ∀ (q : Str) (cl : List (Str × Addr)) (pm cv ctv : Value), bindArgs (PySem.W.kla_fn "<lambda>" q params body scope cl pm cv ctv) ⟨[], []⟩ = pure [] := by intros; rfl)
    (hK : X.K = kt.K := by rfl) (hmg : X.mg = kt.mg := by rfl) (hdb : (x == ("__debug__" : Str)) = false := by decide) (hd : (a == ("__debug__" : Str)) = false := by decide) (hcd : (a == ("__classdict__" : Str)) = false := by decide) :
    SX kt B X p .s (.Call (.Name x np) [.Lambda params body scope lpos] [] pos) (dTold tf d) := fun Wish tk => by
  obtain ⟨⟨oc, od, pg, dV, kV, doc, pm, an, cdv, ct, osl, lk, hcg, hb⟩, kp, gl, Sg, hNg, hva⟩ := D
  rw [← hK] at lk hcg hb kp
  rw [← hmg] at gl
  refine ⟨fun pins s σ H Q I ⟨W, env, G, e, A, h⟩ => ?_⟩
  subst e
  have LS := lamS_by L
  refine wpAny_Call_Name_kw (ld_glob I hg gl ?_ hdb)
  refine PySem.W.callWith_K (h₀ := X.base) I.ok.mod.kin kp ?_ (by rfl) (by rfl)
  show wpAny _ _ (spliced ((false, eval (.Lambda params body scope lpos) X.env) :: backTo pos (starEach [] X.env))) _ _ s
  refine Calls.spliced_cons (lam_new I TB hcode hmT hu (tabs_to (by rw [← hT]; exact A.ok.tabs)) hdef (LS.has I.ok) fun f c' pm' ctv H1 s' I1 gr hf hfn hfr hco => Calls.spliced_nil ⟨I1.kIn, ?_⟩)
  obtain ⟨e1, A1⟩ := A.grown hT gr
  have h1 := PoX.shift (p := true) (q := p) (show PoX kt B (true && p) _ _ _ _ _ _ _ from by rw [Bool.true_and]; exact h) e1
  have rc : codeAny (model X.prog X.w) X.A (.call (.ref g) ⟨[.ref f], []⟩) (CR C8.CX0 X.stack X.prog X.w H1 s' Q C8.E0) s' := by
    refine run_ofS (N := Ng) (ps := [a]) (us := [.ref f]) (vs := [.ref f]) lk hcg Sg hr I1.env0 (hb s' [.ref f] I1.kIn rfl) (.cons rfl .nil) rfl fun hr' => ?_
    have X0 := ps_try_many (X := (cxOf C8.CX0 X.prog X.w X.K X.mg X.base Ng x sg g cdv X.A X.stack s' H1 C8.E0).nox) (pos := p8) (body := [.Return (some (.Call (.Name a p1) [] [] p2)) p3])
      (tb := fun Wi D σZ HZ => ∃ Ech : XK, (∀ cls d σ' H', Ech cls d H' → Wi cls d σ' H') ∧ σZ[0]? = some (some (.ref f)) ∧ HZ c' = some (CodeO c' (X.env.qual ++ "<lambda>")) ∧ rdX kt B p (fun cls d _ H => Ech cls d H) (fun W x v => Pk kt.K W .s x v) d σ HZ D.rt)
      rfl rfl LamX.takes0 (fun Wi pn xe tkW _ => ?_) (hH cdv s' H1)
    · refine ⟨_, (pss_one X0).nox, ?_⟩
      refine ⟨fun cls _ H' => ∃ r, toldAt X.K cls l = some r ∧ Q (.str r) H', fun cls d σ' H' ⟨r, q1, q2⟩ => wMany_told q1 q2, ?_, hco, ⟨W.Γ, W.ρ, H1⟩, env, G, rfl, A1, ?_⟩
      · have hpl : ([a] : List Str).length ≤ Ng.length := by
          have := congrArg List.length Sg.pre
          rw [List.length_take] at this; omega
        cases Ng with
        | nil => simp at hNg
        | cons y r => rfl
      · unfold dTold at h1
        cases q : d env G with
        | bad => rw [q] at h1; exact h1
        | ok v G1 => rw [q] at h1; exact h1
        | exn c1 G1 =>
          rw [q] at h1
          dsimp only at h1
          intro W' od ee A' z
          cases qt : tf c1 with
          | none => rw [qt] at h1; exact h1.elim
          | some r =>
            rw [qt] at h1
            obtain ⟨t1, t2⟩ := htf c1 r qt
            rw [hK]
            exact ⟨r, t1, h1 W' (.str r) ee A' (.inl ⟨rfl, t2⟩)⟩
    · refine ⟨fun pinsZ sZ σZ HZ DZ IZ ⟨Ech, hW, z1, z2, z3⟩ => ?_⟩
      have act := pe_act (CXg := C8.CX0) (Eg := C8.E0) (Ng := Ng) (i := 0) (p1 := p1) (p2 := p2) I1 LS hf hfn hfr (hbind _ _ _ _ _) tkW hW hr' (fun A outer s2 H2 hr2 => hbody A outer s2 H2 Ech f c' hr2 (fun cls d _ H => Ech cls d H) (takes_of rfl rfl rfl rfl)) hNg hva hd hcd
      exact (pss_one (ps_ret (pos := p3) act)).run pinsZ sZ σZ HZ DZ IZ ⟨z1, z2, z3⟩
  refine wpAny_call (codeAny_mono rc fun r s2 hq => ?_)
  rcases r with e | fl
  · exact (show False from hq).elim
  · cases fl with
    | ret u => exact I1.after hq
    | next => exact False.elim hq
    | brk => exact False.elim hq
    | cont => exact False.elim hq
end
end CardH
end
section
set_option maxHeartbeats 2000000
namespace CardH
open PySem PySem.Spec PyProof.Rows L2

/-! ### is None -/
def isNon : Vl → Bool
  | .non => true
  | _ => false
def vIsN : Vl → Vl → Option Vl
  | x, .non => some (.bl (isNon x))
  | _, _ => none
def vNotN : Vl → Vl → Option Vl
  | x, .non => some (.bl (!isNon x))
  | _, _ => none
theorem rep_non {K : PySem.W.Frag} {W : Wd} {x : Vl} {v : V} (h : Pk K W .f x v) : decide (v = .non) = isNon x := by
  cases x with
  | non => obtain rfl := h.non; rfl
  | bl b => obtain rfl := h.bl; rfl
  | int i => obtain rfl := h.int; rfl
  | str z => obtain ⟨rfl, _⟩ := h.str; rfl
  | tup xs => obtain ⟨a, vs, rfl, _⟩ := h.tup; rfl
  | stp xs => obtain ⟨a, vs, rfl, _⟩ := h.stp; rfl
  | ktp xs => obtain ⟨a, vs, rfl, _⟩ := h.ktp; rfl
  | lst xs => obtain ⟨a, vs, rfl, _⟩ := h.lst; rfl
  | dct t kvs =>
    cases t with
    | false => obtain ⟨a, vs, rfl, _⟩ := h.dK; rfl
    | true => obtain ⟨a, vs, rfl, _⟩ := h.dT; rfl
  | ref i => obtain ⟨a, rfl, _⟩ := h.ref; rfl
  | scr ns => obtain ⟨a, rfl, _⟩ := h.scr; rfl
section
variable {kt : Kt} {B : Bs} {X : Cx} {p pa pb : Bool} {m ma mb : Md} {a b e : Expr} {es : List Expr} {da db d : DE} {ds : DA} {pos np : Pos} {x : Str}
theorem ops_isN : OpS kt X (compareOp .Is) vIsN := by
  refine ⟨_, op_isN, fun B σ env G W x y v u z Q A hx hy e q => ?_⟩
  unfold vIsN at e
  split at e
  · cases e
    exact ⟨hy.non, by rw [rep_non hx]; exact q W _ Ext.refl A rfl⟩
  · cases e
theorem ops_notN : OpS kt X (compareOp .IsNot) vNotN := by
  refine ⟨_, op_notN, fun B σ env G W x y v u z Q A hx hy e q => ?_⟩
  unfold vNotN at e
  split at e
  · cases e
    exact ⟨hy.non, by rw [rep_non hx]; exact q W _ Ext.refl A rfl⟩
  · cases e

/-! ### lists of ints -/
def listOf (G : Gst) (x : Vl) : Option (List Vl) := match seqOf G x with
  | some (false, ys) => some ys
  | _ => none
def iList1 (G : Gst) : List Vl → Option (List Int)
  | [x] => (listOf G x).bind intsOf
  | _ => none
theorem iList1_r {W : Wd} {G : Gst} {σ : L2.St} {env : LEnv} {xs : List Vl} {vs : List V} {ns : List Int} (A : RAll kt B W σ env G) (hx : PkS kt.K W .f xs vs) (e : iList1 G xs = some ns) : ∃ a, vs = [.ref a] ∧ SqL kt.K W.H a (ns.map V.int) := by
  unfold iList1 at e
  split at e
  · rename_i x
    obtain ⟨v, rfl, h⟩ := hx.one
    obtain ⟨ys, e1, e2⟩ := Option.bind_eq_some_iff.mp e
    unfold listOf at e1
    split at e1
    · rename_i zs e3
      cases e1
      obtain ⟨a, us, rfl, r, g⟩ := seqOf_r A h e3
      rw [intsOf_eq e2] at r
      rw [ints_reps r] at g
      exact ⟨a, rfl, g⟩
    · cases e1
  · cases e
def oSumI (G : Gst) (xs : List Vl) : Option Vl := (iList1 G xs).map fun ns => .int ns.sum
def maxI : List Int → Option Int
  | [] => none
  | x :: xs => some (xs.foldl max x)
def minI : List Int → Option Int
  | [] => none
  | x :: xs => some (xs.foldl min x)
theorem foldl_max : ∀ (xs : List Int) (x : Int), xs.foldl max x ∈ x :: xs ∧ ∀ y ∈ x :: xs, y ≤ xs.foldl max x
  | [], x => ⟨by simp, fun y hy => by simp at hy; simp [hy]⟩
  | z :: xs, x => by
    obtain ⟨h1, h2⟩ := foldl_max xs (max x z)
    simp only [List.foldl_cons]
    refine ⟨?_, fun y hy => ?_⟩
    · rcases List.mem_cons.mp h1 with e | h
      · rw [e]
        rcases Int.le_total x z with k | k
        · rw [Int.max_eq_right k]; simp
        · rw [Int.max_eq_left k]; simp
      · simp [h]
    · have hm := h2 (max x z) (by simp)
      rcases List.mem_cons.mp hy with e | h
      · subst e; omega
      · rcases List.mem_cons.mp h with e | h
        · subst e; omega
        · exact h2 y (by simp [h])
theorem foldl_min : ∀ (xs : List Int) (x : Int), xs.foldl min x ∈ x :: xs ∧ ∀ y ∈ x :: xs, xs.foldl min x ≤ y
  | [], x => ⟨by simp, fun y hy => by simp at hy; simp [hy]⟩
  | z :: xs, x => by
    obtain ⟨h1, h2⟩ := foldl_min xs (min x z)
    simp only [List.foldl_cons]
    refine ⟨?_, fun y hy => ?_⟩
    · rcases List.mem_cons.mp h1 with e | h
      · rw [e]
        rcases Int.le_total x z with k | k
        · rw [Int.min_eq_left k]; simp
        · rw [Int.min_eq_right k]; simp
      · simp [h]
    · have hm := h2 (min x z) (by simp)
      rcases List.mem_cons.mp hy with e | h
      · subst e; omega
      · rcases List.mem_cons.mp h with e | h
        · subst e; omega
        · exact h2 y (by simp [h])
def oMaxI (G : Gst) (xs : List Vl) : Option Vl := ((iList1 G xs).bind maxI).map .int
def oMinI (G : Gst) (xs : List Vl) : Option Vl := ((iList1 G xs).bind minI).map .int
theorem fn_sumI (hc : X.calm = true) (hK : X.K = kt.K := by rfl) : FnS kt X (.builtin "sum") oSumI := by
  refine ⟨_, cr_sum hc, fun B σ env G W xs vs z Q A hx e q => ?_⟩
  obtain ⟨ns, e1, rfl⟩ := Option.map_eq_some_iff.mp e
  obtain ⟨a, rfl, h⟩ := iList1_r A hx e1
  rw [hK]
  exact ⟨a, ns, rfl, h, q W _ Ext.refl A rfl⟩
theorem fn_maxI (hc : X.calm = true) (hK : X.K = kt.K := by rfl) : FnS kt X (.builtin "max") oMaxI := by
  refine ⟨_, cr_max hc, fun B σ env G W xs vs z Q A hx e q => ?_⟩
  obtain ⟨k, e0, rfl⟩ := Option.map_eq_some_iff.mp e
  obtain ⟨ns, e1, e2⟩ := Option.bind_eq_some_iff.mp e0
  obtain ⟨a, rfl, h⟩ := iList1_r A hx e1
  rw [hK]
  cases ns with
  | nil => cases e2
  | cons n ns =>
    cases e2
    obtain ⟨f1, f2⟩ := foldl_max ns n
    refine ⟨a, n :: ns, rfl, h, by simp, fun m hm hb => ?_⟩
    have : m = ns.foldl max n := Int.le_antisymm (f2 m hm) (hb _ f1)
    subst this
    exact q W _ Ext.refl A rfl
theorem fn_minI (hc : X.calm = true) (hK : X.K = kt.K := by rfl) : FnS kt X (.builtin "min") oMinI := by
  refine ⟨_, cr_min hc, fun B σ env G W xs vs z Q A hx e q => ?_⟩
  obtain ⟨k, e0, rfl⟩ := Option.map_eq_some_iff.mp e
  obtain ⟨ns, e1, e2⟩ := Option.bind_eq_some_iff.mp e0
  obtain ⟨a, rfl, h⟩ := iList1_r A hx e1
  rw [hK]
  cases ns with
  | nil => cases e2
  | cons n ns =>
    cases e2
    obtain ⟨f1, f2⟩ := foldl_min ns n
    refine ⟨a, n :: ns, rfl, h, by simp, fun m hm hb => ?_⟩
    have : m = ns.foldl min n := Int.le_antisymm (hb _ f1) (f2 m hm)
    subst this
    exact q W _ Ext.refl A rfl
/-- sorted ints -/
def insI (x : Int) : List Int → List Int
  | [] => [x]
  | y :: ys => if x ≤ y then x :: y :: ys else y :: insI x ys
def sortI (xs : List Int) : List Int := xs.foldr insI []
theorem insI_perm (x : Int) : ∀ ys : List Int, (insI x ys).Perm (x :: ys)
  | [] => List.Perm.refl _
  | y :: ys => by
    unfold insI
    split
    · exact List.Perm.refl _
    · exact ((insI_perm x ys).cons y).trans (List.Perm.swap x y ys)
theorem insI_sorted (x : Int) : ∀ {ys : List Int}, ys.Pairwise (· ≤ ·) → (insI x ys).Pairwise (· ≤ ·)
  | [], _ => by simp [insI]
  | y :: ys, h => by
    unfold insI
    obtain ⟨h1, h2⟩ := List.pairwise_cons.mp h
    split
    · rename_i hxy
      exact List.pairwise_cons.mpr ⟨fun z hz => by
        rcases List.mem_cons.mp hz with e | hz
        · omega
        · have := h1 z hz; omega, h⟩
    · rename_i hxy
      refine List.pairwise_cons.mpr ⟨fun z hz => ?_, insI_sorted x h2⟩
      rcases List.mem_cons.mp ((insI_perm x ys).mem_iff.mp hz) with e | hz
      · omega
      · exact h1 z hz
theorem sortI_perm : ∀ xs : List Int, (sortI xs).Perm xs
  | [] => List.Perm.refl _
  | x :: xs => (insI_perm x _).trans ((sortI_perm xs).cons x)
theorem sortI_sorted : ∀ xs : List Int, (sortI xs).Pairwise (· ≤ ·)
  | [] => List.Pairwise.nil
  | x :: xs => insI_sorted x (sortI_sorted xs)
theorem sorted_uniq : ∀ {xs ys : List Int}, xs.Perm ys → xs.Pairwise (· ≤ ·) → ys.Pairwise (· ≤ ·) → xs = ys
  | [], ys, p, _, _ => (List.nil_perm.mp p).symm
  | x :: xs, [], p, _, _ => by have := p.length_eq; simp at this
  | x :: xs, y :: ys, p, h, g => by
    obtain ⟨h1, h2⟩ := List.pairwise_cons.mp h
    obtain ⟨g1, g2⟩ := List.pairwise_cons.mp g
    have e : x = y := by
      have a1 : x ∈ y :: ys := p.mem_iff.mp (by simp)
      have a2 : y ∈ x :: xs := p.mem_iff.mpr (by simp)
      rcases List.mem_cons.mp a1 with e | a1
      · exact e
      · rcases List.mem_cons.mp a2 with e | a2
        · exact e.symm
        · have := h1 y a2; have := g1 x a1; omega
    subst e
    rw [sorted_uniq (List.Perm.cons_inv p) h2 g2]
def oSortI (G : Gst) (xs : List Vl) : Option Vl := (iList1 G xs).map fun ns => .lst ((sortI ns).map .int)
theorem fn_sortI (hK : X.K = kt.K := by rfl) : FnS kt X (.builtin "sorted") oSortI := by
  refine ⟨_, cr_sortedI, fun B σ env G W xs vs z Q A hx e q => ?_⟩
  obtain ⟨ns, e1, rfl⟩ := Option.map_eq_some_iff.mp e
  obtain ⟨a, rfl, h⟩ := iList1_r A hx e1
  rw [hK]
  refine ⟨a, ns, rfl, h, fun ns' p hp hs hn => ?_⟩
  obtain rfl : ns' = sortI ns := sorted_uniq (hp.trans (sortI_perm ns).symm) hs (sortI_sorted ns)
  obtain ⟨e2, A2, r⟩ := new_lst A hn (reps_ints (K := kt.K) (W := W) (sortI ns))
  exact q _ _ e2 A2 r

/-! ### isinstance of a built-in type -/
def tyNm : Vl → Option String
  | .non => some "NoneType"
  | .bl _ => some "bool"
  | .int _ => some "int"
  | .str _ => some "str"
  | .tup _ => some "tuple"
  | .stp _ => some "tuple"
  | .lst _ => some "list"
  | _ => none
def vIsi (T : String) (f : String → Option Bool) (x : Vl) : Option Vl := ((tyNm x).bind f).map .bl
theorem tyNm_r {K : PySem.W.Frag} {W : Wd} {y : Vl} {v : V} {n : String} (h : Pk K W .f y v) (e : tyNm y = some n) : TyX K W.H v (.type n) := by
  cases y with
  | non => cases e; obtain rfl := h.non; exact .base .non
  | bl b => cases e; obtain rfl := h.bl; exact .base (.bl b)
  | int i => cases e; obtain rfl := h.int; exact .base (.int i)
  | str z => cases e; obtain ⟨rfl, _⟩ := h.str; exact .base (.str z)
  | tup xs => cases e; obtain ⟨a, vs, o, rfl, _, g, _, _⟩ := h.tup'; exact .fTuple g
  | stp xs =>
    cases e
    obtain ⟨a, vs, rfl, g, _⟩ := h.val (fun _ z => nomatch z) fun _ _ z => nomatch z
    exact .base (.tup g)
  | lst xs => cases e; obtain ⟨a, vs, rfl, g, _⟩ := h.lst; exact .base (.lst g)
  | _ => cases e
theorem sx_isi (T : String) (f : String → Option Bool) {tn : Str} {p2 : Pos} (hf : ∀ n b, f n = some b → PySem.W.kitOne X.K (.type n) (.type T) = some b) (ha : SX kt B X p m a da) (hv : bootBuiltins tn = some (.type T)) (hg : Gl X "isinstance" := by rfl) (hm : X.mg "isinstance" = none := by rfl) (hgt : Gl X tn := by rfl) (hmt : X.mg tn = none := by rfl)
    (hb : bootBuiltins "isinstance" = some (.builtin "isinstance") := by kernel_rfl) (hn : tn ≠ "__name__" := by decide) (hd : (tn == ("__debug__" : Str)) = false := by decide) (hK : X.K = kt.K := by rfl)
    (he1 : starEach [a, .Name tn p2] X.env = (false, eval a X.env) :: starEach [.Name tn p2] X.env := by rfl) (he2 : starEach [.Name tn p2] X.env = (false, eval (.Name tn p2) X.env) :: starEach [] X.env := by rfl) (hpl : (backTo pos (starEach [.Name tn p2] X.env)).any (·.1) = false := by rfl) :
    SX kt B X p .s (.Call (.Name "isinstance" np) [a, .Name tn p2] [] pos) (dUn (vIsi T f) da) := fun Wish tk => by
  refine (pe_callB call_isi hg hm hb (pa_cons (ha Wish tk) (pa_cons (pe_bltn (v := .ty T) hgt hmt hv rfl hn hd) pa_nil he2) he1) (by decide) (by decide) he1 hpl).imp fun σ H Q ⟨W, env, G, e, A, h⟩ => ?_
  subst e
  refine ⟨W, env, G, rfl, A, h.bindL.mono ?_⟩
  rintro v H1 ⟨W1, y, G1, rfl, e1, A1, z1, h1⟩
  obtain ⟨z, ez, q⟩ := opsPo h1
  obtain ⟨b, e0, rfl⟩ := Option.map_eq_some_iff.mp ez
  obtain ⟨n, e2, e3⟩ := Option.bind_eq_some_iff.mp e0
  exact ⟨v, .ty T, .type n, .type T, b, rfl, .ty T, by rw [hK]; exact tyNm_r z1.any e2, hf n b e3, q W1 _ Ext.refl A1 rfl⟩

/-! ### in a range; list(range) -/
def vInR (x i j : Vl) : Option Vl := match x, i, j with
  | .int k, .int a, .int b => some (.bl (decide (a ≤ k ∧ k < b)))
  | _, _, _ => none
def dInR (dx : DE) (ds : DA) : DE := fun env G => (dx env G).bind fun x G1 => (ds env G1).bind fun ys G2 => match ys with
  | [i, j] => opt (vInR x i j) G2
  | _ => .bad
theorem sx_inR {b c : Expr} {p3 p4 : Pos} (hx : SX kt B X pa .s a da) (ha : SAm kt B X pb .s [b, c] ds) (hg : Gl X "range" := by rfl) (hm : X.mg "range" = none := by rfl) (he : starEach [b, c] X.env = (false, eval b X.env) :: starEach [c] X.env := by rfl) (hpl : (backTo p4 (starEach [c] X.env)).any (·.1) = false := by rfl)
    (hk : behindInMarks .In (.Call (.Name "range" p3) [b, c] [] p4) = false := by rfl) : SX kt B X (pa && pb) .s (.Compare a [.In] [.Call (.Name "range" p3) [b, c] [] p4] pos) (dInR da ds) := fun Wish tk => by
  refine (pe_cmpR op_in_rng (hx Wish tk) (pe_callTy cr_range2 hg hm boot_range (ha Wish tk) (by decide) (by decide) he hpl) hk).imp fun σ H Q ⟨W, env, G, e, A, h⟩ => ?_
  subst e
  refine ⟨W, env, G, rfl, A, h.bindE.mono ?_⟩
  rintro v H1 ⟨W1, x, G1, rfl, e1, A1, z1, h1⟩
  refine ⟨W1, env, G1, rfl, A1, h1.bindL.mono ?_⟩
  rintro vs H2 ⟨W2, ys, G2, rfl, e2, A2, z2, h2⟩
  split at h2
  · rename_i i j
    obtain ⟨z, ez, q⟩ := opsPo h2
    unfold vInR at ez
    split at ez
    · cases ez
      obtain ⟨v1, v2, rfl, r1, r2⟩ := z2.two
      cases r1.int; cases r2.int; cases z1.int
      refine ⟨_, _, rfl, fun p hp => ⟨_, p, _, _, rfl, rfl, upd_same, ?_⟩⟩
      exact q (W2.alloc p (.rng _ _) .no) _ (Ext.alloc hp) (A2.alloc hp rfl rfl) rfl
    · cases ez
  · exact h2.elim
def lRng (f : List Vl → Option (List Vl)) (xs : List Vl) : Option Vl := (f xs).bind fun ys => if ys.length ≤ 16777216 then some (.lst ys) else none
theorem list_of_range {pins : List (Addr × Obj)} {σ : L2.St} {H : Hp} {s : Shared} {Q : VK} {r : Addr} {i j c : Int} {n : Nat} {t u v : Tok} (hc : X.calm = true) (I : L2.Inv X pins σ H s) (hr : IsRange s.heap r i j c t u v) (g : RgC i j c n) (hn : n ≤ 16777216)
    (q : ∀ l, H l = none → Q (.ref l) (upd H l (.lst ((List.range n).map fun k => V.int (i + (k : Nat) * c))))) : wpAny (model X.prog X.w) X.A (call (.type "list") [.ref r]) (EP X pins σ Q) X.xe s := by
  refine call_list_range (n := n) (I.ok.hd hc) hr g.2.2.1 g.2.2.2 hn fun h' tk acc c' hk e' hi => ?_
  have hl : acc.toList.length = n := by rw [Array.length_toList]; exact hi.1
  have hv : Vals ((List.range n).map fun k => V.int (i + (k : Nat) * c)) acc.toList := by
    rw [← hl]
    refine vals_of_get acc.toList _ fun k w hw => ?_
    obtain ⟨t', rfl⟩ := hi.2 k w (by rw [← hw, Array.getElem?_toList])
    exact ⟨t', rfl⟩
  exact ⟨.ref s.heap.objs.size, upd H s.heap.objs.size (.lst _), I.laid hk (Nat.le_refl _) (show ObjOk X.prog X.w _ _ _ (.lst ((List.range n).map fun k => V.int (i + (k : Nat) * c))) from
    ⟨by rw [List.length_map, List.length_range, sizeLine_eq]; exact hn, acc.toList, c', hv, by rw [Array.toArray_toList]; exact e'⟩), rfl, q _ (I.hok.fresh (Nat.le_refl _))⟩
theorem RgC.one {i j : Int} (h : -(2 ^ 62) ≤ i ∧ i < 2 ^ 62 ∧ -(2 ^ 62) ≤ j ∧ j < 2 ^ 62) : RgC i j 1 (j - i).toNat := ⟨by decide, by decide, small_one h.1 h.2.1 h.2.2.1 h.2.2.2, rangeSize_nat i j⟩
/-- range's parts: from, to, step, how many -/
def rgOf : List Vl → Option (Int × Int × Int × Nat)
  | [.int j] => if sm62 j = true then some (0, j, 1, j.toNat) else none
  | [.int i, .int j] => if sm62 i = true ∧ sm62 j = true then some (i, j, 1, (j - i).toNat) else none
  | [.int i, .int j, .int c] => if c ≠ 0 ∧ c.natAbs < 1073741824 ∧ Builtin.Range.small i j c = true ∧ 0 ≤ Builtin.Range.rangeSize i j c then some (i, j, c, (Builtin.Range.rangeSize i j c).toNat) else none
  | _ => none
def oRgL (xs : List Vl) : Option Vl := (rgOf xs).bind fun q => if q.2.2.2 ≤ 16777216 then some (.lst (rgC q.1 q.2.2.1 q.2.2.2)) else none
theorem rgC_reps {K : PySem.W.Frag} {W : Wd} {i c : Int} {n : Nat} : Reps K W (rgC i c n) ((List.range n).map fun k => V.int (i + (k : Nat) * c)) := by
  have := reps_ints (K := K) (W := W) ((List.range n).map fun k : Nat => i + (k : Int) * c)
  rw [List.map_map, List.map_map] at this
  exact this
/-- list(range(..)) -/
theorem sx_lrg {es : List Expr} {e : Expr} {p3 p4 : Pos} (hc : X.calm = true) (ha : SAm kt B X p .s (e :: es) ds) (hg : Gl X "range" := by rfl) (hm : X.mg "range" = none := by rfl) (hgl : Gl X "list" := by rfl) (hml : X.mg "list" = none := by rfl)
    (he : starEach (e :: es) X.env = (false, eval e X.env) :: starEach es X.env := by rfl) (hpl : (backTo p4 (starEach es X.env)).any (·.1) = false := by rfl)
    (na : starEach [.Call (.Name "range" p3) (e :: es) [] p4] X.env = (false, eval (.Call (.Name "range" p3) (e :: es) [] p4) X.env) :: starEach [] X.env := by rfl) :
    SX kt B X p .s (.Call (.Name "list" np) [.Call (.Name "range" p3) (e :: es) [] p4] [] pos) (dFn (fun _ => oRgL) ds) := fun Wish tk => by
  refine ⟨fun pins s σ H Q I ⟨W, env, G, e0, A, h⟩ => ?_⟩
  subst e0
  refine wpAny_Call_Name_kw (ld_blt I hgl hml boot_list ?_ (by decide) (by decide))
  refine PyProof.Rows.callWith_type1 ?_ na rfl
  rw [na]
  show wpAny _ _ (spliced ((false, eval (.Call (.Name "range" p3) (e :: es) [] p4) X.env) :: backTo pos (starEach [] X.env))) _ _ s
  refine Calls.spliced_cons (wpAny_Call_Name_kw (ld_blt I hg hm boot_range (PyProof.Rows.callWith_type1 (thn ((ha Wish tk).run p4 pins s σ _ _ I ⟨W, env, G, rfl, A, h.bindL.mono fun _ _ z => z⟩) fun us s1 ⟨vs, H1, I1, rv, W1, xs, G1, e1, ee, A1, z1, h1⟩ => ?_) he hpl) (by decide) (by decide)))
  subst e1
  obtain ⟨z, ez, q⟩ := opsPo h1
  obtain ⟨⟨i, j, c, n⟩, eg, e2⟩ := Option.bind_eq_some_iff.mp ez
  split at e2
  case isFalse => cases e2
  rename_i hn
  cases e2
  have fin : ∀ {s' : Shared} {r : Addr} {t u v : Tok}, L2.Inv X pins σ W1.H s' → IsRange s'.heap r i j c t u v → RgC i j c n → wpAny (model X.prog X.w) X.A (call (.type "list") [.ref r]) (EP X pins σ Q) X.xe s' := fun {s' r t u v} I' hr g =>
    list_of_range hc I' hr g hn fun l hl => by
      obtain ⟨e3, A3, r3⟩ := new_lst A1 hl (rgC_reps (K := kt.K) (W := W1) (i := i) (c := c) (n := n))
      exact q _ _ e3 A3 r3
  unfold rgOf at eg
  split at eg
  · split at eg
    · rename_i hb
      cases eg
      have hb := sm62_ok hb
      obtain ⟨v, rfl, z2⟩ := z1.one
      cases z2.int
      cases rv with
      | cons r1 r2 =>
        cases r2
        obtain ⟨t, rfl⟩ := r1
        refine call_range_1 (Calls.spliced_nil (fin (I1.kept fun b u e => Heap.get?_push_of_some _ e) (IsRange.new _ _ _ _ _ _ _) ?_))
        have := RgC.one (i := 0) (j := j) ⟨by omega, by omega, hb.1, hb.2⟩
        simpa using this
    · cases eg
  · split at eg
    · rename_i hb
      cases eg
      obtain ⟨v, v2, rfl, z2, z3⟩ := z1.two
      cases z2.int; cases z3.int
      cases rv with
      | cons r1 r2 =>
        cases r2 with
        | cons r2 r3 =>
          cases r3
          obtain ⟨t, rfl⟩ := r1
          obtain ⟨t', rfl⟩ := r2
          exact call_range_2 (Calls.spliced_nil (fin (I1.kept fun b u e => Heap.get?_push_of_some _ e) (IsRange.new _ _ _ _ _ _ _) (RgC.one ⟨(sm62_ok hb.1).1, (sm62_ok hb.1).2, (sm62_ok hb.2).1, (sm62_ok hb.2).2⟩)))
    · cases eg
  · split at eg
    · rename_i hb
      cases eg
      obtain ⟨c0, c1, c2, c3⟩ := hb
      obtain ⟨v, v2, v3, rfl, z2, z3, z4⟩ := z1.three
      cases z2.int; cases z3.int; cases z4.int
      cases rv with
      | cons r1 r2 =>
        cases r2 with
        | cons r2 r3 =>
          cases r3 with
          | cons r3 r4 =>
            cases r4
            obtain ⟨t, rfl⟩ := r1
            obtain ⟨t', rfl⟩ := r2
            obtain ⟨t'', rfl⟩ := r3
            exact call_range_3 c0 (Calls.spliced_nil (fin (I1.kept fun b u e => Heap.get?_push_of_some _ e) (IsRange.new _ _ _ _ _ _ _) ⟨c0, c1, c2, (Int.toNat_of_nonneg c3).symm⟩)) (.inl (PyProof.noPylong_small c1))
    · cases eg
  · cases eg
end
end CardH
end
section
set_option maxHeartbeats 2000000
namespace CardH
open PySem PySem.Spec PyProof.Rows L2

/-! ### a slot's own list or dict is written -/
def isSlot (i : Nat) : Role → Bool
  | .slot j => j == i
  | _ => false
section
variable {kt : Kt} {B : Bs} {W W0 : Wd} {σ : L2.St} {env : LEnv} {G : Gst} {a : Addr} {o o0 : HO} {i : Nat} {p : Bool}
theorem ExtR.slotWr (ha : W.Γ a = .slot i) (h : W.H a = some o0) (hw : okW o0 = true) : ExtR p (isSlot i) W (W.wr a o) where
  role := fun _ _ _ => rfl
  keep := fun b u hb _ hs _ => (upd_ne (fun e => by rw [e, ha] at hs; simp [isSlot] at hs)).trans hb
  tups := fun b xs hb => (upd_ne (fun e => by rw [e, h] at hb; cases hb; cases hw)).trans hb
  there := fun b hb => by
    show upd W.H a o b ≠ none
    by_cases e : b = a
    · rw [e, upd_same]; simp
    · rw [upd_ne e]; exact hb
  pre := ⟨[], by simp [Wd.wr]⟩
theorem ExtR.toSl {S : Role → Bool} {W' : Wd} (hS : ∀ r, S r = true → isSl r = true) (e : ExtR p S W W') : ExtS W W' := by
  have hf : ∀ r, isSl r = false → S r = false := fun r h => by
    cases q : S r with
    | false => rfl
    | true => rw [hS r q] at h; cases h
  exact ⟨fun a h hs => e.role a h (hf _ hs), fun a o h nt hs hp => e.keep a o h nt (hf _ hs) (hp.imp (fun z => nomatch z) id), e.tups, e.there, e.pre⟩
theorem isSlot_sl : ∀ r, isSlot i r = true → isSl r = true := fun r h => by cases r <;> first | rfl | cases h
theorem Ext.wr0 (e : Ext p W0 W) (h0 : W0.H a = none) (h : W.H a = some o0) (hw : okW o0 = true) : Ext p W0 (W.wr a o) where
  role := fun b hb => e.role b hb
  keep := fun b u hb nt hp => (upd_ne (ne_of_none hb h0)).trans (e.keep b u hb nt hp)
  tups := fun b zs hb => (upd_ne (ne_of_none hb h0)).trans (e.tups b zs hb)
  there := fun b hb => by
    show upd W.H a o b ≠ none
    rw [upd_ne (fun z => hb (by rw [z]; exact h0))]; exact e.there b hb
  pre := e.pre
theorem RAll.slotWr {fv : Fv} (A : RAll kt B W σ env G) (ha : W.Γ a = .slot i) (h : W.H a = some o0) (hw : okW o0 = true) (hw' : okW o = true) (h0 : B.W0.H a = none) (hσ : σ[i]? = some (some (.ref a))) (hv : FvRep kt.K (W.wr a o) (.slot i) fv (.ref a)) :
    RAll kt B (W.wr a o) σ (env.set i (some fv)) G := by
  have e : ExtR true (isSlot i) W (W.wr a o) := ExtR.slotWr ha h hw
  have e2 : ExtR false (isSlot i) W (W.wr a o) := ExtR.slotWr ha h hw
  refine ⟨⟨fun b hb => e.there b (A.ok.tr b hb), A.ok.rg.extR e rfl rfl (fun _ => rfl) (fun _ _ => rfl) rfl, ?_, fun b ps q => ?_⟩, ⟨by rw [List.length_set]; exact A.re.len, fun j g hj => ?_⟩, A.si.wr0 h0 h hw, fun z b u x q => ?_⟩
  · refine tabs_but A.ok.tabs fun b u q k => (upd_ne (fun z => ?_)).trans q
    rw [z, h] at q; cases q
    rcases k with ⟨_, k⟩ | ⟨_, k⟩ <;> rw [k] at hw <;> cases hw
  · have q : upd W.H a o b = some (.tbl ps) := q
    by_cases z : b = a
    · rw [z, upd_same] at q; cases q; cases hw'
    · rw [upd_ne z] at q; exact A.ok.tb b ps q
  · by_cases eij : i = j
    · subst eij
      by_cases hi : i < env.length
      · rw [List.getElem?_set_self hi] at hj
        cases hj
        exact ⟨.ref a, hσ, hv, fun _ b z => by cases z; exact h0⟩
      · rw [List.getElem?_eq_none (by simpa using hi)] at hj; cases hj
    · rw [List.getElem?_set_ne eij] at hj
      obtain ⟨v, q1, q2, q3⟩ := A.re.sl j g hj
      exact ⟨v, q1, FvRep.extR e2 rfl rfl (by simp [isSlot]; exact Ne.symm eij) (.inr rfl) _ _ q2, q3⟩
  · have q : upd W.H a o b = some (.frz u x) := q
    by_cases k : b = a
    · rw [k, upd_same] at q; cases q; cases hw'
    · rw [upd_ne k] at q
      exact A.nl z b u x q
/-- a new list, dict of a slot's own -/
theorem RAll.ownL (A : RAll kt B W σ env G) (hp : W.H a = none) {xs : List Vl} {vs : List V} (h : Reps kt.K W xs vs) : RAll kt B (W.alloc a (.lst vs) (.slot i)) (σ.set i (some (.ref a))) (env.set i (some (.ol xs))) G := by
  have A1 := A.alloc (o := .lst vs) (r := .slot i) hp rfl rfl
  exact ⟨A1.ok, A1.re.set ⟨a, vs, rfl, if_pos rfl, upd_same, Reps.ext (Ext.alloc hp) _ _ h⟩ fun _ b z => by cases z; exact A.fresh hp, A1.si, A1.nl⟩
theorem RAll.ownD (A : RAll kt B W σ env G) (hp : W.H a = none) : RAll kt B (W.alloc a (.dK []) (.slot i)) (σ.set i (some (.ref a))) (env.set i (some (.od false []))) G := by
  have A1 := A.alloc (o := .dK []) (r := .slot i) hp rfl rfl
  exact ⟨A1.ok, A1.re.set (fv := .od false []) ⟨a, [], rfl, if_pos rfl, .inl upd_same, rfl⟩ fun _ b z => by cases z; exact A.fresh hp, A1.si, A1.nl⟩
/-- the slot's own list is seen as a value from now on -/
def isSlotR (i : Nat) : Role → Bool := isSlot i
end
def dOwnL (i : Nat) (ds : DA) : DS := fun e G => sb e (ds e G) fun xs G1 => if xs.length ≤ 16777216 then .nx (e.set i (some (.ol xs))) G1 else .bad
def dOwnD (i : Nat) : DS := fun e G => .nx (e.set i (some (.od false []))) G
/-- d[k] = v -/
def dPutD (i : Nat) (dv dk : DE) : DS := fun e G => sb e (dv e G) fun v G1 => match e[i]? with
  | some (some (.od false kvs)) => sb e (dk e G1) fun k G2 => match keyOf k with
    | some q => if kvs.length < 16777216 then .nx (e.set i (some (.od false (dputF keyOf kvs k q v)))) G2 else .bad
    | none => .bad
  | _ => .bad
/-- l.append(v) -/
def dApp (i : Nat) (dv : DE) : DS := fun e G => match e[i]? with
  | some (some (.ol xs)) => sb e (dv e G) fun v G1 => if xs.length < 16777216 then .nx (e.set i (some (.ol (xs ++ [v])))) G1 else .bad
  | _ => .bad
/-- the own list of a slot is a value from now on -/
def frzE (i : Nat) (e : LEnv) : LEnv := match e[i]? with
  | some (some (.ol xs)) => e.set i (some (.val (.lst xs)))
  | _ => e
def dFrz (i : Nat) (d : DS) : DS := fun e G => d (frzE i e) G
section
variable {kt : Kt} {B : Bs} {X : Cx} {p pa pb : Bool} {m ma mb : Md} {a b e : Expr} {es : List Expr} {da db d dv dk : DE} {ds : DA} {pos pos' np : Pos} {x : Str} {st : Stmt} {sts : List Stmt} {dst : DS}
theorem ss_ownL (i : Nat) {p2 : Pos} (hN : X.N.Nodup) (ha : SAm kt B X p .s es ds) (hi : X.N[i]? = some x := by rfl) (hx : Loc X.env.scope x := by first | exact Or.inl rfl | exact Or.inr rfl) (hs : swapsWith (.List es p2) (some (.Name x pos')) pos.line X.env = pure false := by rfl)
    (hf : X.fn x = true ∨ X.env.scope.names.lookup x = some .local := by first | exact .inl rfl | exact .inr rfl) : SS kt B X (.Assign [.Name x pos'] (.List es p2) pos) (dOwnL i ds) := fun Wish tk => (ps_set hN hi hx (pe_lst (ha Wish tk)) hs hf).imp fun D σ H ⟨W, env, G, e, A, h⟩ => by
  subst e
  refine ⟨W, env, G, rfl, A, h.bindS.mono ?_⟩
  rintro vs H1 ⟨W1, xs, G1, rfl, e1, A1, z1, h1⟩
  split at h1
  · refine ⟨by rw [← z1.strict.length, sizeLine_eq]; assumption, fun p hp => ?_⟩
    exact h1 (W1.alloc p (.lst vs) (.slot i)) _ (Ext.alloc (p := p) hp).toS (A1.ownL hp z1.strict)
  · exact h1.elim
theorem ss_ownD (i : Nat) {p2 : Pos} (hN : X.N.Nodup) (hi : X.N[i]? = some x := by rfl) (hx : Loc X.env.scope x := by first | exact Or.inl rfl | exact Or.inr rfl) (hs : swapsWith (.Dict [] [] p2) (some (.Name x pos')) pos.line X.env = pure false := by rfl)
    (hf : X.fn x = true ∨ X.env.scope.names.lookup x = some .local := by first | exact .inl rfl | exact .inr rfl) : SS kt B X (.Assign [.Name x pos'] (.Dict [] [] p2) pos) (dOwnD i) := fun Wish tk => (ps_set hN hi hx pe_dnewK hs hf).imp fun D σ H ⟨W, env, G, e, A, h⟩ => by
  subst e
  exact fun p hp => h (W.alloc p (.dK []) (.slot i)) _ (Ext.alloc hp).toS (A.ownD hp)
theorem ss_putD (i : Nat) {p3 : Pos} (hlk : B.lk = false) (hu : X.A.units + 1 < cLine) (hv : SX kt B X pa .s e dv) (hk : SX kt B X pb .s b dk) (hi : X.N[i]? = some x := by rfl) (hvis : Vis X.env.scope x := by first | exact Or.inl rfl | exact Or.inr (Or.inl rfl) | exact Or.inr (Or.inr rfl))
    (hd : (x == ("__debug__" : Str)) = false := by decide) (hcd : (x == ("__classdict__" : Str)) = false := by decide) (hs : swapsWithSole [.Subscript (.Name x p3) b pos'] e pos.line X.env = pure false := by rfl) (hw : swappedStores [.Subscript (.Name x p3) b pos'] e X.env = pure none := by rfl)
    (h1 : (assignEach [.Subscript (.Name x p3) b pos'] X.env).map (·.2) = [assign (.Subscript (.Name x p3) b pos') X.env] := by rfl)
    (ha : ∀ v, assign (.Subscript (.Name x p3) b pos') X.env v = (do
      let ov ← holding [v] (eval (.Name x p3) X.env)
      let iv ← holding [v, ov] (eval b X.env)
      standAt pos'
      holding [v, ov, iv] (setItem ov iv v)
      release [v, ov, iv] []) := by intro _; rfl) : SS kt B X (.Assign [.Subscript (.Name x p3) b pos'] e pos) (dPutD i dv dk) := fun Wish tk => by
  refine (ps_asg (hv Wish tk) (pg_sub (pe_var hi hvis hd hcd) (hk Wish tk) (set_dict hu) ha) hs hw h1).imp fun D σ H ⟨W, env, G, e, A, h⟩ => ?_
  subst e
  refine ⟨W, env, G, rfl, A, h.bindS.mono ?_⟩
  rintro v H1 ⟨W1, y, G1, rfl, e1, A1, z1, h1⟩
  split at h1
  case h_2 => exact h1.elim
  rename_i kvs ei
  obtain ⟨w, hσ, hfv, hown⟩ := A1.re.sl i _ ei
  obtain ⟨a', ks, rfl, ga, gr, gk⟩ := hfv
  refine ⟨.ref a', hσ, W1, env, G1, rfl, A1, h1.bindS.mono ?_⟩
  rintro k' H2 ⟨W2, kx, G2, rfl, e2, A2, z2, h2⟩
  split at h2
  case h_2 => exact h2.elim
  rename_i q eq
  split at h2
  case isFalse => exact h2.elim
  rename_i hl
  obtain ⟨w2, hσ2, hfv2, hown2⟩ := A2.re.sl i _ ei
  rw [hσ] at hσ2
  cases hσ2
  obtain ⟨a2, ks2, ea, ga2, gr2, gk2⟩ := hfv2
  cases ea
  have gH : W2.H a' = some (.dK ks2) := by
    rcases gr2 with g | ⟨o, g⟩
    · exact g
    · exact absurd ga2 ((A2.nl hlk a' o _ g).2 i)
  have hl2 : ks2.length < sizeLine := by rw [← gk2.length, sizeLine_eq]; exact hl
  have rv : Rep kt.K W2 y v := Rep.ext e2 _ _ z1.strict
  have eX : ExtS W2 (W2.wr a' (.dK (putK ks2 q v))) := (ExtR.slotWr (p := true) ga2 gH rfl).toSl isSlot_sl
  refine ⟨a', _, rfl, .inl ⟨ks2, q, gH, keyOf_rep z2.strict eq, hl2, rfl⟩, ?_⟩
  refine h2 (W2.wr a' (.dK (putK ks2 q v))) σ eX (A2.slotWr ga2 gH rfl rfl (hown2 rfl a' rfl) hσ (fv := .od false _) ⟨a', _, rfl, ga2, .inl upd_same, ?_⟩)
  have eX2 : ExtR true (isSlot i) W2 (W2.wr a' (.dK (putK ks2 q v))) := ExtR.slotWr ga2 gH rfl
  exact RepK.of ((RepK.extR eX2 rfl rfl _ _ gk2).to.put eq (Rep.extR eX2 rfl rfl _ _ rv))
/-- l.append(v), a statement -/
theorem ss_app (i : Nat) {p2 apos cpos : Pos} (hv : SX kt B X pa .s e dv) (hi : X.N[i]? = some x := by rfl) (hvis : Vis X.env.scope x := by first | exact Or.inl rfl | exact Or.inr (Or.inl rfl) | exact Or.inr (Or.inr rfl))
    (hd : (x == ("__debug__" : Str)) = false := by decide) (hcd : (x == ("__classdict__" : Str)) = false := by decide) (hbase : attributeBase (.Name x p2) "append" X.env (eval (.Name x p2) X.env) = eval (.Name x p2) X.env := by rfl)
    (hfew : ((backTo cpos (starEach [e] X.env)).all (fun x => !x.1) && (backToKw cpos (keywordEach [] X.env)).all (fun x => x.1.isSome) && decide (([e] : List Expr).length + ([] : List Keyword).length + (if ([] : List Keyword).isEmpty then 0 else 1) < 30)) = true := by rfl)
    (hline : (apos.endLine == cpos.line) = true := by rfl) (hst : starEach [e] X.env = (false, eval e X.env) :: starEach [] X.env := by rfl) (hplain : (backTo cpos (starEach [] X.env)).any (·.1) = false := by rfl)
    (hs : swapsWith (.Call (.Attribute (.Name x p2) "append" apos) [e] [] cpos) none pos.line X.env = pure false := by rfl) :
    SS kt B X (.Expr (.Call (.Attribute (.Name x p2) "append" apos) [e] [] cpos) pos) (dApp i dv) := fun Wish tk => by
  refine (ps_expr (pe_bm PySem.F.plainAttrs_list PySem.F.slot_list_append PySem.F.type_list_append mt_append (pe_var hi hvis hd hcd) (pa_cons (hv Wish tk) pa_nil hst) hbase hfew hline hst hplain) hs).imp fun D σ H ⟨W, env, G, e, A, h⟩ => ?_
  subst e
  unfold dApp at h
  split at h
  case h_2 => exact h.elim
  rename_i xs ei
  obtain ⟨w, hσ, hfv, hown⟩ := A.re.sl i _ ei
  obtain ⟨a', us, rfl, ga, gr, gk⟩ := hfv
  refine ⟨.ref a', hσ, .inl ⟨rfl, us, .inl (.inl gr)⟩, W, env, G, rfl, A, h.bindS.mono ?_⟩
  rintro v H1 ⟨W1, y, G1, rfl, e1, A1, z1, h1⟩
  split at h1
  case isFalse => exact h1.elim
  rename_i hl
  obtain ⟨w2, hσ2, hfv2, hown2⟩ := A1.re.sl i _ ei
  rw [hσ] at hσ2
  cases hσ2
  obtain ⟨a2, us2, ea, ga2, gH, gk2⟩ := hfv2
  cases ea
  have eX2 : ExtR true (isSlot i) W1 (W1.wr a' (.lst (us2 ++ [v]))) := ExtR.slotWr ga2 gH rfl
  refine ⟨a', us2, v, rfl, rfl, gH, by rw [← gk2.length, sizeLine_eq]; exact hl, ?_⟩
  refine h1 (W1.wr a' (.lst (us2 ++ [v]))) σ (eX2.toSl isSlot_sl) (A1.slotWr ga2 gH rfl rfl (hown2 rfl a' rfl) hσ (fv := .ol _) ⟨a', _, rfl, ga2, upd_same, ?_⟩)
  exact (Reps.extR eX2 rfl rfl _ _ gk2).append (Reps.one (Rep.extR eX2 rfl rfl _ _ z1.strict))

/-! ### a slot's own list becomes a value -/
theorem RAll.frz {W : Wd} {σ : L2.St} {env : LEnv} {G : Gst} (i : Nat) (A : RAll kt B W σ env G) : ∃ W', W'.H = W.H ∧ ExtS W W' ∧ RAll kt B W' σ (frzE i env) G := by
  unfold frzE
  split
  case h_2 => exact ⟨W, rfl, ExtR.refl, A⟩
  rename_i xs ei
  obtain ⟨w, hσ, ⟨a', us, rfl, ga, gH, gk⟩, hown⟩ := A.re.sl i _ ei
  have h0 := hown rfl a' rfl
  have e : ∀ p, ExtR p (isSlot i) W ⟨fun b => if b = a' then .froz else W.Γ b, W.ρ, W.H⟩ := fun p =>
    ⟨fun b _ hs => if_neg (fun z => by rw [z, ga] at hs; simp [isSlot] at hs), fun b o h _ _ _ => h, fun b xs h => h, fun b h => h, [], by simp⟩
  refine ⟨⟨fun b => if b = a' then .froz else W.Γ b, W.ρ, W.H⟩, rfl, (e true).toSl isSlot_sl, ⟨fun b hb => ?_, A.ok.rg.extR (e true) rfl rfl (fun _ => rfl) (fun _ _ => rfl) rfl, A.ok.tabs, fun b ps q => A.ok.tb b ps q⟩, ⟨by rw [List.length_set]; exact A.re.len, fun j g hj => ?_⟩, ?_, fun z b u x q => ?_⟩
  · by_cases k : b = a'
    · subst k
      show W.H b ≠ none
      rw [gH]; simp
    · refine A.ok.tr b fun w => hb ?_
      show (if b = a' then _ else W.Γ b) = _
      rw [if_neg k]; exact w
  · by_cases eij : i = j
    · subst eij
      by_cases hi : i < env.length
      · rw [List.getElem?_set_self hi] at hj
        cases hj
        exact ⟨.ref a', hσ, ⟨a', us, rfl, if_pos rfl, gH, Reps.extR (e true) rfl rfl _ _ gk⟩, fun z => nomatch z⟩
      · rw [List.getElem?_eq_none (by simpa using hi)] at hj; cases hj
    · rw [List.getElem?_set_ne eij] at hj
      obtain ⟨v, q1, q2, q3⟩ := A.re.sl j g hj
      exact ⟨v, q1, FvRep.extR (e false) rfl rfl (by simp [isSlot]; exact Ne.symm eij) (.inr rfl) _ _ q2, q3⟩
  · exact ⟨fun b hb => (if_neg (fun z => hb (by rw [z]; exact h0))).trans (A.si.role b hb), fun b o h nt hp => A.si.keep b o h nt hp, A.si.tups, A.si.there, A.si.pre⟩
  · show (if b = a' then Role.froz else W.Γ b).still = true ∧ ∀ i, (if b = a' then Role.froz else W.Γ b) ≠ .slot i
    by_cases k : b = a'
    · rw [if_pos k]; exact ⟨rfl, fun _ z => nomatch z⟩
    · rw [if_neg k]; exact A.nl z b u x q
theorem ss_frz (i : Nat) (h : SS kt B X st dst) : SS kt B X st (dFrz i dst) := fun Wish tk => (h Wish tk).imp fun D σ H ⟨W, env, G, e, A, h⟩ => by
  subst e
  obtain ⟨W', e1, e2, A'⟩ := A.frz i
  exact ⟨W', frzE i env, G, e1, A', h.shiftS e2⟩
theorem sss_frz (i : Nat) (h : SSs kt B X sts dst) : SSs kt B X sts (dFrz i dst) := fun Wish tk => (h Wish tk).imp fun D σ H ⟨W, env, G, e, A, h⟩ => by
  subst e
  obtain ⟨W', e1, e2, A'⟩ := A.frz i
  exact ⟨W', frzE i env, G, e1, A', h.shiftS e2⟩
end

/-! ### a new list of the store, returned -/
def dRetO (ds : DA) : DS := fun e G => sb e (ds e G) fun xs G1 => if xs.length ≤ 16777216 then .rt (.ref G1.length) (G1 ++ [.lst xs]) else .bad
def Wd.mkL (W : Wd) (y : Addr) (n : Nat) (vs : List V) : Wd := ⟨fun a => if a = y then .obj n else W.Γ a, W.ρ ++ [y], upd W.H y (.lst vs)⟩
section
variable {kt : Kt} {B : Bs} {X : Cx} {p pa pb : Bool} {m ma mb : Md} {a b e : Expr} {es : List Expr} {da db d dv dk : DE} {ds : DA} {pos pos' np : Pos} {x : Str}
theorem RAll.mkL {W : Wd} {σ : L2.St} {env : LEnv} {G : Gst} {y : Addr} {xs : List Vl} {vs : List V} (A : RAll kt B W σ env G) (hy : W.H y = none) (r : Reps kt.K W xs vs) :
    Ext true W (W.mkL y G.length vs) ∧ RAll kt B (W.mkL y G.length vs) σ env (G ++ [.lst xs]) := by
  have e : Ext true W (W.mkL y G.length vs) := by
    have nb : ∀ b, W.H b ≠ none → upd W.H y (.lst vs) b = W.H b := fun b hb => upd_ne (fun z => hb (by rw [z]; exact hy))
    exact ⟨fun b hb => if_neg fun z => hb (by rw [z]; exact hy), fun b o hb _ _ => (nb b (by rw [hb]; simp)).trans hb, fun b xs hb => (nb b (by rw [hb]; simp)).trans hb, fun b hb => by
      show upd W.H y (.lst vs) b ≠ none
      rw [nb b hb]; exact hb, [y], rfl⟩
  refine ⟨e, ⟨fun b hb => ?_, ⟨?_, fun i o hi => ?_⟩, tabsN_upd A.ok.tabs hy, fun b ps q => ?_⟩, A.re.ext e, (A.si.trans e).mono fun z => by rw [z]; rfl, fun z b u o q => ?_⟩
  · show upd W.H y (.lst vs) b ≠ none
    by_cases k : b = y
    · rw [k, upd_same]; simp
    · rw [upd_ne k]
      refine A.ok.tr b fun w => hb ?_
      show (if b = y then _ else W.Γ b) = _
      rw [if_neg k]; exact w
  · simp [Wd.mkL, A.ok.rg.len]
  · by_cases hl : i < G.length
    · rw [List.getElem?_append_left hl] at hi
      obtain ⟨b, h1, h2, h3⟩ := (A.ok.rg.extR (G := G) (W' := ⟨(W.mkL y G.length vs).Γ, W.ρ, (W.mkL y G.length vs).H⟩) (S := fun _ => false) ⟨fun b hb _ => e.role b hb, fun b o hb nt _ hp => e.keep b o hb nt hp, e.tups, e.there, [], by simp⟩ rfl rfl (fun _ => rfl) (fun _ _ => rfl) rfl).ob i o hi
      have h3' : ObRep kt (W.mkL y G.length vs) i b o := by
        have ee : ExtR true (fun _ => false) ⟨(W.mkL y G.length vs).Γ, W.ρ, (W.mkL y G.length vs).H⟩ (W.mkL y G.length vs) := ⟨fun _ _ _ => rfl, fun _ _ h _ _ _ => h, fun _ _ h => h, fun _ h => h, [y], rfl⟩
        cases o with
        | lst zs => obtain ⟨us, q, z⟩ := h3; exact ⟨us, q, Reps.extR ee rfl rfl _ _ z⟩
        | ins C fs => obtain ⟨dx, fv, q, z, k⟩ := h3; exact ⟨dx, fv, q, FldsRep.extR ee rfl rfl (fun _ => rfl) _ _ z, k⟩
      exact ⟨b, by show (W.ρ ++ [y])[i]? = some b; rw [List.getElem?_append_left (List.getElem?_eq_some_iff.mp h1).1]; exact h1, h2, h3'⟩
    · have hil : i = G.length := by
        have := (List.getElem?_eq_some_iff.mp hi).1
        rw [List.length_append, List.length_singleton] at this
        omega
      subst hil
      rw [List.getElem?_append_right (Nat.le_refl _)] at hi
      simp only [Nat.sub_self, List.getElem?_cons_zero, Option.some.injEq] at hi
      subst hi
      refine ⟨y, ?_, if_pos rfl, vs, upd_same, Reps.ext e _ _ r⟩
      show (W.ρ ++ [y])[G.length]? = some y
      rw [← A.ok.rg.len, List.getElem?_append_right (Nat.le_refl _)]; simp
  · have q : upd W.H y (.lst vs) b = some (.tbl ps) := q
    by_cases k : b = y
    · rw [k, upd_same] at q; cases q
    · rw [upd_ne k] at q; exact A.ok.tb b ps q
  · have q : upd W.H y (.lst vs) b = some (.frz u o) := q
    by_cases k : b = y
    · rw [k, upd_same] at q; cases q
    · rw [upd_ne k] at q
      have g : (W.mkL y G.length vs).Γ b = W.Γ b := if_neg k
      rw [g]
      exact A.nl z b u o q
theorem ss_retO {p2 : Pos} (h : SAm kt B X p .s es ds) : SS kt B X (.Return (some (.List es p2)) pos) (dRetO ds) := fun Wish tk => (ps_ret (pe_lst (h Wish tk))).imp fun D σ H ⟨W, env, G, e, A, h⟩ => by
  subst e
  refine ⟨W, env, G, rfl, A, h.bindS.mono ?_⟩
  rintro vs H1 ⟨W1, xs, G1, rfl, e1, A1, z1, h1⟩
  split at h1
  · refine ⟨by rw [← z1.strict.length, sizeLine_eq]; assumption, fun y hy => ?_⟩
    obtain ⟨e2, A2⟩ := A1.mkL hy z1.strict
    refine h1 (W1.mkL y G1.length vs) (.ref y) e2.toS A2.out ⟨y, rfl, ?_⟩
    show (W1.ρ ++ [y])[G1.length]? = some y
    rw [← A1.ok.rg.len, List.getElem?_append_right (Nat.le_refl _)]; simp
  · exact h1.elim

/-! ### x op= e -/
def dAug (i : Nat) (o : Vl → Vl → Option Vl) (dv : DE) : DS := fun e G => match e[i]? with
  | some (some (.val y)) => sb e (dv e G) fun v G1 => match o y v with
    | some z => .nx (e.set i (some (.val z))) G1
    | none => .bad
  | _ => .bad
theorem ss_aug {op : Operator} {o : Vl → Vl → Option Vl} (i : Nat) (hN : X.N.Nodup) (ho : InS kt X op o) (hv : SX kt B X p .s e dv) (hi : X.N[i]? = some x := by rfl) (hx : Loc X.env.scope x := by first | exact Or.inl rfl | exact Or.inr rfl)
    (hf : X.fn x = true ∨ X.env.scope.names.lookup x = some .local := by first | exact .inl rfl | exact .inr rfl) : SS kt B X (.AugAssign (.Name x pos') op e pos) (dAug i o dv) := fun Wish tk => by
  obtain ⟨r, hr, hs⟩ := ho
  refine (ps_aug (ti := r) hN hi hx (hv Wish tk) (fun pins s σ H x y v u Q I rx ry q => hr pins s σ H x y v u Q I rx ry q) hf).imp fun D σ H ⟨W, env, G, e, A, h⟩ => ?_
  subst e
  unfold dAug at h
  split at h
  case h_2 => exact h.elim
  rename_i y ei
  obtain ⟨w, hσ, hfv, hown⟩ := A.re.sl i _ ei
  refine ⟨w, hσ, W, env, G, rfl, A, h.bindS.mono ?_⟩
  rintro v H1 ⟨W1, y1, G1, rfl, e1, A1, z1, h1⟩
  cases ez : o y y1 with
  | none => rw [ez] at h1; exact h1.elim
  | some z =>
    rw [ez] at h1
    exact hs B σ env G1 W1 y y1 w v z _ A1 (.inl (Rep.ext e1 _ _ hfv)) z1.any ez fun W2 w2 e2 A2 r2 => h1 W2 _ e2.toS (A2.set r2)
def vAddI : Vl → Vl → Option Vl
  | .int i, .int j => some (.int (i + j))
  | _, _ => none
theorem ins_add : InS kt X .Add vAddI := by
  refine ⟨_, iop_add, fun B σ env G W x y v u z Q A hx hy e q => ?_⟩
  unfold vAddI at e
  split at e
  · cases e
    obtain rfl := hx.int; obtain rfl := hy.int
    exact ⟨_, _, rfl, rfl, q W _ Ext.refl A rfl⟩
  · cases e
theorem ins_sub : InS kt X .Sub vSub := by
  refine ⟨_, iop_sub, fun B σ env G W x y v u z Q A hx hy e q => ?_⟩
  unfold vSub at e
  split at e
  · cases e
    obtain rfl := hx.int; obtain rfl := hy.int
    exact ⟨_, _, rfl, rfl, q W _ Ext.refl A rfl⟩
  · cases e
end
end CardH
end
section
set_option maxHeartbeats 2000000
namespace CardH
open PySem PySem.Spec PyProof.Rows L2 LamX

/-! ### a, b = x, y -/
def dPar (i j : Nat) (ds : DA) : DS := fun e G => sb e (ds e G) fun xs G1 => match xs with
  | [x, y] => .nx ((e.set i (some (.val x))).set j (some (.val y))) G1
  | _ => .bad
def dPar3 (i j l : Nat) (ds : DA) : DS := fun e G => sb e (ds e G) fun xs G1 => match xs with
  | [x, y, z] => .nx (((e.set i (some (.val x))).set j (some (.val y))).set l (some (.val z))) G1
  | _ => .bad
section
variable {kt : Kt} {B : Bs} {X : Cx} {p pa pb : Bool} {m ma mb : Md} {a b c e : Expr} {es : List Expr} {da db d dv dk : DE} {ds : DA} {pos pos' np : Pos} {x y z : Str}
theorem ss_par (i j : Nat) {px py pt : Pos} {kt' k2 pt2} (hc : X.calm = true) (hN : X.N.Nodup) (ha : SAm kt B X p .s [a, b] ds) (hi : X.N[i]? = some x := by rfl) (hj : X.N[j]? = some y := by rfl) (hij : i ≠ j := by decide) (hx : X.env.scope.names.lookup x = some .local := by rfl) (hy : X.env.scope.names.lookup y = some .local := by rfl)
    (hw : swappedStores [.Tuple [.Name x px, .Name y py] kt' pt] (.Tuple [a, b] k2 pt2) X.env = pure (some [x, y]) := by rfl) (hs : swapsWithSole [.Tuple [.Name x px, .Name y py] kt' pt] (.Tuple [a, b] k2 pt2) pos.line X.env = pure false := by rfl) :
    SS kt B X (.Assign [.Tuple [.Name x px, .Name y py] kt' pt] (.Tuple [a, b] k2 pt2) pos) (dPar i j ds) := fun Wish tk => (ps_par hc hN hi hj hij hx hy (ha Wish tk) hw hs).imp fun D σ H ⟨W, env, G, e, A, h⟩ => by
  subst e
  refine ⟨W, env, G, rfl, A, h.bindS.mono ?_⟩
  rintro vs H1 ⟨W1, xs, G1, rfl, e1, A1, z1, h1⟩
  split at h1
  · obtain ⟨v, u, rfl, r1, r2⟩ := z1.two
    exact ⟨v, u, rfl, h1 W1 _ ExtR.refl ((A1.set r1.strict).set r2.strict)⟩
  · exact h1.elim
end

section
variable {kt : Kt} {B : Bs} {X : Cx} {p pa pb : Bool} {m ma mb : Md} {a b c e : Expr} {es : List Expr} {da db d dv dk : DE} {ds : DA} {pos pos' np : Pos} {x y z : Str}
theorem ss_par3 (i j l : Nat) {px py pz pt : Pos} {kt' k2 pt2} (hc : X.calm = true) (hN : X.N.Nodup) (ha : SAm kt B X p .s [a, b, c] ds) (hi : X.N[i]? = some x := by rfl) (hj : X.N[j]? = some y := by rfl) (hl : X.N[l]? = some z := by rfl) (hij : i ≠ j := by decide) (hil : i ≠ l := by decide) (hjl : j ≠ l := by decide)
    (hx : X.env.scope.names.lookup x = some .local := by rfl) (hy : X.env.scope.names.lookup y = some .local := by rfl) (hz : X.env.scope.names.lookup z = some .local := by rfl) (hw : swappedStores [.Tuple [.Name x px, .Name y py, .Name z pz] kt' pt] (.Tuple [a, b, c] k2 pt2) X.env = pure (some [x, y, z]) := by rfl)
    (hs : swapsWithSole [.Tuple [.Name x px, .Name y py, .Name z pz] kt' pt] (.Tuple [a, b, c] k2 pt2) pos.line X.env = pure false := by rfl) :
    SS kt B X (.Assign [.Tuple [.Name x px, .Name y py, .Name z pz] kt' pt] (.Tuple [a, b, c] k2 pt2) pos) (dPar3 i j l ds) := fun Wish tk => (L2.ps_par3 hc hN hi hj hl hij hil hjl hx hy hz (ha Wish tk) hw hs).imp fun D σ H ⟨W, env, G, e, A, h⟩ => by
  subst e
  refine ⟨W, env, G, rfl, A, h.bindS.mono ?_⟩
  rintro vs H1 ⟨W1, xs, G1, rfl, e1, A1, z1, h1⟩
  split at h1
  · obtain ⟨u, v, w, rfl, r1, r2, r3⟩ := z1.three
    exact ⟨u, v, w, rfl, h1 W1 _ ExtR.refl (((A1.set r1.strict).set r2.strict).set r3.strict)⟩
  · exact h1.elim
end

/-! ### a unary minus -/
def vNeg : Vl → Option Vl
  | .int i => some (.int (-i))
  | _ => none
section
variable {kt : Kt} {B : Bs} {X : Cx} {p : Bool} {m : Md} {a : Expr} {da : DE} {pos : Pos}
theorem sx_neg (ha : SX kt B X p m a da) : SX kt B X p .s (.UnaryOp .USub a pos) (dUn vNeg da) := fun Wish tk => by
  refine (pe_un un_neg (ha Wish tk)).imp fun σ H Q ⟨W, env, G, e, A, h⟩ => ?_
  subst e
  refine ⟨W, env, G, rfl, A, h.bindL.mono ?_⟩
  rintro v H1 ⟨W1, y, G1, rfl, e1, A1, z1, h1⟩
  obtain ⟨z, ez, q⟩ := opsPo h1
  cases y with
  | int i => cases ez; cases z1.int; exact ⟨i, rfl, q W1 _ Ext.refl A1 rfl⟩
  | _ => cases ez
end

/-! ### a def of the head's facts -/
section
variable {P : Program} {w : World} {base : Heap} {kt : Kt}
theorem DFn.ofD {x qual : Str} {params : Arguments} {body : List Stmt} {scope : Scope} {pp : Str × Option Str} {N ps : List Str} {k : Nat} (F : ∃ fd, FunD kt.K x qual params body scope [] [] (He.fAd kt.K pp) fd) (S : FnScope N ps scope)
    (hb : ∀ (dV kV doc pm : Value) (an : Option Addr) (cdv ct : Value) (us : List Value), us.length = ps.length → bindArgs (PySem.W.fnOf x qual params body scope .none kV doc pm an cdv ct) ⟨us, []⟩ = pure (ps.zip us)) (d : DS)
    (hbody : ∀ (A : Around) (outer : List Env) (s : Shared) (H : Hp) (E : XK) (W0 : Wd), Room k (A.deeper (envOfC qual scope s.heap.objs.size (He.fAd kt.K pp) (.ref (He.codeOf kt.K pp)))) →
      SSs kt ⟨W0, false, false⟩ (cxOf (L2.CX P w) P w kt.K kt.mg base N qual scope (He.fAd kt.K pp) (.ref (He.codeOf kt.K pp)) A outer s H E) body d) : DFn P w base kt (k + 1) (He.fAd kt.K pp) ps.length (runF N.length d) := by
  obtain ⟨fd, F⟩ := F
  obtain ⟨⟨oc, od, dV, kV, doc, pm, an, cdv, ct, osl, rfl, lk, hcd, hdv, hkw⟩, kp⟩ := F
  have hdV : dV = .none := by
    rcases hdv with ⟨_, e⟩ | ⟨e, _⟩
    · exact e
    · exact absurd rfl e
  subst hdV
  obtain ⟨c, rfl⟩ := He.codeIn_ref hcd
  have ec : He.codeOf kt.K pp = c := He.codeOf_eq lk rfl
  rw [ec] at hbody
  refine ⟨⟨_, ps, fn_of lk hcd S (fun vs H Q E ⟨W, G, xs, e, ok, nl, r, hl, q⟩ => by rw [← r.length]; exact hl) fun A outer s H vs Q E hr ⟨W, G, xs, e, ok, nl, r, hl, q⟩ => ?_, .all fun us hl => hb .none kV doc pm an (.ref c) ct us hl, rfl⟩, kp⟩
  subst e
  have tk : Takes (cxOf (L2.CX P w) P w kt.K kt.mg base N qual scope (He.fAd kt.K pp) (.ref c) A outer s W.H E) (fun cls d _ H => E cls d H) := takes_of rfl rfl rfl rfl
  refine ⟨_, hbody A outer s W.H E W hr _ tk, W, startE N.length xs, G, rfl, ⟨ok, start_re r _, Ext.refl, fun _ => nl⟩, ?_⟩
  unfold runF at q
  cases e : d (startE N.length xs) G with
  | bad => rw [e] at q; exact q
  | nx e' G' => rw [e] at q; exact fun W' σ _ A => q W' .non A.si A.ok (A.nl rfl) rfl
  | bk e' G' => rw [e] at q; exact q.elim
  | ct e' G' => rw [e] at q; exact q.elim
  | rt v G' => rw [e] at q; exact fun W' w _ A r => q W' w A.si A.ok (A.nl rfl) r
  | ex c e' G' => rw [e] at q; exact fun W' σ od _ A z => q W' od A.si A.ok (A.nl rfl) z
theorem room_hu {A : Around} {k : Nat} (hr : Room k A) : A.units + 64 < cLine ∧ A.units + 65 < cLine ∧ A.units + 1 < cLine := by
  have := hr.un
  exact ⟨by omega, by omega, by omega⟩
end
theorem passes_cx {P : Program} {w : World} {K : PySem.W.Frag} {mg : Str → Option Value} {base : Heap} {N : List Str} {qual : Str} {scope : Scope} {f : Addr} {cd : Value} {A : Around} {outer : List Env} {s : Shared} {H : Hp} {E : XK} :
    PassesOwn (model P w) (cxOf (L2.CX P w) P w K mg base N qual scope f cd A outer s H E).A (cxOf (L2.CX P w) P w K mg base N qual scope f cd A outer s H E).env (cxOf (L2.CX P w) P w K mg base N qual scope f cd A outer s H E).xe :=
  passes_of (X := cxOf (L2.CX P w) P w K mg base N qual scope f cd A outer s H E) (K := fun e s'' => L2.CX P w outer H s E e s'') (E₁ := fun e' s'' => L2.CX P w outer H s E e' s'') rfl
end CardH
end
section
set_option maxHeartbeats 2000000
namespace CardH
open PySem PySem.Spec PyProof.Rows L2 LamX

section
variable {kt : Kt} {B : Bs} {X : Cx} {p pa pb pc pi pt pe : Bool} {ma mb mc : Md} {a b c elt tg iter : Expr} {da db dc de : DE} {t u : DT} {pos spos py : Pos} {ifs : List Expr} {scope : Scope} {own : List (Str × Nat)} {sl : List Nat} {di : DI} {g : DG} {dt : DT}
/-- x = [..], on one line -/
theorem ss_setLc (i : Nat) {y : Str} (hc : X.calm = true) (hN : X.N.Nodup) (hi : SI kt B X pi tg iter di) (ok : blkC X.N X.env.scope scope own = true)
    (hg : ∀ (s : Shared) (H : Hp) (C : Addr) (cl : List (Str × Addr)) (fp : List Addr), SG kt B (X.blk s H scope (compEnvC scope cl C X.env) fp) sl tg g)
    (ht : ∀ (s : Shared) (H : Hp) (C : Addr) (cl : List (Str × Addr)) (fp : List Addr), STs kt B (X.blk s H scope (compEnvC scope cl C X.env) fp) pt ifs dt)
    (he : ∀ (s : Shared) (H : Hp) (C : Addr) (cl : List (Str × Addr)) (fp : List Addr), SX kt B (X.blk s H scope (compEnvC scope cl C X.env) fp) pe .s elt de)
    (hy : X.N[i]? = some y := by rfl) (hyl : X.env.scope.names.lookup y = some .local := by rfl) (hk : X.env.scope.kind = .function := by rfl) (hl : (py.line == pos.line) = true := by rfl)
    (ha : (scope.names.any fun (n, k) => n == y && (k == .local || k == .cell)) = false := by rfl)
    (hsl : sl.all (fun i => (own.map (·.2)).contains i) = true := by rfl) (hs : ∀ x, foldedSetIterable iter X.env x = pure x := by intro _; rfl) :
    SS kt B X (.Assign [.Name y py] (.ListComp elt [⟨tg, iter, ifs, 0⟩] scope pos) spos) (dAsg (dLc (own.map (·.2)) di g dt de) (gSet i)) := fun Wish tk => by
  obtain ⟨wi, hwi, him⟩ := lc_imp (pt := pt) (pe := pe) (g := g) (dt := dt) (de := de) hi hsl tk
  refine (ps_setLc hc hN hy hyl (sw_true hk hyl hl ha) hwi (blkOk_by ok) hg (fun s H C cl fp => ht s H C cl fp _ takes_blk) (fun s H C cl fp => he s H C cl fp _ takes_blk) hs).imp fun D σ H ⟨W, env, G, e, A, h⟩ => ?_
  subst e
  refine him _ _ _ ⟨W, env, G, rfl, A, h.bindS.mono ?_⟩
  rintro v H1 ⟨W1, x, G1, rfl, e1, A1, z1, h1⟩
  exact h1 W1 _ ExtR.refl (A1.set z1.strict)
end
end CardH
end
section
set_option maxHeartbeats 2000000
namespace CardH
open PySem PySem.Spec PyProof.Rows L2 LamX

/-! ### enumerate(tuple) -/
theorem meets_enum1 {v : Value} {o : Obj} {H : Heap → Prop} (B : Begins v o H) :
    Meets (Builtin.«enumerate.__new__» ⟨[.type "enumerate", v], []⟩) (fun _ R s => H s.heap ∧
      R (.ok (.ret (.ref (s.heap.push o).objs.size))) { s with heap := (s.heap.push o).push { cls := .type "enumerate", data := .fields #[.none, .bool false, .ref s.heap.objs.size, rawInt 0, .none, .none] } }) :=
  .of_wp fun prog w A R s h => by
    obtain ⟨hp, g, d, tk, os⟩ := s; obtain ⟨h1, h⟩ := h
    have hsub := sub_enumerate
    have q1 : ∀ {A' : Around} {E : Value → Shared → Prop} {Q : Value → Shared → Prop}, Q (.ref hp.objs.size) ⟨hp.push o, g, d, tk, os⟩ → wpAny (model prog w) A' (pyIter v) Q E ⟨hp, g, d, tk, os⟩ :=
      fun q => B.iter prog w _ _ ⟨hp, g, d, tk, os⟩ _ h1 q
    wp_walk using q1
    refine wpAny_stack_any fun st => wpAny_pure ?_
    split
    · rename_i c _ _ _ _ _
      cases (c == Value.type "enumerate") <;> (wp_walk using q1; exact ⟨_, rfl, h⟩)
    · wp_walk using q1
      exact ⟨_, rfl, h⟩
theorem call_enum1 {prog : Program} {w : World} {A : Around} {E : Value → Shared → Prop} {s : Shared} {v : Value} {o : Obj} {H : Heap → Prop} {Q : Value → Shared → Prop} (B : Begins v o H) (h1 : H s.heap)
    (h : ∀ h', IsEnum h' (s.heap.objs.size + 1) s.heap.objs.size 0 .none → h'.get? s.heap.objs.size = some o → (∀ b o, s.heap.get? b = some o → h'.get? b = some o) → Q (.ref (s.heap.objs.size + 1)) { s with heap := h' }) :
    wpAny (model prog w) A (call (.type "enumerate") [v]) Q E s := by
  refine callType_new F.called_enumerate (by decide) (F.typeCall_enumerate_1 _) (F.newCall_enumerate_1 _) (fun obj => F.args_object_init_2 obj _) F.entry_enumerate_new (meets_enum1 B) ⟨h1, ?_⟩
  have hz : (s.heap.push o).objs.size = s.heap.objs.size + 1 := Heap.size_push ..
  show _ ∧ _
  rw [hz]
  have he : IsEnum ((s.heap.push o).push { cls := .type "enumerate", data := .fields #[.none, .bool false, .ref s.heap.objs.size, rawInt 0, .none, .none] }) (s.heap.objs.size + 1) s.heap.objs.size 0 .none := by
    have := Heap.get?_push_size (s.heap.push o) (o := { cls := .type "enumerate", data := .fields #[.none, .bool false, .ref s.heap.objs.size, rawInt 0, .none, .none] }) rfl
    rw [hz] at this; exact this
  exact ⟨⟨_, he, rfl⟩, h _ he (Heap.get?_push_of_some _ (Heap.get?_push_size _ B.free)) fun b o x => Heap.get?_push_of_some _ (Heap.get?_push_of_some _ x)⟩
/-- the tuple at a, each item in a new pair -/
def IteT (K : PySem.W.Frag) (a : Addr) : It :=
  ⟨fun i H => ∃ (xs : List V) (x : V), SqT K H a xs ∧ xs[i]? = some x, fun i H v H' => ∃ T x, v = .ref T ∧ H T = none ∧ H' = upd H T (.tup [.int (i : Nat), x]) ∧ ∀ xs, SqT K H a xs → xs[i]? = some x, fun i H => ∃ xs : List V, SqT K H a xs ∧ xs.length = i⟩
theorem turn_enumT {P : Program} {w : World} {K : PySem.W.Frag} {elts : List Expr} {kk : Nat} {tpos : Pos} (a e it : Addr) :
    Turn P w K (.Tuple elts kk tpos) (IteT K a) [e, it] e (fun i h => (∃ old, IsEnum h e it ((i : Nat) : Int) old) ∧ h.IsTupleIter it a i ∧ e ≠ it ∧ e ≠ a ∧ a ≠ it) where
  mem := by simp
  obj := fun i h st b hb => by
    obtain ⟨⟨old, he⟩, ⟨o, ho, hc, hd⟩, _⟩ := st
    have e' : b = e ∨ b = it := by simpa using hb
    rcases e' with z | z
    · rw [z]; exact ⟨_, he, fun v q => nomatch q⟩
    · rw [z]; exact ⟨o, ho, fun v q => by rw [hd] at q; cases q⟩
  keep := fun i h h' st k => let ⟨⟨old, he⟩, hi, hne⟩ := st; ⟨⟨old, k e (by simp) _ he⟩, hi.at fun o q => k it (by simp) o q, hne⟩
  item := by
    intro X hP hw hK hc i pins s σ H E I hf st hg
    subst hP hw hK
    obtain ⟨⟨old, he⟩, hit, hne, hea, hai⟩ := st
    obtain ⟨xs, x, hq, hx⟩ := hg
    obtain ⟨its, rv, p, hz⟩ := I.tuple hq
    obtain ⟨u, hu, ru⟩ := rv.get hx
    have hel : e < s.heap.objs.size := Heap.lt_size he
    have hil : it < s.heap.objs.size := by obtain ⟨_, q, _⟩ := hit; exact Heap.lt_size q
    have hi : i < its.toArray.size := by simpa using (List.getElem?_eq_some_iff.mp hu).1
    have D := Draws.tuple (prog := X.prog) (w := X.w) (A := X.A.in1) (I.ok.hd hc) it a hai its.toArray
    refine wpAny_pyNext_enum_itemD D he ⟨hit, p⟩ hi hne (by simp [hne, hea]) fun y h' tk hy ho hit' hT hsz hk => ?_
    have ey : y = u := by
      have hy : its.toArray[i]? = some y := hy
      rw [show its.toArray[i]? = its[i]? by simp, hu] at hy
      exact (Option.some.inj hy).symm
    subst ey
    refine ⟨_, rfl, wpAny_letOwnedTupleGo_enum (s := { s with heap := h', toks := tk + 1 }) ho fun h'' he' sb => ?_⟩
    have hT2 : h''.get? s.heap.objs.size = some { cls := .type "tuple", data := .seq #[.int i tk, y] } := (sb.2 _ (Nat.ne_of_gt hel)).trans hT
    have new : ObjOk X.prog X.w (upd H s.heap.objs.size (.tup [.int (i : Nat), x])) h'' s.heap.objs.size (.tup [.int (i : Nat), x]) :=
      ⟨by show 2 ≤ sizeLine; decide, [.int i tk, y], .cons ⟨_, rfl⟩ (.cons ru .nil), ⟨_, hT2, rfl, _, rfl⟩⟩
    have I1 : Inv X pins σ (upd H s.heap.objs.size (.tup [.int (i : Nat), x])) { s with heap := h'', toks := tk + 1 } :=
      I.turnedNew (ch := [e, it]) (fun b ob hb q => (sb.2 b (fun z => hb (by simp [z]))).trans (hk b ob (fun z => hb (by simp [z])) (fun z => hb (by simp [z])) q)) hf (Nat.le_refl _) new
    refine ⟨.ref s.heap.objs.size, _, I1, rfl, ⟨_, x, rfl, I.hok.fresh (Nat.le_refl _), rfl, fun ys hy => by rw [I.tuple_inj hy hq]; exact hx⟩, ⟨⟨y, ?_⟩, hit'.1.at fun o q => (sb.2 it (Ne.symm hne)).trans q, hne, hea, hai⟩, fun b hb => ?_⟩
    · have e1 : ((i + 1 : Nat) : Int) = (i : Int) + 1 := by omega
      rw [e1]; exact he'
    · have hb' : b < s.heap.objs.size := by
        have e' : b = e ∨ b = it := by simpa using hb
        rcases e' with z | z
        · rw [z]; exact hel
        · rw [z]; exact hil
      rw [upd_ne (Nat.ne_of_lt hb')]
      exact (hf b hb).1
  done := by
    intro X hP hw hK hc i pins s σ H E I hf st hg
    subst hP hw hK
    obtain ⟨⟨old, he⟩, hit, hne, hea, hai⟩ := st
    obtain ⟨xs, hq, hx⟩ := hg
    obtain ⟨its, rv, p, hz⟩ := I.tuple hq
    obtain ⟨f0, f1, f2, f3, f4, f5⟩ := hf it (by simp)
    have hl := rv.length
    have ei : its.toArray.size = i := by simp; omega
    have D := Draws.tuple (prog := X.prog) (w := X.w) (A := X.A.in1) (I.ok.hd hc) it a hai its.toArray
    exact wpAny_pyNext_enum_endD D he (by rw [ei]; exact ⟨hit, p⟩) fun h' eb => ⟨rfl, I.turned (t' := s.toks) (fun b o hb q => eb b o hb q) f0 f1 f3 f4 f5⟩
  self := fun A i s Q E st h => let ⟨⟨_, he⟩, _⟩ := st; wpAny_pyIter_enum he h
theorem walk_enumT {K : PySem.W.Frag} {a : Addr} {xs : List V} : Walk (IteT K a) xs.length (fun H => SqT K H a xs) (YPair (fun i => some (.int (i : Nat))) (fun i => xs[i]?)) := by
  refine ⟨fun i _ hi q => ⟨xs, xs[i], q, by simp [hi]⟩, fun _ q => ⟨xs, q, rfl⟩, fun i H v H' _ q y => ?_⟩
  obtain ⟨T, x, h1, h2, h3, h4⟩ := y
  exact ⟨T, .int (i : Nat), x, h1, h2, h3, rfl, h4 xs q⟩
def iEnumT (K : PySem.W.Frag) (ta : TA) : TI := fun σ H R => ta σ H fun vs H1 => ∃ a xs, vs = [.ref a] ∧ ((SqL K H1 a xs ∧ R (Ite K a) H1) ∨ (SqT K H1 a xs ∧ R (IteT K a) H1))
theorem pi_enumT {X : Cx} {e : Expr} {ta : TA} {p pos tpos : Pos} {elts : List Expr} {kk : Nat} (hg : Gl X "enumerate") (hm : X.mg "enumerate" = none) (ha : PA X [e] ta) (hs : starEach [e] X.env = [(false, eval e X.env)] := by rfl) :
    PI X (.Tuple elts kk tpos) (.Call (.Name "enumerate" p) [e] [] pos) (iEnumT X.K ta) := by
  refine ⟨fun pins s σ H R I h => ?_⟩
  refine Call_ (ld_blt I hg hm boot_enumerate (PyProof.Rows.callWith_type1 (thn (ha.run pos pins s σ H _ I h) fun us s1 ⟨vs, H1, I1, r1, q1⟩ => ?_) hs rfl))
  obtain ⟨a, xs, ex, hq⟩ := q1
  subst ex
  cases r1 with
  | cons r rr =>
    cases rr
    cases r
    have mem : ∀ b ∈ [s1.heap.objs.size + 1, s1.heap.objs.size], s1.heap.objs.size ≤ b := fun b hb => by
      have e' : b = s1.heap.objs.size + 1 ∨ b = s1.heap.objs.size := by simpa using hb
      rcases e' with z | z <;> (rw [z]; first | exact Nat.le_add_right _ _ | exact Nat.le_refl _)
    rcases hq with ⟨hq, q⟩ | ⟨hq, q⟩
    · obtain ⟨its, rv, p', hz⟩ := I1.list hq
      refine call_enumerate_list p'.isList fun h' he hit hsz hk => wpAny_pyIter_enum he ?_
      have I2 : Inv X pins σ H1 { s1 with heap := h' } := I1.kept (t' := s1.toks) hk
      exact ⟨s1.heap.objs.size + 1, [s1.heap.objs.size + 1, s1.heap.objs.size], _, _, H1, rfl, I2, turn_enum a (s1.heap.objs.size + 1) s1.heap.objs.size, ⟨⟨.none, he⟩, hit, Nat.succ_ne_self _⟩, fun b hb => I1.fpOk (mem b hb) (I1.hok.fresh (mem b hb)), q⟩
    · obtain ⟨its, rv, p', hz⟩ := I1.tuple hq
      have hal : a < s1.heap.objs.size := by obtain ⟨_, z, _⟩ := p'; exact Heap.lt_size z
      refine call_enum1 (begins_tuple a its.toArray) p' fun h' he hit hk => wpAny_pyIter_enum he ?_
      have I2 : Inv X pins σ H1 { s1 with heap := h' } := I1.kept (t' := s1.toks) hk
      exact ⟨s1.heap.objs.size + 1, [s1.heap.objs.size + 1, s1.heap.objs.size], _, _, H1, rfl, I2, turn_enumT a (s1.heap.objs.size + 1) s1.heap.objs.size, ⟨⟨.none, he⟩, ⟨_, hit, rfl, rfl⟩, Nat.succ_ne_self _, Nat.ne_of_gt (Nat.lt_succ_of_lt hal), Nat.ne_of_lt hal⟩, fun b hb => I1.fpOk (mem b hb) (I1.hok.fresh (mem b hb)), q⟩
def enOfT : List Vl → Option (List Vl)
  | [.lst xs] => some (enL 0 xs)
  | [x] => (itemsOf x).map (enL 0)
  | _ => none
section
variable {kt : Kt} {B : Bs} {X : Cx} {p : Bool} {e : Expr} {ds : DA} {pos np : Pos}
theorem si_enT {elts : List Expr} {kk : Nat} {tpos : Pos} (ha : SAm kt B X p .s [e] ds) (hg : Gl X "enumerate" := by rfl) (hm : X.mg "enumerate" = none := by rfl) (hs : starEach [e] X.env = [(false, eval e X.env)] := by rfl) (hK : X.K = kt.K := by rfl) :
    SI kt B X p (.Tuple elts kk tpos) (.Call (.Name "enumerate" np) [e] [] pos) (diRng enOfT ds) := fun Wish tk => by
  refine ⟨_, pi_enumT hg hm (ha Wish tk) hs, fun σ H R ⟨W, env, G, e, A, h⟩ => ?_⟩
  subst e
  refine ⟨W, env, G, rfl, A, (bindI (Z := fun W x v => PkS kt.K W .s x v) (f := fun x _ => enOfT x) h).mono ?_⟩
  rintro vs H1 ⟨W1, xs, G1, ys, rfl, A1, z1, ef, hr⟩
  have fin : ∀ (zs : List Vl) (us : List V) (a : Addr) (Gd : Hp → Prop) (J : It), Reps kt.K W1 zs us → (∀ W'', ExtS W1 W'' → Gd W''.H) → Walk J us.length Gd (YPair (fun i => some (.int (i : Nat))) (fun i => us[i]?)) → ys = enL 0 zs → R J W1.H := by
    intro zs us a Gd J r hq wk ey
    subst ey
    refine hr _ _ _ (by rw [enL_length, r.length]; exact wk) ⟨hq, fun i H x H' hi y W'' e2 eh => ?_⟩
    obtain ⟨T, w1, w2, rfl, hT, rfl, e3, e4⟩ := y
    cases e3
    obtain ⟨y', h1, h2⟩ := (Reps.extR e2 rfl rfl _ _ r).get' e4
    refine ⟨.stp [.int i, y'], by rw [enL_get, h1]; simp, .inr ⟨T, _, rfl, hT, rfl, ?_⟩⟩
    have hT' : W''.H T = none := by rw [eh]; exact hT
    exact ⟨T, _, rfl, upd_same, _, _, rfl, rfl, _, _, rfl, h2.ext (Ext.alloc hT'), rfl⟩
  unfold enOfT at ef
  split at ef
  · rename_i zs
    cases ef
    obtain ⟨v, rfl, z2⟩ := z1.one
    obtain ⟨a, us, rfl, r, hq⟩ := rep_sqL (W' := W1) z2.strict
    rw [hK]
    exact ⟨a, us, rfl, .inl ⟨hq W1 ExtR.refl, fin zs us a _ _ r hq walk_enum rfl⟩⟩
  · rename_i x _
    obtain ⟨v, rfl, z2⟩ := z1.one
    obtain ⟨zs, e1, rfl⟩ := Option.map_eq_some_iff.mp ef
    obtain ⟨a, us, rfl, r, hq⟩ := rep_sqT z2.strict e1
    rw [hK]
    exact ⟨a, us, rfl, .inr ⟨hq W1 ExtR.refl, fin zs us a _ _ r hq walk_enumT rfl⟩⟩
  · cases ef
end
end CardH
end
section
set_option maxHeartbeats 2000000
namespace CardH
open PySem PySem.Spec PyProof.Rows L2 LamX GenW

/-! ### a generator expression's block: a frame of its own, under whoever draws from it -/
def gEnv (X : Cx) (scope : Scope) (C : Addr) (code : Value) : Env := genEnv scope (cloFrom X.env.cells scope.names []) C code builtinsNs X.env
def gcx (X : Cx) (A : Around) (s : Shared) (H : Hp) (scope : Scope) (code : Value) (fp : List Addr) (pn : List (Addr × Obj)) : Cx where
  prog := X.prog
  w := X.w
  K := X.K
  mg := X.mg
  base := X.base
  A := A.deeper (gEnv X scope s.heap.objs.size code)
  N := X.N
  s_0 := s
  H_0 := H
  env := gEnv X scope s.heap.objs.size code
  outer := X.stack
  stack := gEnv X scope s.heap.objs.size code :: X.stack
  ex := fp
  fn := fun _ => false
  calm := true
  pn := pn
  xe := fun _ _ => False
theorem takes_gx {X : Cx} {A : Around} {s : Shared} {H : Hp} {scope : Scope} {code : Value} {fp : List Addr} {pn : List (Addr × Obj)} : Takes (gcx X A s H scope code fp pn) (fun _ _ _ _ => False) := fun u s' ⟨a, B, sI, pins, σ, H, cls, d, _, _, _, _, _, _, _, _, w⟩ => w
/-- the block's names are told, no cell among them -/
def gblkC (N : List Str) (sc scope : Scope) (own : List (Str × Nat)) : Bool := blkC N sc scope own && scope.names.all fun y => y.2 != .cell
section
variable {X : Cx} {pins : List (Addr × Obj)} {σ : L2.St} {H : Hp} {s : Shared}
theorem gen_start {A : Around} {scope : Scope} {own : List (Str × Nat)} {fp : List Addr} {code : Value} {h1 : Heap} {it : Value} {g1 : Array GenState} {d1 : Drawn} {tk : Nat} (I : Inv X pins σ H s) (ok : BlkOk X.N X.env.scope scope own) (hN : X.N.Nodup) (hnc : ∀ y ∈ scope.names, y.2 ≠ .cell)
    (hfp : ∀ b ∈ fp, FpOk X pins H b ∧ b < s.heap.objs.size) (hd : A.handled = none) (hfr : A.frames = some X.stack) (hns : h1.Ns s.heap.objs.size fun y => if y = ".0" then some it else none) (kp : ∀ b o, s.heap.get? b = some o → h1.get? b = some o) (hb : AllBare g1) :
    Inv (gcx X A s H scope code fp []) [] (wipe σ (own.map (·.2))) H { s with heap := h1, gens := g1, drawn := d1, toks := tk } := by
  have hfree : ∀ y ∈ scope.names, y.2 = .free → ∃ c, X.env.cells.lookup y.1 = some c := fun y hy e => by
    rcases ok.free y hy e with k | k
    · exact I.ok.has _ (.inl k)
    · exact I.ok.has _ (.inr k)
  have cm : ∀ {y c}, (cloFrom X.env.cells scope.names []).lookup y = some c → X.env.cells.lookup y = some c := fun {y c} e => by
    rcases cloFrom_mem (PySem.mem_of_lookup e) with hm | ⟨h1, h2⟩
    · cases hm
    · obtain ⟨c1, hc⟩ := hfree _ h1 rfl
      have hc : X.env.cells.lookup y = some c1 := hc
      have e2 : c = c1 := by
        rw [h2, hc] <;> rfl
      rw [e2]
      exact hc
  have look : ∀ {y}, scope.names.lookup y = some .free → ∃ c, (cloFrom X.env.cells scope.names []).lookup y = some c := fun {y} hl =>
    mem_lookup (cloFrom_has (cells := X.env.cells) (acc := []) (PySem.mem_of_lookup hl))
  refine ⟨⟨I.ok.mod, ok.kind, I.ok.glob, rfl, Nat.le_refl _, fun y z c e1 e2 => I.ok.inj y z c (cm e1) (cm e2), fun y hy => ?_, fun y c z _ => absurd (show false = true from z) Bool.false_ne_true, fun _ => hd, Around.frames_deeper hfr, .inr ⟨rfl, rfl⟩, fun b hb' => ⟨?_, fun y c e z => ?_⟩, I.bs, Nat.le_trans I.ok.bsz I.sz, fun b o e hb' => ?_, fun b hb' z => ?_, I.stack, I.stkFree⟩,
    rfl, hb, Un.kept kp, ⟨_, hns, fun i y v e1 e2 e3 => ?_⟩, fun y c e => ?_, I.hok.fresh (Nat.le_refl _), fun y c e => ?_, fun q hq => absurd (show q ∈ ([] : List (Addr × Obj)) ++ [] from hq) (by simp), I.hok.kept kp, by rw [wipe_length]; exact I.len⟩
  · have hy : scope.names.lookup y = some .cell ∨ scope.names.lookup y = some .free := hy
    rcases hy with hy | hy
    · exact absurd rfl (hnc _ (PySem.mem_of_lookup hy))
    · exact look hy
  · exact Nat.ne_of_lt (hfp b hb').2
  · exact (hfp b hb').1.2.2.2.2.1 y c (cm e) z
  · rcases (hfp b hb').1.2.2.2.1 with z | z
    · exact I.ok.noex b o e z
    · exact absurd (Nat.lt_of_lt_of_le (Heap.lt_size e) (Nat.le_trans I.ok.bsz z)) (Nat.lt_irrefl _)
  · rcases List.mem_cons.mp (I.stkSub b z) with z | z
    · exact (hfp b hb').1.2.1 z
    · exact (hfp b hb').1.2.2.1 z
  · obtain ⟨e2, hne⟩ := wipe_some e2
    have e3 : Vis scope y := e3
    have no : ∀ k, scope.names.lookup y = some k → ¬ (k = .local ∨ k = .cell) := fun k e hh => by
      rcases ok.own _ (PySem.mem_of_lookup e) hh with e' | e'
      · obtain ⟨p, hp, hpy⟩ := List.mem_map.mp e'
        have e3 := ok.ix p hp
        have : p.1 = y := hpy
        rw [this] at e3
        exact hne (List.mem_map.mpr ⟨p, hp, nodup_ix hN e3 e1⟩)
      · exact e' (List.mem_of_getElem? e1)
    rcases e3 with k | k | k
    · exact absurd (.inl rfl) (no _ k)
    · exact absurd (.inr rfl) (no _ k)
    · obtain ⟨m, hn, hl⟩ := I.loc
      have hvis : Vis X.env.scope y := (ok.free _ (PySem.mem_of_lookup k) rfl).elim (fun k => .inr (.inl k)) (fun k => .inr (.inr k))
      obtain ⟨w', r, q⟩ := hl i y v e1 e2 hvis
      obtain ⟨c2, h2⟩ := look k
      refine ⟨w', r, .inr ⟨.inr k, c2, h2, ?_⟩⟩
      have c1 := cm h2
      rcases q with ⟨k', _⟩ | ⟨_, c3, e', z⟩
      · have k' : X.env.scope.names.lookup y = some .local := k'
        rcases ok.free _ (PySem.mem_of_lookup k) rfl with k2 | k2 <;> rw [show X.env.scope.names.lookup y = _ from k2] at k' <;> cases k'
      · rw [c1] at e'; cases e'
        exact z.keeps kp
  · obtain ⟨v, z⟩ := I.cell y c (cm e)
    exact ⟨v, z.keeps kp⟩
  · exact I.freeC y c (cm e)
end
section
variable {X : Cx} {pins : List (Addr × Obj)} {σ : L2.St} {H : Hp} {s : Shared}
/-- its code object, with the table's other code objects -/
theorem gcode_new {T : List (Addr × Str)} {c P : Addr} {scope : Scope} {pos : Pos} {E : Value → Shared → Prop} {Q : Value → Shared → Prop} (I : Inv X pins σ H s) (TB : LamX.TabB X.base X.mg c P) (hcode : X.env.code = .ref c)
    (hm : (P, X.env.qual ++ "<genexpr>") ∈ T) (hu : ∀ p ∈ T, p.1 = P → p.2 = X.env.qual ++ "<genexpr>") (hT : Tabs T H)
    (k : ∀ (cv : Value) (H1 : Hp) (s' : Shared), Inv X pins σ H1 s' → Grown T H H1 → s.heap.objs.size ≤ s'.heap.objs.size → (∀ b, H b = none → b < s.heap.objs.size → H1 b = none) → (∀ b o, H b = none → s.heap.get? b = some o → s'.heap.get? b = some o) → Q cv s') :
    wpAny (model X.prog X.w) X.A (genexprCode X.env pos (X.env.qual ++ "<genexpr>") scope) Q E s := by
  obtain ⟨ps, atP, trip, among⟩ := hT _ hm
  have get : s.heap.get? P = some { cls := .none, data := .fields ps } := I.hok P _ atP
  have cd : PySem.W.CodeHd s.heap c P := TB.code.keeps I.bk
  cases e : codeAmong pos ps.toList with
  | none =>
    refine wpAny_genexprCodeX hcode (cd.code get trip) (cd.tab get) e fun c' h' tk hx hge hlt hco' hrec htab' _ => ?_
    obtain ⟨c2, oc, vs, t, e2, hoc, hd, hv⟩ := hrec
    cases e2
    have htb : h'.get? P = some { cls := .none, data := .fields (ps ++ #[rawInt pos.line, rawInt pos.col, .ref c']) } := htab'.2
    have new : H c' = none := I.hok.fresh hge
    have nPc : P ≠ c' := ne_of_none atP new
    have J := inv_table (t' := tk) (more := #[rawInt pos.line, rawInt pos.col, .ref c']) (h' := h') I atP (fun b o hb q => hx b o hb q) htb hge ⟨oc, vs, t, hoc, hd, hv⟩
    generalize hG : upd (upd H P (.tbl (ps ++ #[rawInt pos.line, rawInt pos.col, .ref c']))) c' (CodeO c' (X.env.qual ++ "<genexpr>")) = H1 at J
    have at1 : H1 c' = some (CodeO c' (X.env.qual ++ "<genexpr>")) := by rw [← hG]; exact upd_same
    have at2 : H1 P = some (.tbl (ps ++ #[rawInt pos.line, rawInt pos.col, .ref c'])) := by rw [← hG, upd_ne nPc]; exact upd_same
    have at3 : ∀ b, b ≠ c' → b ≠ P → H1 b = H b := fun b n1 n2 => by rw [← hG, upd_ne n1, upd_ne n2]
    have ex : ExtN H H1 := by
      intro b o q n
      have n2 : b ≠ P := by rintro rfl; rw [atP] at q; exact n ps (Option.some.inj q).symm
      rw [at3 b (ne_of_none q new) n2]; exact q
    refine k (.ref c') H1 _ J ⟨ex, ?_, fun b hb => ?_, fun b qs q => ?_⟩ (Nat.le_trans hge (Nat.le_of_lt hlt)) (fun b hb hl => ?_) fun b o hb q => hx b o (fun z => by rw [z, atP] at hb; cases hb) q
    · intro p hp
      by_cases hb : p.1 = P
      · rw [hu p hp hb, hb]
        refine ⟨_, at2, ?_, fun p' cv hcv => ?_⟩
        · rw [Array.toList_append]; exact PySem.TriplesOk_snoc _ _ _ _ trip
        · rw [Array.toList_append] at hcv
          rcases among_app _ trip hcv with z | z
          · obtain ⟨c0, q1, q2⟩ := among p' cv z
            exact ⟨c0, q1, ex _ _ q2 codeO_ne⟩
          · exact ⟨c', z, at1⟩
      · obtain ⟨qs, a1, a2, a3⟩ := hT p hp
        refine ⟨qs, by rw [at3 _ (ne_of_none a1 new) hb]; exact a1, a2, fun p' cv hcv => ?_⟩
        obtain ⟨c0, q1, q2⟩ := a3 p' cv hcv
        exact ⟨c0, q1, ex _ _ q2 codeO_ne⟩
    · by_cases z : b = P
      · subst z; rw [at2]; simp
      · by_cases z' : b = c'
        · subst z'; exact absurd new hb
        · rw [at3 b z' z]; exact hb
    · by_cases z : b = P
      · subst z; exact ⟨_, at2⟩
      · exact ⟨qs, by rw [at3 b (ne_of_none q new) z]; exact q⟩
    · rw [at3 b (Nat.ne_of_lt (Nat.lt_of_lt_of_le hl hge)) (fun z => by rw [z, atP] at hb; cases hb)]; exact hb
  | some cv =>
    refine wpAny_genexprCode_hit hcode (cd.code get trip) e ?_
    exact k cv H s I ⟨ExtN.refl H, hT, fun _ h => h, fun b qs q => ⟨qs, q⟩⟩ (Nat.le_refl _) (fun _ h _ => h) fun _ _ _ q => q
/-- the code of a generator expression, as a frame -/
theorem over_gen {A : Around} {elt target iter : Expr} {ifs : List Expr} {scope : Scope} {pos : Pos} {it acc : Value} {env : Env} :
    A.over (.compLoop (.GeneratorExp elt [⟨target, iter, ifs, 0⟩] scope pos) 0 it acc env) [] = A.deeper env := by
  first
    | rfl
    | (obtain ⟨hd, d, fr, gs, u⟩ := A; simp [Around.over, Around.deeper, marksOver, frameCount, unitsOf, envsOf, guardsOf, pushEnvs, pushGuards, Code.envs, Code.env?, Code.isFrame, Code.guards, Code.isGuard, Code.weight, Code.frames, Code.isCreation, Code.isCaller, Code.cUnits])
theorem over_genS {A : Around} {elt target iter : Expr} {ifs : List Expr} {scope : Scope} {pos : Pos} {it acc : Value} {env : Env} :
    A.over (.compStart (.GeneratorExp elt [⟨target, iter, ifs, 0⟩] scope pos) 0 it acc env) [] = A.deeper env := by
  first
    | rfl
    | (obtain ⟨hd, d, fr, gs, u⟩ := A; simp [Around.over, Around.deeper, marksOver, frameCount, unitsOf, envsOf, guardsOf, pushEnvs, pushGuards, Code.envs, Code.env?, Code.isFrame, Code.guards, Code.isGuard, Code.weight, Code.frames, Code.isCreation, Code.isCaller, Code.cUnits])
end
/-! ### who draws from it -/
/-- while the generator sleeps its consumer writes at sl alone -/
structure GMoved (sl : List Addr) (s s' : Shared) : Prop where
  os : s'.os = s.os
  bare : AllBare s'.gens
  keep : ∀ b o, b ∉ sl → s.heap.get? b = some o → s'.heap.get? b = some o
theorem GMoved.trans {sl : List Addr} {a b c : Shared} (x : GMoved sl a b) (y : GMoved sl b c) : GMoved sl a c := ⟨y.os.trans x.os, y.bare, fun d o h e => y.keep d o h (x.keep d o h e)⟩
theorem inv_moved {X : Cx} {sl : List Addr} {pl ps ps' : List (Addr × Obj)} {σ : L2.St} {H : Hp} {s s' : Shared} (hsl : ∀ b ∈ sl, X.s_0.heap.objs.size ≤ b ∧ b ≠ X.env.locals ∧ b ∉ X.fs ∧ (∀ x c, X.env.cells.lookup x = some c → c ≠ b) ∧ ∀ p ∈ X.pn ++ pl, p.1 ≠ b)
    (I : Inv X (ps ++ pl) σ H s) (hps : ps.map (·.1) = sl) (z : GMoved sl s s') (hps' : ∀ p ∈ ps', p.1 ∈ sl ∧ s'.heap.get? p.1 = some p.2 ∧ ∀ v, p.2.data ≠ .cell v) : Inv X (ps' ++ pl) σ H s' := by
  have hH : ∀ b ∈ sl, H b = none := fun b hb => by
    rw [← hps] at hb
    obtain ⟨p, hp, rfl⟩ := List.mem_map.mp hb
    exact (I.pin p (List.mem_append_right _ (List.mem_append_left _ hp))).2.1
  have I0 : Inv X pl σ H s := I.pins_of fun p hp => I.pin p (List.mem_append_right _ (List.mem_append_right _ hp))
  have nt : ∀ b u, H b = some u → b ∉ sl := fun b u q hb => by rw [hH b hb] at q; cases q
  obtain ⟨z1, z2, z3⟩ := z
  obtain ⟨hh, g, d, t, o⟩ := s'
  have ho : o = s.os := z1
  subst ho
  have J : Inv X pl σ H { s with heap := hh, gens := g, drawn := d, toks := t } := by
    refine I0.step (g' := g) (t' := t) (d' := d) (ch := sl) (fun b hb => ⟨.inr (hsl b hb).1, (hsl b hb).2.1, (hsl b hb).2.2.2.1, (hsl b hb).2.2.2.2⟩)
      (fun b ob _ _ hc q _ => z3 b ob hc q) (fun b ob _ _ hc q _ => ⟨ob.slots, z3 b ob hc q⟩) (fun _ _ _ _ n => n) (fun b ob hc q => ⟨ob, z3 b ob hc q⟩)
      (fun _ _ q => q) (fun _ _ _ q => q) (fun b ps q => ⟨#[], by rw [q]; simp⟩) (fun m hm => ?_) (fun b u q => ?_) z2
    · obtain ⟨ob, es, ep, ho, r⟩ := hm
      exact ⟨ob, es, ep, z3 _ ob (fun hb => (hsl _ hb).2.1 rfl) ho, r⟩
    · refine (I0.hok b u q).stay (fun c v hc y => z3 c v ?_ y) (fun _ y => y) fun _ _ y => y
      rcases hc with y | y
      · rw [y]; exact nt b u q
      · exact nt c _ y
  refine J.pins_of fun p hp => ?_
  rcases List.mem_append.mp hp with hp | hp
  · obtain ⟨h1, h2, h3⟩ := hps' p hp
    exact ⟨h2, hH _ h1, (hsl _ h1).2.1, (hsl _ h1).2.2.1, h3⟩
  · exact J.pin p (List.mem_append_right _ hp)
section
variable {α : Type} (step : α → V → Option (α ⊕ V)) (fin : α → V) (cp : α → List (Addr × Obj) → Prop) (sl : List Addr) (a g : Addr) (Fin : V → Shared → Prop)
def GYx : Protocol := fun n s₀ v s kap => AllBare s.gens ∧ s.heap.NoLimit ∧ s.heap.IsGen a g ∧ ∃ acc ps y, cp acc ps ∧ (∀ p ∈ ps, s₀.heap.get? p.1 = some p.2 ∧ s.heap.get? p.1 = some p.2) ∧ RelV y v ∧
  match step acc y with
  | none => False
  | some (.inr r) => Fin r s
  | some (.inl acc') => ∀ s' ps', cp acc' ps' → (∀ p ∈ ps', s'.heap.get? p.1 = some p.2 ∧ ∀ v, p.2.data ≠ .cell v) → GMoved sl s s' → kap (.send .none) s'
def GRx : GenEnd := fun n s₀ r s => ((r = .ok (.ret .none) ∨ r = .ok .next) ∧ AllBare s.gens ∧ ∃ acc ps, cp acc ps ∧ (∀ p ∈ ps, s₀.heap.get? p.1 = some p.2 ∧ s.heap.get? p.1 = some p.2) ∧ Fin (fin acc) s) ∨ ∃ e, r = .error e ∧ False
end
theorem thn0 {α : Type} {t : Sem α} {Q Q' : α → Shared → Prop} {M : Model} {A : Around} {E E' : Value → Shared → Prop} {s : Shared} (hE : E = fun _ _ => False) (h : wpAny M A t Q E s) (hQ : ∀ a s, Q a s → Q' a s) : wpAny M A t Q' E' s := wpAny_mono h hQ fun _ _ z => False.elim (by rw [hE] at z; exact z)
/-- the turns of a generator expression, and what its consumer makes of the items; W by the turn, a measure and what the consumer has -/
def gTurns {α : Type} (step : α → V → Option (α ⊕ V)) (fin : α → V) (J : It) (g : TG) (tt : TT) (te : TE) (σ0 : L2.St) (vs : List Nat) (Q : VK) (W : Nat → Nat → α → Hp → Prop) : Prop := ∀ i m acc H, W i m acc H →
  (J.stop i H ∧ Q (fin acc) H) ∨ (J.go i H ∧ ∃ Nx : α → Hp → Prop, (∀ acc' H', Nx acc' H' → ∃ m', m' < m ∧ W (i + 1) m' acc' H') ∧ ∀ x H', J.yld i H x H' → g x σ0 H' fun σ2 H2 => wipe σ2 vs = σ0 ∧ tt σ2 H2 fun b H3 =>
    if b = true then te σ2 H3 fun y H4 => (match step acc y with
      | none => False
      | some (.inl acc') => Nx acc' H4
      | some (.inr r) => Q r H4) else Nx acc H3)
section
variable {X : Cx} {A : Around} {s0 : Shared} {H0 : Hp} {scope : Scope} {code : Value} {fp : List Addr} {pn : List (Addr × Obj)} {tg iter elt : Expr} {ifs : List Expr} {pos : Pos} {J : It} {it : Addr} {tn : Nat → Heap → Prop} {g : TG} {tt : TT} {te : TE} {σ0 : L2.St} {vs : List Nat} {Q : VK}
  {α : Type} {step : α → V → Option (α ⊕ V)} {fin : α → V} {cp : α → List (Addr × Obj) → Prop} {sl : List Addr} {a gi : Addr} {Fin : V → Shared → Prop} {W : Nat → Nat → α → Hp → Prop}
theorem seg_gx (hco : scope.isCoroutine = false) (T : Turn X.prog X.w X.K tg J fp it tn) (pg : PG (gcx X A s0 H0 scope code fp pn) tg g) (pt : PTs (gcx X A s0 H0 scope code fp pn) ifs tt) (pe : PE (gcx X A s0 H0 scope code fp pn) elt te)
    (ht : gTurns step fin J g tt te σ0 vs Q W) (hw0 : wipe σ0 vs = σ0) (hcp : ∀ acc ps, cp acc ps → ps.map (·.1) = sl)
    (hsl : ∀ b ∈ sl, s0.heap.objs.size ≤ b ∧ b ≠ s0.heap.objs.size ∧ b ∉ frs X.stack ∧ (∀ x c, (cloFrom X.env.cells scope.names []).lookup x = some c → c ≠ b) ∧ b ∉ fp ∧ ∀ p ∈ pn, p.1 ≠ b) (hpf : ∀ p ∈ pn, p.1 ∉ fp)
    (hgen : ∀ s' : Shared, (∀ p ∈ pn, s'.heap.get? p.1 = some p.2) → s'.heap.IsGen a gi)
    (hfin : ∀ r acc ps pl σ' H' s', cp acc ps → (∀ p ∈ pl, p.1 ∈ fp) → Inv (gcx X A s0 H0 scope code fp pn) (ps ++ pl) σ' H' s' → Q r H' → Fin r s') :
    ∀ (m n i : Nat) (acc : α) (ps : List (Addr × Obj)) (s : Shared) (H : Hp) (s₀ : Shared), m < n → W i m acc H → cp acc ps → (∀ p ∈ ps, s₀.heap.get? p.1 = some p.2) → Inv (gcx X A s0 H0 scope code fp pn) ps σ0 H s → tn i s.heap → (∀ b ∈ fp, H b = none) →
      Seg (model X.prog X.w) A (GRx fin cp Fin) (GYx step cp sl a gi Fin) n s₀ (.compLoop (.GeneratorExp elt [⟨tg, iter, ifs, 0⟩] scope pos) 0 (.ref it) .none (gEnv X scope s0.heap.objs.size code))
        ((model X.prog X.w).den (.compLoop (.GeneratorExp elt [⟨tg, iter, ifs, 0⟩] scope pos) 0 (.ref it) .none (gEnv X scope s0.heap.objs.size code))) [] s := by
  have psl : ∀ {acc ps}, cp acc ps → ∀ p ∈ ps, p.1 ∈ sl := fun c p hp => by rw [← hcp _ _ c]; exact List.mem_map.mpr ⟨p, hp, rfl⟩
  have stat : ∀ {ps : List (Addr × Obj)} {σ' : L2.St} {H' : Hp} {s' : Shared}, Inv (gcx X A s0 H0 scope code fp pn) ps σ' H' s' → (∀ p ∈ ps, p.1 ∈ sl) → (∀ b ∈ fp, H' b = none) → ∀ b ∈ fp, FpOk (gcx X A s0 H0 scope code fp pn) ps H' b := fun {ps σ' H' s'} I' hp hn b hb =>
    ⟨hn b hb, (I'.ok.exf b hb).1, I'.ok.exfs b hb, .inl hb, fun x c e => (I'.ok.exf b hb).2 x c e, fun p hq => by
      have hq : p ∈ pn ++ ps := hq
      rcases List.mem_append.mp hq with q | q
      · exact fun z => hpf p q (by rw [z]; exact hb)
      · exact fun z => (hsl _ (hp p q)).2.2.2.2.1 (by rw [z]; exact hb)⟩
  intro m
  induction m using Nat.strongRecOn with
  | _ m ih =>
    intro n i acc ps s H s₀ hmn w cpa hs0 I st nf
    show Seg _ A _ _ _ s₀ _ ((compTurn (.GeneratorExp elt [⟨tg, iter, ifs, 0⟩] scope pos) 0 (.ref it) .none (gEnv X scope s0.heap.objs.size code)).onRaise (leaving (gEnv X scope s0.heap.objs.size code))) [] s
    rw [compTurn_gen, Sem.onRaise_eq_wrap]
    refine seg_bind_wrap (wpAny_standAt ?_)
    rcases ht i m acc H w with ⟨stop, q⟩ | ⟨go, Nx, hNx, hstep⟩
    · have td := T.done (gcx X A s0 H0 scope code fp pn) rfl rfl rfl rfl i ps s _ H (fun _ _ => False) I (stat I (psl cpa) nf) st stop
      refine seg_bind_wrap ?_
      rw [over_gen]
      refine thnF td fun r s6 ⟨hr, I6⟩ => ?_
      subst hr
      exact seg_end (.ok .next) (.inl ⟨.inr rfl, I6.bare, acc, ps, cpa, fun p hp => ⟨hs0 p hp, (I6.pin p (List.mem_append_right _ hp)).1⟩, hfin _ acc ps [] _ _ _ cpa (fun p hp => by cases hp) (by rw [List.append_nil]; exact I6) q⟩)
    · have ti := T.item (gcx X A s0 H0 scope code fp pn) rfl rfl rfl rfl i ps s _ H (fun _ _ => False) I (stat I (psl cpa) nf) st go
      refine seg_bind_wrap ?_
      rw [over_gen]
      refine thnF ti fun r s6 ⟨u, hr, h6⟩ => ?_
      subst hr
      show Seg _ A _ _ _ s₀ _ ((letOwnedTupleGo tg (.ref it) u >>= _).wrap _ _ _ _) [] s6
      refine seg_bind_wrap ?_
      rw [over_gen]
      refine thnF h6 fun _ s7 ⟨x, H7, I7, r7, y7, st7, n7⟩ => ?_
      have I7' := I7.pinned (stat I7 (psl cpa) n7) (T.obj _ _ st7)
      refine seg_bind_wrap ?_
      rw [over_gen]
      refine thn0 rfl (pg.run _ s7 _ H7 x u _ I7' r7 (hstep x H7 y7)) fun _ s8 ⟨σ8, H8, I8, hw8, q8⟩ => ?_
      refine seg_bind_wrap ?_
      rw [over_gen]
      refine thn0 rfl (pt.run _ s8 σ8 H8 _ I8 q8) fun b s9 ⟨H9, I9, q9⟩ => ?_
      have more : ∀ {ps' : List (Addr × Obj)} {s' : Shared} {H' : Hp}, Inv (gcx X A s0 H0 scope code fp pn) (ps' ++ pinsAt fp s7.heap) σ8 H' s' → Inv (gcx X A s0 H0 scope code fp pn) ps' σ0 H' s' ∧ tn (i + 1) s'.heap ∧ ∀ b ∈ fp, H' b = none := fun {ps' s' H'} I' => by
        have pin' : ∀ b ∈ fp, ∀ o, s7.heap.get? b = some o → s'.heap.get? b = some o ∧ H' b = none := fun b hb o e =>
          let z := I'.pin (b, o) (List.mem_append_right _ (List.mem_append_right _ (mem_pinsAt hb e)))
          ⟨z.1, z.2.1⟩
        have hl : σ0.length = σ8.length := by rw [← hw8, wipe_length]
        refine ⟨I'.unpinned.weak hl (fun j v e => ?_), T.keep _ _ _ st7 fun b hb o e => (pin' b hb o e).1, fun b hb => ?_⟩
        · rw [← hw8] at e
          exact (wipe_some e).1
        · obtain ⟨o, e, _⟩ := T.obj _ _ st7 b hb
          exact (pin' b hb o e).2
      cases b with
      | false =>
        simp only [Bool.false_eq_true, if_false] at q9 ⊢
        obtain ⟨m', hm, w'⟩ := hNx acc H9 q9
        obtain ⟨J1, J2, J3⟩ := more I9
        exact seg_again rfl (ih m' hm n (i + 1) acc ps s9 H9 s₀ (by omega) w' cpa hs0 J1 J2 J3)
      | true =>
        simp only [if_true] at q9 ⊢
        obtain ⟨k, rfl⟩ : ∃ k, n = k + 1 := ⟨n - 1, by omega⟩
        have hy : ∀ v, yieldOut (gEnv X scope s0.heap.objs.size code) v = yieldValue v := fun v => by
          have e : (gEnv X scope s0.heap.objs.size code).scope.isCoroutine = false := hco
          simp only [yieldOut, e, Bool.false_eq_true, if_false]
        simp only [hy]
        rw [Sem.bind_eq_wrap', Sem.bind_eq_wrap', Sem.wrap_wrap, Sem.wrap_wrap]
        refine seg_wrap ?_
        rw [over_gen]
        refine thn0 rfl (pe.run _ s9 σ8 H9 _ I9 q9) fun z s10 ⟨yv, H10, I10, r10, nx⟩ => ?_
        refine seg_at (seg_yield rfl rfl rfl ⟨I10.bare, I10.nolimit, hgen s10 fun p hp => (I10.pin p (List.mem_append_left _ hp)).1, acc, ps, yv, cpa, fun p hp => ⟨hs0 p hp, (I10.pin p (List.mem_append_right _ (List.mem_append_left _ hp))).1⟩, r10, ?_⟩)
        dsimp only at nx
        cases es : step acc yv with
        | none => rw [es] at nx; exact nx.elim
        | some o =>
          rw [es] at nx
          cases o with
          | inr r => exact hfin r acc ps _ _ _ _ cpa (fun p hp => (of_pinsAt hp).1) I10 nx
          | inl acc' =>
            intro s' ps' cpa' hp' hmv
            obtain ⟨m', hm, w'⟩ := hNx acc' H10 nx
            have I11 := inv_moved (sl := sl) (ps := ps) (ps' := ps') (pl := pinsAt fp s7.heap) (fun b hb => ⟨(hsl b hb).1, (hsl b hb).2.1, (hsl b hb).2.2.1, (hsl b hb).2.2.2.1, fun p hp => ?_⟩) I10 (hcp _ _ cpa) hmv fun p hp => ⟨psl cpa' p hp, hp' p hp⟩
            · obtain ⟨J1, J2, J3⟩ := more I11
              exact seg_again rfl (ih m' hm k (i + 1) acc' ps' s' H10 s' (by omega) w' cpa' (fun p hp => (hp' p hp).1) J1 J2 J3)
            · have hp : p ∈ pn ++ pinsAt fp s7.heap := hp
              rcases List.mem_append.mp hp with hp | hp
              · exact (hsl b hb).2.2.2.2.2 p hp
              · exact fun z => (hsl b hb).2.2.2.2.1 (by rw [← z]; exact (of_pinsAt hp).1)
end
end CardH
end
section
set_option maxHeartbeats 2000000
namespace CardH
open PySem PySem.Spec PyProof.Rows L2 LamX GenW

section
variable {X : Cx} {A : Around} {s0 : Shared} {H0 : Hp} {scope : Scope} {code : Value} {fp : List Addr} {pn : List (Addr × Obj)} {tg iter elt : Expr} {ifs : List Expr} {pos : Pos} {it : Addr} {tn : Nat → Heap → Prop}
theorem seg_start {R : GenEnd} {Y : Protocol} {n : Nat} {s₀ s : Shared} (st : tn 0 s.heap) (hself : ∀ (A : Around) (Q : Value → Shared → Prop) (E : Value → Shared → Prop), Q (.ref it) s → wpAny (model X.prog X.w) A (pyIter (.ref it)) Q E s)
    (loop : Seg (model X.prog X.w) A R Y n s₀ (.compLoop (.GeneratorExp elt [⟨tg, iter, ifs, 0⟩] scope pos) 0 (.ref it) .none (gEnv X scope s0.heap.objs.size code))
        ((model X.prog X.w).den (.compLoop (.GeneratorExp elt [⟨tg, iter, ifs, 0⟩] scope pos) 0 (.ref it) .none (gEnv X scope s0.heap.objs.size code))) [] s) :
    Seg (model X.prog X.w) A R Y n s₀ (.compStart (.GeneratorExp elt [⟨tg, iter, ifs, 0⟩] scope pos) 0 (.ref it) .none (gEnv X scope s0.heap.objs.size code))
        ((model X.prog X.w).den (.compStart (.GeneratorExp elt [⟨tg, iter, ifs, 0⟩] scope pos) 0 (.ref it) .none (gEnv X scope s0.heap.objs.size code))) [] s := by
  show Seg _ A _ _ _ s₀ _ ((compStart (.GeneratorExp elt [⟨tg, iter, ifs, 0⟩] scope pos) 0 (.ref it) .none (gEnv X scope s0.heap.objs.size code)).onRaise (leaving (gEnv X scope s0.heap.objs.size code))) [] s
  unfold compStart
  rw [Sem.onRaise_eq_wrap]
  show Seg _ A _ _ _ s₀ _ ((ask >>= _).wrap _ _ _ _) [] s
  refine seg_bind_wrap (wpAny_askSetting ?_)
  split
  · exact seg_again rfl loop
  · first
      | exact seg_bind_wrap (wpAny_rule (seg_bind_wrap (wpAny_standAt (seg_bind_wrap (hself _ _ _ (seg_again rfl loop))))))
      | (refine seg_bind_wrap (wpAny_rule ?_); show Seg _ A _ _ _ s₀ _ ((standAt iter.pos >>= _).wrap _ _ _ _) [] s; exact seg_bind_wrap (wpAny_standAt (seg_bind_wrap (hself _ _ _ (seg_again rfl loop)))))
theorem gpinned {pn ps : List (Addr × Obj)} {σ : L2.St} {H : Hp} {s : Shared} (I : Inv (gcx X A s0 H0 scope code fp []) [] σ H s)
    (h : ∀ p ∈ pn ++ ps, s.heap.get? p.1 = some p.2 ∧ H p.1 = none ∧ p.1 ≠ s0.heap.objs.size ∧ p.1 ∉ frs X.stack ∧ ∀ v, p.2.data ≠ .cell v) : Inv (gcx X A s0 H0 scope code fp pn) ps σ H s :=
  ⟨⟨I.ok.mod, I.ok.kind, I.ok.glob, I.ok.blt, I.ok.above, I.ok.inj, I.ok.has, I.ok.cab, I.ok.hd, I.ok.frames, I.ok.stk, I.ok.exf, I.ok.bs, I.ok.bsz, I.ok.noex, I.ok.exfs, I.ok.funs, I.ok.frf⟩, I.os, I.bare, I.base, I.loc, I.cell, I.free, I.freeC, h, I.hok, I.len⟩
end

/-! ### the consumers' loops -/
section
variable {P : Program} {w : World} {A : Around} {α : Type} (step : α → V → Option (α ⊕ V)) (fin : α → V) (cp : α → List (Addr × Obj) → Prop) (sl : List Addr) (a g : Addr) (Fin : V → Shared → Prop)
def GReady (P : Program) (w : World) (A : Around) (n : Nat) (s : Shared) : Prop := s.heap.IsGen a g ∧ s.heap.NoLimit ∧ ∃ gs, s.gens[g]? = some gs ∧ gs.Goes (model P w) A (GRx fin cp Fin) (GYx step cp sl a g Fin) n (.send .none) (s.setGen g .running)
/-- one item is drawn -/
theorem gnext {n : Nat} {s : Shared} {Q : Option Value → Shared → Prop} {E : Value → Shared → Prop} (hh : A.handled = none) (hd : A.depth < recursionLimit) (h : GReady step fin cp sl a g Fin P w A.in1 n s)
    (hnone : ∀ s1 acc ps, AllBare s1.gens → cp acc ps → (∀ p ∈ ps, s.heap.get? p.1 = some p.2 ∧ s1.heap.get? p.1 = some p.2) → Fin (fin acc) s1 → Q none s1)
    (hsome : ∀ v s1 acc ps y, AllBare s1.gens → cp acc ps → (∀ p ∈ ps, s.heap.get? p.1 = some p.2 ∧ s1.heap.get? p.1 = some p.2) → RelV y v → (match step acc y with
      | none => False
      | some (.inr r) => Fin r s1
      | some (.inl acc') => ∀ s' ps', s'.gens = s1.gens → cp acc' ps' → (∀ p ∈ ps', s'.heap.get? p.1 = some p.2 ∧ ∀ v, p.2.data ≠ .cell v) → GMoved sl s1 s' → ∃ m, m < n ∧ GReady step fin cp sl a g Fin P w A.in1 m s') → Q (some v) s1)
    (hmv : ∀ r s1 s2, Fin r s1 → GMoved sl s1 s2 → Fin r s2) (hsa : a ∉ sl) (hsc : cStatics ∉ sl) :
    wpAny (model P w) A (pyNext (.ref a)) Q E s := by
  obtain ⟨hg, hl, gs, hgs, hgo⟩ := h
  have hgl : g < s.gens.size := (Array.getElem?_eq_some_iff.mp hgs).1
  have sg : ∀ (s1 : Shared) (x : GenState), x.bare = true → AllBare s1.gens → GMoved sl s1 (s1.setGen g x) := fun s1 x hx hb => ⟨rfl, allBare_setGen hb hx, fun _ _ _ e => e⟩
  refine wpAny_gsz (n := g + 1) hgl (next_genG (A := A) (F := fun n s₀ s => AllBare s.gens ∧ ∃ acc ps, cp acc ps ∧ (∀ p ∈ ps, s₀.heap.get? p.1 = some p.2 ∧ s.heap.get? p.1 = some p.2) ∧ Fin (fin acc) s) (Er := fun _ _ => False) hh hl hd hg hgs hgo (fun v s₁ gs' hbare hv hsz => ?_) (fun s₁ hp h' hk _ => ?_) fun e s₁ he => he.elim)
  · obtain ⟨hb1, hl1, hg1, acc, ps, y, hc, hps, rv, hm⟩ := hv
    refine hsome v _ acc ps y (allBare_setGen hb1 hbare) hc hps rv ?_
    cases es : step acc y with
    | none => rw [es] at hm; exact hm
    | some o =>
      rw [es] at hm
      cases o with
      | inr r => exact hmv _ _ _ hm (sg s₁ gs' hbare hb1)
      | inl acc' =>
        cases n with
        | zero => exact fun s' ps' eg hc' hp' mv => (hm (s'.setGen g .running) ps' hc' hp' ⟨mv.os, allBare_setGen mv.bare rfl, fun b o hb e => mv.keep b o hb e⟩).elim
        | succ m =>
          refine fun s' ps' eg hc' hp' mv => ⟨m, Nat.lt_succ_self _, ?_⟩
          have hsz1 : g < s'.gens.size := by rw [eg]; exact hsz
          refine ⟨?_, ?_, gs', ?_, hm (s'.setGen g .running) ps' hc' hp' ?_⟩
          · obtain ⟨o, nm, qn, ho, r⟩ := hg1
            exact ⟨o, nm, qn, mv.keep a o hsa ho, r⟩
          · obtain ⟨mc, hns, hnn⟩ := hl1
            exact ⟨mc, hns.at' fun o e => mv.keep _ o hsc e, hnn⟩
          · rw [eg]; exact setGen_at (by have q : (s₁.setGen g gs').gens.size = s₁.gens.size := setGen_size _ _ _; have hsz' : g + 1 ≤ (s₁.setGen g gs').gens.size := hsz; omega)
          · exact ⟨mv.os, allBare_setGen mv.bare rfl, fun b o hb e => mv.keep b o hb e⟩
  · obtain ⟨hb1, acc, ps, hc, hps, hF⟩ := hp
    exact hnone _ acc ps (allBare_setGen (s := s₁) hb1 rfl) hc (fun p hp => ⟨(hps p hp).1, hk _ _ (hps p hp).2⟩) (hmv _ _ _ hF ⟨rfl, allBare_setGen (s := s₁) hb1 rfl, fun b o _ e => hk b o e⟩)
end
def anyS : Unit → V → Option (Unit ⊕ V) := fun _ y => match y with
  | .bl true => some (.inr (.bl true))
  | .bl false => some (.inl ())
  | _ => none
def allS : Unit → V → Option (Unit ⊕ V) := fun _ y => match y with
  | .bl true => some (.inl ())
  | .bl false => some (.inr (.bl false))
  | _ => none
def sumS : Int → V → Option (Int ⊕ V) := fun a y => match y with
  | .int i => some (.inl (a + i))
  | _ => none
def cpU : Unit → List (Addr × Obj) → Prop := fun _ ps => ps = []
def cpI (S : Addr) : Int → List (Addr × Obj) → Prop := fun a ps => ∃ (t : Tok) (c : Nat), ps = [(S, lstObj #[.int a t] c)]
section
variable {P : Program} {w : World} {A : Around} {a g : Addr} {Fin : V → Shared → Prop} {R : Result → Shared → Prop}
theorem loop_any (hh : A.handled = none) (hd : A.depth < recursionLimit) (hmv : ∀ r s1 s2, Fin r s1 → GMoved [] s1 s2 → Fin r s2) (hR : ∀ r u s, AllBare s.gens → Fin r s → RelV r u → R (.ok (.ret u)) s) :
    ∀ (n : Nat) (s : Shared), GReady anyS (fun _ => .bl false) cpU [] a g Fin P w A.in1.in1 n s → codeAny (model P w) A (.builtin "any.loop" ⟨[.ref a], []⟩) R s := by
  intro n
  induction n using Nat.strongRecOn with
  | _ n ih =>
    intro s hs
    refine codeAny_builtin F.entry_any_loop ?_
    rw [Around.under_plainId F.plain_any_loop _]
    show wpAny _ A.in1 (pyNext (.ref a) >>= _) _ _ s
    refine wpAny_bind (gnext _ _ _ _ _ _ _ (A := A.in1) hh hd hs (fun s1 acc ps hb hc hp hF => ?_) (fun v s1 acc ps y hb hc hp rv hm => ?_) hmv (by simp) (by simp))
    · exact wpAny_bind (wpAny_rule (wpAny_pure (hR _ (.bool false) _ hb hF rfl)))
    · cases y with
      | bl b =>
        cases rv
        refine wpAny_bind (wpAny_holding (wpAny_truthy_bool ?_))
        refine wpAny_bind (wpAny_letGo ?_)
        cases b with
        | true =>
          simp only [if_true]
          exact wpAny_bind (wpAny_rule (wpAny_pure (hR _ (.bool true) _ hb hm rfl)))
        | false =>
          simp only [Bool.false_eq_true, if_false]
          obtain ⟨m, hlt, hm⟩ := hm s1 [] rfl rfl (fun p hp => by cases hp) ⟨rfl, hb, fun _ _ _ e => e⟩
          exact wpAny_pure ⟨plainId_quiet F.plain_any_loop _, ih m hlt _ hm⟩
      | _ => exact hm.elim
theorem loop_all (hh : A.handled = none) (hd : A.depth < recursionLimit) (hmv : ∀ r s1 s2, Fin r s1 → GMoved [] s1 s2 → Fin r s2) (hR : ∀ r u s, AllBare s.gens → Fin r s → RelV r u → R (.ok (.ret u)) s) :
    ∀ (n : Nat) (s : Shared), GReady allS (fun _ => .bl true) cpU [] a g Fin P w A.in1.in1 n s → codeAny (model P w) A (.builtin "all.loop" ⟨[.ref a], []⟩) R s := by
  intro n
  induction n using Nat.strongRecOn with
  | _ n ih =>
    intro s hs
    refine codeAny_builtin F.entry_all_loop ?_
    rw [Around.under_plainId F.plain_all_loop _]
    show wpAny _ A.in1 (pyNext (.ref a) >>= _) _ _ s
    refine wpAny_bind (gnext _ _ _ _ _ _ _ (A := A.in1) hh hd hs (fun s1 acc ps hb hc hp hF => ?_) (fun v s1 acc ps y hb hc hp rv hm => ?_) hmv (by simp) (by simp))
    · exact wpAny_bind (wpAny_rule (wpAny_pure (hR _ (.bool true) _ hb hF rfl)))
    · cases y with
      | bl b =>
        cases rv
        refine wpAny_bind (wpAny_holding (wpAny_truthy_bool ?_))
        refine wpAny_bind (wpAny_letGo ?_)
        cases b with
        | false =>
          simp only [Bool.false_eq_true, if_false]
          exact wpAny_bind (wpAny_rule (wpAny_pure (hR _ (.bool false) _ hb hm rfl)))
        | true =>
          simp only [if_true]
          obtain ⟨m, hlt, hm⟩ := hm s1 [] rfl rfl (fun p hp => by cases hp) ⟨rfl, hb, fun _ _ _ e => e⟩
          exact wpAny_pure ⟨plainId_quiet F.plain_all_loop _, ih m hlt _ hm⟩
      | _ => exact hm.elim
theorem loop_sum {S : Addr} (hh : A.handled = none) (hd : A.depth < recursionLimit) (hSa : S ≠ a) (hSc : S ≠ cStatics) (hmv : ∀ r s1 s2, Fin r s1 → GMoved [S] s1 s2 → Fin r s2) (hR : ∀ r u s, AllBare s.gens → Fin r s → RelV r u → R (.ok (.ret u)) s) :
    ∀ (n : Nat) (s : Shared) (st acc : Int) (t : Tok) (c : Nat), (st = 0 ∨ st = 2) → s.heap.get? S = some (lstObj #[.int acc t] c) → GReady sumS (fun a => .int a) (cpI S) [S] a g Fin P w A.in1.in1 n s → codeAny (model P w) A (.builtin "sum.loop" ⟨[.ref a, .ref S, rawInt st, rawInt 0], []⟩) R s := by
  intro n
  induction n using Nat.strongRecOn with
  | _ n ih =>
    intro s st acc t c hst2 hS hs
    refine codeAny_builtin F.entry_sum_loop ?_
    rw [Around.under_plainId F.plain_sum_loop _]
    show wpAny _ A.in1 (seqItems? (.ref S) >>= _) _ _ s
    refine wpAny_bind (wpAny_seqItems hS rfl ?_)
    show wpAny _ A.in1 (tryCatch (pyNext (.ref a)) _ >>= _) _ _ s
    have sS : ∀ {b : Int} {ps : List (Addr × Obj)} {s1 : Shared}, cpI S b ps → (∀ p ∈ ps, s.heap.get? p.1 = some p.2 ∧ s1.heap.get? p.1 = some p.2) → b = acc ∧ s1.heap.get? S = some (lstObj #[.int acc t] c) := fun {b ps s1} hc hp => by
      obtain ⟨t', c', rfl⟩ := hc
      obtain ⟨h1, h2⟩ := hp (S, lstObj #[.int b t'] c') (by simp)
      have h1 : s.heap.get? S = some (lstObj #[.int b t'] c') := h1
      have h2 : s1.heap.get? S = some (lstObj #[.int b t'] c') := h2
      rw [hS] at h1
      have e := Option.some.inj h1
      rw [← e] at h2
      refine ⟨?_, h2⟩
      have e2 := congrArg Obj.data e
      injection e2 with e3 _
      have e4 : #[Value.int acc t][0]? = #[Value.int b t'][0]? := by rw [e3]
      simp at e4
      exact e4.1.symm
    refine wpAny_bind (wpAny_tryCatch (gnext _ _ _ _ _ _ _ (A := A.in1) hh hd hs (fun s1 b ps hb hc hp hF => ?_) (fun v s1 b ps y hb hc hp rv hm => ?_) hmv (by simpa using fun e => hSa e.symm) (by simpa using fun e => hSc e.symm)))
    · obtain ⟨rfl, hS1⟩ := sS hc hp
      exact wpAny_pure (hR _ (.int b t) _ hb hF ⟨t, rfl⟩)
    · obtain ⟨rfl, hS1⟩ := sS hc hp
      cases y with
      | int i =>
        obtain ⟨ti, rfl⟩ := rv
        have go : ∀ (h' : Heap) (tk : Nat) (t2 : Tok) (c2 : Nat) (st2 : Int), (st2 = 0 ∨ st2 = 2) → h'.get? S = some (lstObj #[.int (b + i) t2] c2) → (∀ d o, d ≠ S → s1.heap.get? d = some o → h'.get? d = some o) →
            codeAny (model P w) A (.builtin "sum.loop" ⟨[.ref a, .ref S, rawInt st2, rawInt 0], []⟩) R { s1 with heap := h', toks := tk } := fun h' tk t2 c2 st2 hst hS2 hk => by
          obtain ⟨m, hlt, hm⟩ := hm { s1 with heap := h', toks := tk } [(S, lstObj #[.int (b + i) t2] c2)] rfl ⟨t2, c2, rfl⟩ (fun p hp => by
            rw [List.mem_singleton.mp hp]
            exact ⟨hS2, fun v q => by cases q⟩) ⟨rfl, hb, fun d o hd e => hk d o (by simpa using hd) e⟩
          exact ih m hlt _ st2 _ t2 c2 hst hS2 hm
        rcases hst2 with rfl | rfl
        · show wpAny _ A.in1 (if (_ : Bool) = true then (mkInt (b + i) >>= _) else _) _ _ _
          split
          · refine wpAny_bind (wpAny_mkInt ?_)
            show wpAny _ A.in1 (updateSeq S (fun _ => #[.int (b + i) s1.toks]) >>= _) _ _ _
            refine wpAny_bind ?_
            refine wpAny_updateSeq hS1 rfl (wpAny_pure ⟨plainId_quiet F.plain_sum_loop _, go _ _ _ _ 0 (.inl rfl) (Heap.get?_update_self _ hS1 rfl) fun d o hd e => (Heap.get?_update_other _ _ (Ne.symm hd)).trans e⟩)
          · refine wpAny_bind (wpAny_rule ?_)
            refine wpAny_bind (wpAny_attempt (wpAny_holding (wpAny_add_int ?_)))
            show wpAny _ A.in1 (updateSeq S (fun _ => #[.int (b + i) s1.toks]) >>= _) _ _ _
            refine wpAny_bind (wpAny_updateSeq hS1 rfl ?_)
            have hS₂ := Heap.get?_update_self (Obj.mapSeq fun _ => #[Value.int (b + i) s1.toks]) hS1 rfl
            refine wpAny_bind (wpAny_letGo ?_)
            refine wpAny_bind (wpAny_updateSeq hS₂ rfl (wpAny_pure ⟨plainId_quiet F.plain_sum_loop _, go _ _ _ _ 2 (.inr rfl) (Heap.get?_update_self _ hS₂ rfl) fun d o hd e => (Heap.get?_update_other _ _ (Ne.symm hd)).trans ((Heap.get?_update_other _ _ (Ne.symm hd)).trans e)⟩))
        · show wpAny _ A.in1 ((holding [Value.int i ti] (binaryOp .Add (.int b t) (.int i ti))).attempt >>= _) _ _ _
          refine wpAny_bind (wpAny_attempt (wpAny_holding (wpAny_add_int ?_)))
          show wpAny _ A.in1 (updateSeq S (fun _ => #[.int (b + i) s1.toks]) >>= _) _ _ _
          refine wpAny_bind (wpAny_updateSeq hS1 rfl ?_)
          have hS₂ := Heap.get?_update_self (Obj.mapSeq fun _ => #[Value.int (b + i) s1.toks]) hS1 rfl
          refine wpAny_bind (wpAny_letGo ?_)
          refine wpAny_bind (wpAny_updateSeq hS₂ rfl (wpAny_pure ⟨plainId_quiet F.plain_sum_loop _, go _ _ _ _ 2 (.inr rfl) (Heap.get?_update_self _ hS₂ rfl) fun d o hd e => (Heap.get?_update_other _ _ (Ne.symm hd)).trans ((Heap.get?_update_other _ _ (Ne.symm hd)).trans e)⟩))
      | _ => exact hm.elim
end
end CardH
end
section
set_option maxHeartbeats 2000000
namespace CardH
open PySem PySem.Spec PyProof.Rows L2 LamX GenW

/-- behind the consumer's writes the outer frame stands -/
def FinX (X : Cx) (pins : List (Addr × Obj)) (σ : L2.St) (sl : List Addr) (Q : VK) : V → Shared → Prop := fun r s => ∀ s', GMoved sl s s' → ∃ H', Inv X pins σ H' s' ∧ Q r H'
/-- a generator expression is made -/
def GNew (X : Cx) (pins : List (Addr × Obj)) (σ : L2.St) (k : Nat) {α : Type} (step : α → V → Option (α ⊕ V)) (fin : α → V) (acc0 : α) (Q : VK) (v : Value) (s5 : Shared) : Prop :=
  ∃ (a gi : Addr) (c : Code), v = .ref a ∧ a < s5.heap.objs.size ∧ s5.heap.IsGen a gi ∧ s5.heap.NoLimit ∧ AllBare s5.gens ∧ s5.gens[gi]? = some (.fresh c) ∧
    ∀ (A : Around) (cp : α → List (Addr × Obj) → Prop) (sl : List Addr) (ps : List (Addr × Obj)) (s2 : Shared), Room (k + 1) A → A.frames = some X.stack → (∀ acc ps, cp acc ps → ps.map (·.1) = sl) → (∀ b ∈ sl, s5.heap.objs.size ≤ b) → cp acc0 ps →
      (∀ p ∈ ps, s2.heap.get? p.1 = some p.2 ∧ ∀ v, p.2.data ≠ .cell v) → s2.os = s5.os → AllBare s2.gens → (∀ b o, s5.heap.get? b = some o → s2.heap.get? b = some o) →
      ∃ n, Seg (model X.prog X.w) A (GRx fin cp (FinX X pins σ sl Q)) (GYx step cp sl a gi (FinX X pins σ sl Q)) n s2 c ((model X.prog X.w).den c) [] s2
section
variable {X : Cx} {pins : List (Addr × Obj)} {σ : L2.St} {H : Hp} {s : Shared} {scope : Scope} {tg iter elt : Expr} {ifs : List Expr} {gpos : Pos} {own : List (Str × Nat)} {wi : TI} {g : TG} {tt : TT} {te : TE} {k : Nat} {α : Type} {step : α → V → Option (α ⊕ V)} {fin : α → V} {acc0 : α}
def tGx {α : Type} (T : List (Addr × Str)) (step : α → V → Option (α ⊕ V)) (fin : α → V) (acc0 : α) (wi : TI) (g : TG) (tt : TT) (te : TE) (vs : List Nat) : TE := fun σ H Q => wi σ H fun J H2 => Tabs T H2 ∧ ∀ H3, Grown T H2 H3 →
  ∃ W : Nat → Nat → α → Hp → Prop, (∃ m, W 0 m acc0 H3) ∧ gTurns step fin J g tt te (wipe σ vs) vs Q W
theorem gen_made {T : List (Addr × Str)} {c P : Addr} {Q : VK} (hN : X.N.Nodup) (TB : LamX.TabB X.base X.mg c P) (hcode : X.env.code = .ref c) (hm : (P, X.env.qual ++ "<genexpr>") ∈ T) (hu : ∀ p ∈ T, p.1 = P → p.2 = X.env.qual ++ "<genexpr>")
    (hco : scope.isCoroutine = false) (h0 : scope.names.lookup (".0" : Str) = some NameKind.local) (ok : BlkOk X.N X.env.scope scope own) (hnc : ∀ y ∈ scope.names, y.2 ≠ .cell) (hr : Room k X.A) (hi : PI X tg iter wi)
    (hg : ∀ (A : Around) (s : Shared) (H : Hp) (code : Value) (fp : List Addr) (pn : List (Addr × Obj)), Room k (A.deeper (gEnv X scope s.heap.objs.size code)) → PG (gcx X A s H scope code fp pn) tg g)
    (ht : ∀ (A : Around) (s : Shared) (H : Hp) (code : Value) (fp : List Addr) (pn : List (Addr × Obj)), Room k (A.deeper (gEnv X scope s.heap.objs.size code)) → PTs (gcx X A s H scope code fp pn) ifs tt)
    (he : ∀ (A : Around) (s : Shared) (H : Hp) (code : Value) (fp : List Addr) (pn : List (Addr × Obj)), Room k (A.deeper (gEnv X scope s.heap.objs.size code)) → PE (gcx X A s H scope code fp pn) elt te)
    (hs : ∀ x, genFold iter X.env x = pure x) (I : Inv X pins σ H s) (h : tGx T step fin acc0 wi g tt te (own.map (·.2)) σ H Q) :
    wpAny (model X.prog X.w) X.A (eval (.GeneratorExp elt [⟨tg, iter, ifs, 0⟩] scope gpos) X.env) (GNew X pins σ k step fin acc0 Q) X.xe s := by
  have hfree : ∀ y ∈ scope.names, y.2 = .free → ∃ c, X.env.cells.lookup y.1 = some c := fun y hy e => by
    rcases ok.free y hy e with k | k
    · exact I.ok.has _ (.inl k)
    · exact I.ok.has _ (.inr k)
  have cm : ∀ {y c}, (cloFrom X.env.cells scope.names []).lookup y = some c → X.env.cells.lookup y = some c := fun {y c} e => by
    rcases cloFrom_mem (PySem.mem_of_lookup e) with hm | ⟨h1, h2⟩
    · cases hm
    · obtain ⟨c1, hc⟩ := hfree _ h1 rfl
      have hc : X.env.cells.lookup y = some c1 := hc
      have e2 : c = c1 := by
        rw [h2, hc] <;> rfl
      rw [e2]
      exact hc
  refine wpAny_GeneratorExp_make hco (closure_ok hfree) hnc h0 ok.kind hr.depth ?_ hs
  refine thn (hi.run pins s σ H _ I h) fun xv s1 hx => thn hx fun itv s2 h2 => ?_
  obtain ⟨it, fp, tn, J, H2, e, I2, Tn, st2, f2, hT, q⟩ := h2
  subst e
  refine ⟨I2.nolimit, ?_⟩
  refine gcode_new I2 TB hcode hm hu hT fun cv H3 s3 I3 gr hsz hnn hkp => ?_
  obtain ⟨bm, ob, e1, e2, e3, e4, e5, e6, e7, e8⟩ := TB.bm
  refine wpAny_builtinsFor (m := X.mg) (by rw [I3.ok.glob]; exact I3.mod.glob.keeps I3.bk) e1 e2 (I3.bk _ _ e5) e6 e7 e8 ?_
  intro h' hns hsb
  obtain ⟨W, ⟨m0, w0⟩, turn⟩ := q H3 gr
  have sz' : h'.objs.size = s3.heap.objs.size + 1 := by rw [hsb.1, Heap.size_push]
  have kp' : ∀ b o, s3.heap.get? b = some o → h'.get? b = some o := fun b o e => hsb.extBut b o (Nat.ne_of_lt (Heap.lt_size e)) (Heap.get?_push_of_some _ e)
  have fsz : ∀ b ∈ fp, b < s2.heap.objs.size := fun b hb => by
    obtain ⟨o, e, _⟩ := Tn.obj _ _ st2 b hb
    exact Heap.lt_size e
  have f3 : ∀ b ∈ fp, FpOk X pins H3 b ∧ b < s3.heap.objs.size := fun b hb => ⟨⟨hnn b (f2 b hb).1 (fsz b hb), (f2 b hb).2⟩, Nat.lt_of_lt_of_le (fsz b hb) hsz⟩
  have st3 : tn 0 s3.heap := Tn.keep _ _ _ st2 fun b hb o e => hkp b o (f2 b hb).1 e
  have nofr : ∀ f, s3.heap.objs.size ≤ f → f ∉ frs X.stack := by
    intro f hf z
    rcases List.mem_cons.mp (I3.stkSub _ z) with e | e
    · subst e; exact absurd (Nat.lt_of_lt_of_le I3.lt hf) (Nat.lt_irrefl _)
    · exact I3.nofs hf e
  have lim3 := I3.nolimit
  generalize hgo : ({ cls := .type "generator", data := .fields #[.int s3.gens.size 0, .str "<genexpr>" (s3.toks + 1), .str (X.env.qual ++ "<genexpr>") (s3.toks + 1 + 1)] } : Obj) = go
  have go1 : go.cls = .type "generator" := by rw [← hgo]
  have hgen : ∀ s' : Shared, (∀ p ∈ [(h'.objs.size, go)], s'.heap.get? p.1 = some p.2) → s'.heap.IsGen h'.objs.size s3.gens.size := fun s' hp => ⟨go, _, _, hp (h'.objs.size, go) (by simp), by rw [← hgo], by rw [← hgo], by rw [← hgo]⟩
  have gcell : ∀ v, go.data ≠ .cell v := fun v z => by rw [← hgo] at z; cases z
  have gget : (h'.push go).get? h'.objs.size = some go := Heap.get?_push_size _ (by rw [← hgo]; rfl)
  have kp5 : ∀ b o, s3.heap.get? b = some o → (h'.push go).get? b = some o := fun b o e => Heap.get?_push_of_some _ (kp' b o e)
  refine ⟨h'.objs.size, s3.gens.size, _, rfl, by show _ < (h'.push go).objs.size; rw [Heap.size_push]; exact Nat.lt_succ_self _, hgen _ (fun p hp => by rw [List.mem_singleton.mp hp]; exact gget), lim3.keeps kp5, AllBare.push I3.bare rfl, Array.getElem?_push_size .., ?_⟩
  intro A cp sl ps s2' hrA hfr hcp hsl hc0 hps hos hba hk2
  have hsl : ∀ b ∈ sl, h'.objs.size + 1 ≤ b := fun b hb => by
    have z := hsl b hb
    have z : (h'.push go).objs.size ≤ b := z
    rw [Heap.size_push] at z; exact z
  obtain ⟨h2, g2, d2, t2, o2⟩ := s2'
  have ho : o2 = s3.os := hos
  subst ho
  have kp2 : ∀ b o, s3.heap.get? b = some o → h2.get? b = some o := fun b o e => hk2 b o (kp5 b o e)
  have I4 := gen_start (A := A) (own := own) (fp := fp) (code := cv) (h1 := h2) (it := .ref it) (g1 := g2) (d1 := d2) (tk := t2) I3 ok hN hnc f3 hrA.hd hfr ((hns.push go).keeps hk2) kp2 hba
  have ne0 : ∀ b, s3.heap.objs.size + 1 ≤ b → H3 b = none ∧ b ≠ s3.heap.objs.size ∧ b ∉ frs X.stack := fun b hb => ⟨I3.hok.fresh (Nat.le_of_succ_le hb), Nat.ne_of_gt hb, nofr b (Nat.le_of_succ_le hb)⟩
  have psl : ∀ p ∈ ps, p.1 ∈ sl := fun p hp => by rw [← hcp _ _ hc0]; exact List.mem_map.mpr ⟨p, hp, rfl⟩
  have I5 : Inv (gcx X A s3 H3 scope cv fp [(h'.objs.size, go)]) ps (wipe σ (own.map (·.2))) H3 { s3 with heap := h2, gens := g2, drawn := d2, toks := t2 } := gpinned I4 fun p hp => by
    rcases List.mem_append.mp hp with hp | hp
    · rw [List.mem_singleton.mp hp]
      obtain ⟨z1, z2, z3⟩ := ne0 h'.objs.size (by rw [sz']; exact Nat.le_refl _)
      exact ⟨hk2 _ _ gget, z1, z2, z3, gcell⟩
    · obtain ⟨z1, z2, z3⟩ := ne0 p.1 (by have := hsl _ (psl p hp); omega)
      exact ⟨(hps p hp).1, z1, z2, z3, (hps p hp).2⟩
  have hslG : ∀ b ∈ sl, s3.heap.objs.size ≤ b ∧ b ≠ s3.heap.objs.size ∧ b ∉ frs X.stack ∧ (∀ x c, (cloFrom X.env.cells scope.names []).lookup x = some c → c ≠ b) ∧ b ∉ fp ∧ ∀ p ∈ [(h'.objs.size, go)], p.1 ≠ b := fun b hb => by
    have hb1 := hsl b hb
    obtain ⟨z1, z2, z3⟩ := ne0 b (by omega)
    refine ⟨by omega, z2, z3, fun x c e z => ?_, fun z => ?_, fun p hp z => ?_⟩
    · obtain ⟨v, o, ho, _⟩ := I3.cell x c (cm e)
      have := Heap.lt_size ho
      have hc : c < s3.heap.objs.size := this
      rw [z] at hc
      have hb2 : s3.heap.objs.size ≤ b := by omega
      exact absurd (Nat.lt_of_lt_of_le hc hb2) (Nat.lt_irrefl _)
    · have hb2 : s3.heap.objs.size ≤ b := by omega
      exact absurd (Nat.lt_of_lt_of_le (f3 b z).2 hb2) (Nat.lt_irrefl _)
    · rw [List.mem_singleton.mp hp] at z
      have z : h'.objs.size = b := z
      rw [z] at hb1
      exact absurd hb1 (Nat.not_succ_le_self _)
  refine ⟨m0 + 1, seg_start (s := { s3 with heap := h2, gens := g2, drawn := d2, toks := t2 }) (Tn.keep _ _ _ st3 fun b hb o e => kp2 b o e) (fun A Q E q => Tn.self A 0 _ Q E (Tn.keep _ _ _ st3 fun b hb o e => kp2 b o e) q)
    (seg_gx (g := g) (tt := tt) (te := te) (J := J) (vs := own.map (·.2)) (Q := Q) (W := W) (sl := sl) hco Tn (hg _ _ _ _ _ _ (hrA.deeper _)) (ht _ _ _ _ _ _ (hrA.deeper _)) (he _ _ _ _ _ _ (hrA.deeper _)) turn wipe_wipe hcp hslG (fun p hp z => ?_) hgen (fun r acc ps pl σ' H' s' hc hpl IG hQ s'' mv => ?_)
      m0 (m0 + 1) 0 acc0 ps _ H3 _ (Nat.lt_succ_self _) w0 hc0 (fun p hp => (hps p hp).1) I5 (Tn.keep _ _ _ st3 fun b hb o e => kp2 b o e) (fun b hb => (f3 b hb).1.1))⟩
  · rw [List.mem_singleton.mp hp] at z
    have hc : (h'.objs.size : Nat) < s3.heap.objs.size := (f3 _ z).2
    omega
  · have I6 := inv_moved (sl := sl) (ps := ps) (ps' := []) (pl := pl) (fun b hb => ⟨(hslG b hb).1, (hslG b hb).2.1, (hslG b hb).2.2.1, (hslG b hb).2.2.2.1, fun p hp => ?_⟩) IG (hcp _ _ hc) mv fun p hp => by cases hp
    · exact ⟨H', I3.call' (ch := fp) I6.os I6.base I6.hok I6.bare fun b hb => ⟨(f3 b hb).1.2.2.2.1, (f3 b hb).1.2.1, (f3 b hb).1.2.2.2.2.1, (f3 b hb).1.2.2.2.2.2⟩, hQ⟩
    · have hp : p ∈ [(h'.objs.size, go)] ++ pl := hp
      rcases List.mem_append.mp hp with hp | hp
      · exact (hslG b hb).2.2.2.2.2 p hp
      · exact fun z => (hslG b hb).2.2.2.2.1 (by rw [← z]; exact hpl p hp)
variable {p pos : Pos}
theorem FinX.mv {sl : List Addr} {Q : VK} : ∀ r s1 s2, FinX X pins σ sl Q r s1 → GMoved sl s1 s2 → FinX X pins σ sl Q r s2 := fun r s1 s2 h m s' m' => h s' (m.trans m')
theorem ready {cp : α → List (Addr × Obj) → Prop} {sl : List Addr} {ps : List (Addr × Obj)} {a gi : Addr} {c : Code} {Q : VK} {s5 s6 : Shared} (hr : Room (k + 3) X.A) (hfr : X.A.frames = some X.stack) (hg : s5.heap.IsGen a gi) (hl : s5.heap.NoLimit) (hb : AllBare s5.gens) (hgs : s5.gens[gi]? = some (.fresh c))
    (hG : ∀ (A : Around) (cp : α → List (Addr × Obj) → Prop) (sl : List Addr) (ps : List (Addr × Obj)) (s2 : Shared), Room (k + 1) A → A.frames = some X.stack → (∀ acc ps, cp acc ps → ps.map (·.1) = sl) → (∀ b ∈ sl, s5.heap.objs.size ≤ b) → cp acc0 ps →
      (∀ p ∈ ps, s2.heap.get? p.1 = some p.2 ∧ ∀ v, p.2.data ≠ .cell v) → s2.os = s5.os → AllBare s2.gens → (∀ b o, s5.heap.get? b = some o → s2.heap.get? b = some o) →
      ∃ n, Seg (model X.prog X.w) A (GRx fin cp (FinX X pins σ sl Q)) (GYx step cp sl a gi (FinX X pins σ sl Q)) n s2 c ((model X.prog X.w).den c) [] s2)
    (hcp : ∀ acc ps, cp acc ps → ps.map (·.1) = sl) (hsl : ∀ b ∈ sl, s5.heap.objs.size ≤ b) (hc0 : cp acc0 ps) (hps : ∀ p ∈ ps, s6.heap.get? p.1 = some p.2 ∧ ∀ v, p.2.data ≠ .cell v) (os6 : s6.os = s5.os) (g6 : s6.gens = s5.gens) (k6 : ∀ b o, s5.heap.get? b = some o → s6.heap.get? b = some o) :
    ∃ n, GReady step fin cp sl a gi (FinX X pins σ sl Q) X.prog X.w X.A.in1.in1 n s6 := by
  obtain ⟨n, hn⟩ := hG X.A.in1.in1 cp sl ps (s6.setGen gi .running) hr.in1.in1 hfr hcp hsl hc0 hps os6 (allBare_setGen (by rw [g6]; exact hb) rfl) k6
  exact ⟨n, hg.keeps k6, hl.keeps k6, .fresh c, by rw [g6]; exact hgs, rfl, hn⟩
end
section
variable {X : Cx} {scope : Scope} {tg iter elt : Expr} {ifs : List Expr} {gpos p pos : Pos} {own : List (Str × Nat)} {wi : TI} {g : TG} {tt : TT} {te : TE} {k : Nat}
structure GxOk (X : Cx) (T : List (Addr × Str)) (scope : Scope) (own : List (Str × Nat)) (k : Nat) (c P : Addr) : Prop where
  nd : X.N.Nodup
  tb : LamX.TabB X.base X.mg c P
  cd : X.env.code = .ref c
  mem : (P, X.env.qual ++ "<genexpr>") ∈ T
  uniq : ∀ p ∈ T, p.1 = P → p.2 = X.env.qual ++ "<genexpr>"
  co : scope.isCoroutine = false
  dot : scope.names.lookup (".0" : Str) = some NameKind.local
  ok : BlkOk X.N X.env.scope scope own
  nc : ∀ y ∈ scope.names, y.2 ≠ .cell
  room : Room (k + 3) X.A
section
variable {T : List (Addr × Str)} {c P : Addr} (O : GxOk X T scope own k c P) (hi : PI X tg iter wi)
    (hg : ∀ (A : Around) (s : Shared) (H : Hp) (code : Value) (fp : List Addr) (pn : List (Addr × Obj)), Room k (A.deeper (gEnv X scope s.heap.objs.size code)) → PG (gcx X A s H scope code fp pn) tg g)
    (ht : ∀ (A : Around) (s : Shared) (H : Hp) (code : Value) (fp : List Addr) (pn : List (Addr × Obj)), Room k (A.deeper (gEnv X scope s.heap.objs.size code)) → PTs (gcx X A s H scope code fp pn) ifs tt)
    (he : ∀ (A : Around) (s : Shared) (H : Hp) (code : Value) (fp : List Addr) (pn : List (Addr × Obj)), Room k (A.deeper (gEnv X scope s.heap.objs.size code)) → PE (gcx X A s H scope code fp pn) elt te)
    (hs : ∀ x, genFold iter X.env x = pure x)
    (hst : starEach [.GeneratorExp elt [⟨tg, iter, ifs, 0⟩] scope gpos] X.env = (false, eval (.GeneratorExp elt [⟨tg, iter, ifs, 0⟩] scope gpos) X.env) :: starEach [] X.env)
include O hi hg ht he hs hst
theorem pe_gany (hgl : Gl X "any") (hm : X.mg "any" = none) : PE X (.Call (.Name "any" p) [.GeneratorExp elt [⟨tg, iter, ifs, 0⟩] scope gpos] [] pos) (tGx T anyS (fun _ => .bl false) () wi g tt te (own.map (·.2))) := by
  refine ⟨fun pins s σ H Q I h => ?_⟩
  refine wpAny_Call_Name_kw (ld_blt I hgl hm boot_any ?_)
  refine PyProof.Rows.callWith_builtin1 ?_ hst (by rfl)
  rw [hst]
  show wpAny _ _ (spliced ((false, eval (.GeneratorExp elt [⟨tg, iter, ifs, 0⟩] scope gpos) X.env) :: backTo pos (starEach [] X.env))) _ _ s
  refine Calls.spliced_cons (thn (gen_made (k := k) O.nd O.tb O.cd O.mem O.uniq O.co O.dot O.ok O.nc (O.room.mono (by omega)) hi hg ht he hs I h) fun v s5 hv => ?_)
  refine Calls.spliced_nil ?_
  obtain ⟨a, gi, cd, rfl, ha, hig, hl, hb, hgs, hG⟩ := hv
  refine call_function_tree F.kind_any F.plain_any F.entry_any (F.args_any1 _) ?_
  unfold Builtin.«any»
  refine wpAny_bind (m := oneArg "any" _) (wpAny_pure ?_)
  refine wpAny_bind (wpAny_pyIter_gen hig ?_)
  obtain ⟨n, hn⟩ := ready (cp := cpU) (sl := []) (ps := []) (s6 := s5) O.room I.ok.frames hig hl hb hgs hG (fun acc ps e => by rw [e]; rfl) (fun b hb => by cases hb) rfl (fun p hp => by cases hp) rfl rfl (fun _ _ e => e)
  refine wpAny_pure ⟨plainId_quiet F.plain_any_loop _, loop_any O.room.hd O.room.depth FinX.mv (fun r u s hbr hF rv => ?_) n s5 hn⟩
  obtain ⟨H', I', q⟩ := hF s ⟨rfl, hbr, fun _ _ _ e => e⟩
  exact ⟨r, H', I', rv, q⟩
theorem pe_gall (hgl : Gl X "all") (hm : X.mg "all" = none) (hbt : bootBuiltins "all" = some (.builtin "all")) : PE X (.Call (.Name "all" p) [.GeneratorExp elt [⟨tg, iter, ifs, 0⟩] scope gpos] [] pos) (tGx T allS (fun _ => .bl true) () wi g tt te (own.map (·.2))) := by
  refine ⟨fun pins s σ H Q I h => ?_⟩
  refine wpAny_Call_Name_kw (ld_blt I hgl hm hbt ?_)
  refine PyProof.Rows.callWith_builtin1 ?_ hst (by rfl)
  rw [hst]
  show wpAny _ _ (spliced ((false, eval (.GeneratorExp elt [⟨tg, iter, ifs, 0⟩] scope gpos) X.env) :: backTo pos (starEach [] X.env))) _ _ s
  refine Calls.spliced_cons (thn (gen_made (k := k) O.nd O.tb O.cd O.mem O.uniq O.co O.dot O.ok O.nc (O.room.mono (by omega)) hi hg ht he hs I h) fun v s5 hv => ?_)
  refine Calls.spliced_nil ?_
  obtain ⟨a, gi, cd, rfl, ha, hig, hl, hb, hgs, hG⟩ := hv
  refine call_function_tree F.kind_all F.plain_all F.entry_all (F.args_all1 _) ?_
  unfold Builtin.«all»
  refine wpAny_bind (m := oneArg "all" _) (wpAny_pure ?_)
  refine wpAny_bind (wpAny_pyIter_gen hig ?_)
  obtain ⟨n, hn⟩ := ready (cp := cpU) (sl := []) (ps := []) (s6 := s5) O.room I.ok.frames hig hl hb hgs hG (fun acc ps e => by rw [e]; rfl) (fun b hb => by cases hb) rfl (fun p hp => by cases hp) rfl rfl (fun _ _ e => e)
  refine wpAny_pure ⟨plainId_quiet F.plain_all_loop _, loop_all O.room.hd O.room.depth FinX.mv (fun r u s hbr hF rv => ?_) n s5 hn⟩
  obtain ⟨H', I', q⟩ := hF s ⟨rfl, hbr, fun _ _ _ e => e⟩
  exact ⟨r, H', I', rv, q⟩
theorem pe_gsum (hgl : Gl X "sum") (hm : X.mg "sum" = none) (hbt : bootBuiltins "sum" = some (.builtin "sum")) : PE X (.Call (.Name "sum" p) [.GeneratorExp elt [⟨tg, iter, ifs, 0⟩] scope gpos] [] pos) (tGx T sumS (fun a => .int a) 0 wi g tt te (own.map (·.2))) := by
  refine ⟨fun pins s σ H Q I h => ?_⟩
  refine wpAny_Call_Name_kw (ld_blt I hgl hm hbt ?_)
  refine PyProof.Rows.callWith_builtin1 ?_ hst (by rfl)
  rw [hst]
  show wpAny _ _ (spliced ((false, eval (.GeneratorExp elt [⟨tg, iter, ifs, 0⟩] scope gpos) X.env) :: backTo pos (starEach [] X.env))) _ _ s
  refine Calls.spliced_cons (thn (gen_made (k := k) O.nd O.tb O.cd O.mem O.uniq O.co O.dot O.ok O.nc (O.room.mono (by omega)) hi hg ht he hs I h) fun v s5 hv => ?_)
  refine Calls.spliced_nil ?_
  obtain ⟨a, gi, cd, rfl, ha, hig, hl, hb, hgs, hG⟩ := hv
  refine call_function_tree F.kind_sum F.plain_sum F.entry_sum (F.args_sum1 _) ?_
  unfold Builtin.«sum»
  simp only [List.length_cons, List.length_nil]
  rw [if_neg (by decide)]
  refine wpAny_bind (wpAny_of_eq (show Builtin.Builtins.bindParams "sum" ["start"] 0 { } = pure [none] from rfl) ?_)
  refine wpAny_bind (wpAny_pyIter_gen hig ?_)
  refine wpAny_bind (wpAny_mkInt ?_)
  refine wpAny_bind (wpAny_pure ?_)
  simp only [List.forIn_cons, List.forIn_nil]
  refine wpAny_bind (wpAny_bind (wpAny_bind (wpAny_isInstance (T := "int") (b := false) (typeIs_int _ _ _) PySem.sub_int_str ?_)))
  simp only [Bool.false_eq_true, if_false]
  refine wpAny_pure (wpAny_bind (wpAny_bind (wpAny_isInstance (T := "int") (b := false) (typeIs_int _ _ _) sub_int_bytes ?_)))
  simp only [Bool.false_eq_true, if_false]
  refine wpAny_pure (wpAny_bind (wpAny_bind (wpAny_isInstance (T := "int") (b := false) (typeIs_int _ _ _) sub_int_bytearray ?_)))
  simp only [Bool.false_eq_true, if_false]
  refine wpAny_pure (wpAny_pure ?_)
  refine wpAny_bind (wpAny_newObj_type ?_)
  have hS : (s5.heap.push (lstObj #[.int 0 s5.toks] 0)).get? s5.heap.objs.size = some (lstObj #[.int 0 s5.toks] 0) := Heap.get?_push_size _ rfl
  have hcl : cStatics < s5.heap.objs.size := let ⟨_, hn, _⟩ := hl; hn.lt
  obtain ⟨n, hn⟩ := ready (cp := cpI s5.heap.objs.size) (sl := [s5.heap.objs.size]) (ps := [(s5.heap.objs.size, lstObj #[.int 0 s5.toks] 0)]) (s6 := { s5 with heap := s5.heap.push (lstObj #[.int 0 s5.toks] 0), toks := s5.toks + 1 }) O.room I.ok.frames hig hl hb hgs hG
    (fun acc ps ⟨t, c, e⟩ => by rw [e]; rfl) (fun b hb => by rw [List.mem_singleton.mp hb]; exact Nat.le_refl _) ⟨_, _, rfl⟩ (fun p hp => by rw [List.mem_singleton.mp hp]; exact ⟨hS, fun v q => by cases q⟩) rfl rfl (fun _ _ e => Heap.get?_push_of_some _ e)
  refine wpAny_pure ⟨plainId_quiet F.plain_sum_loop _, loop_sum (S := s5.heap.objs.size) O.room.hd O.room.depth (Nat.ne_of_gt ha) (Nat.ne_of_gt hcl) FinX.mv (fun r u s hbr hF rv => ?_) n _ 0 0 s5.toks 0 (.inl rfl) hS hn⟩
  obtain ⟨H', I', q⟩ := hF s ⟨rfl, hbr, fun _ _ _ e => e⟩
  exact ⟨r, H', I', rv, q⟩
end
end
end CardH
end
section
set_option maxHeartbeats 2000000
namespace CardH
open PySem PySem.Spec PyProof.Rows L2 LamX GenW

/-! ### any, all, sum of a generator expression, denoted -/
def gxL {α : Type} (st : α → Vl → Option (α ⊕ Vl)) (fn : α → Vl) (g : DG) (dt : DT) (de : DE) (env : LEnv) : α → List Vl → Gst → CardH.R Vl
  | a, [], G => .ok (fn a) G
  | a, x :: xs, G => match g env x with
    | none => .bad
    | some e' => (dt e' G).bind fun b G1 => if b = true then (de e' G1).bind fun y G2 => match st a y with
      | none => .bad
      | some (.inl a') => gxL st fn g dt de env a' xs G2
      | some (.inr r) => .ok r G2
    else gxL st fn g dt de env a xs G1
/-- no exception is awaited within -/
def noX {α : Type} (r : CardH.R α) : CardH.R α := (fun _ : Nat => match r with
  | .ok a G => .ok a G
  | _ => .bad) hgt3
def dGx {α : Type} (st : α → Vl → Option (α ⊕ Vl)) (fn : α → Vl) (a0 : α) (vs : List Nat) (di : DI) (g : DG) (dt : DT) (de : DE) : DE := fun env G => (di env G).bind fun xs G1 => noX (gxL st fn g dt de (wipeE env vs) a0 xs G1)
def anyV : Unit → Vl → Option (Unit ⊕ Vl) := fun _ y => match y with
  | .bl true => some (.inr (.bl true))
  | .bl false => some (.inl ())
  | _ => none
def allV : Unit → Vl → Option (Unit ⊕ Vl) := fun _ y => match y with
  | .bl true => some (.inl ())
  | .bl false => some (.inr (.bl false))
  | _ => none
def sumV : Int → Vl → Option (Int ⊕ Vl) := fun a y => match y with
  | .int i => some (.inl (a + i))
  | _ => none
abbrev dAnyG := dGx anyV (fun _ => .bl false) ()
abbrev dAllG := dGx allV (fun _ => .bl true) ()
abbrev dSumG := dGx sumV (fun a => .int a) 0
/-- the deep step, the step -/
structure StepR {α : Type} (st : α → Vl → Option (α ⊕ Vl)) (step : α → V → Option (α ⊕ V)) (fn : α → Vl) (fin : α → V) : Prop where
  go : ∀ (K : PySem.W.Frag) (W : Wd) a y v a', Rep K W y v → st a y = some (.inl a') → step a v = some (.inl a')
  out : ∀ (K : PySem.W.Frag) (W : Wd) a y v r, Rep K W y v → st a y = some (.inr r) → ∃ rv, step a v = some (.inr rv) ∧ ∀ W', Rep K W' r rv
  fin : ∀ (K : PySem.W.Frag) (W : Wd) a, Rep K W (fn a) (fin a)
theorem step_any : StepR anyV anyS (fun _ => .bl false) (fun _ => .bl false) where
  go := fun K W a y v a' r e => by
    cases y with
    | bl b => obtain rfl : v = .bl b := r; cases b <;> cases e; rfl
    | _ => cases e
  out := fun K W a y v r h e => by
    cases y with
    | bl b => obtain rfl : v = .bl b := h; cases b <;> cases e; exact ⟨_, rfl, fun _ => rfl⟩
    | _ => cases e
  fin := fun _ _ _ => rfl
theorem step_all : StepR allV allS (fun _ => .bl true) (fun _ => .bl true) where
  go := fun K W a y v a' r e => by
    cases y with
    | bl b => obtain rfl : v = .bl b := r; cases b <;> cases e; rfl
    | _ => cases e
  out := fun K W a y v r h e => by
    cases y with
    | bl b => obtain rfl : v = .bl b := h; cases b <;> cases e; exact ⟨_, rfl, fun _ => rfl⟩
    | _ => cases e
  fin := fun _ _ _ => rfl
theorem step_sum : StepR sumV sumS (fun a => .int a) (fun a => .int a) where
  go := fun K W a y v a' r e => by
    cases y with
    | int i => obtain rfl : v = .int i := r; cases e; rfl
    | _ => cases e
  out := fun K W a y v r h e => by
    cases y with
    | int i => cases e
    | _ => cases e
  fin := fun _ _ _ => rfl
section
variable {kt : Kt} {B : Bs} {X : Cx} {pi pt pe : Bool} {elt tg iter : Expr} {ifs : List Expr} {scope : Scope} {own : List (Str × Nat)} {pos gpos p : Pos} {sl : List Nat} {di : DI} {g : DG} {dt : DT} {de : DE} {k : Nat} {α : Type} {st : α → Vl → Option (α ⊕ Vl)} {step : α → V → Option (α ⊕ V)} {fn : α → Vl} {fin : α → V} {a0 : α}
theorem gx_imp {Tl : List (Addr × Str)} (hT : kt.T = tabsOf Tl) (S : StepR st step fn fin) (hi : SI kt B X pi tg iter di) (hsl : sl.all (fun i => (own.map (·.2)).contains i) = true) {Wish : WX} (tk : Takes X Wish) :
    ∃ wi, PI X tg iter wi ∧ ∀ σ H Q, rdX kt B (pi && (pt && pe)) Wish (fun W x v => Pk kt.K W .s x v) (dGx st fn a0 (own.map (·.2)) di g dt de) σ H Q →
      tGx Tl step fin a0 wi (rdG kt B sl g) (rdX kt B pt (fun _ _ _ _ => False) ZB dt) (rdX kt B pe (fun _ _ _ _ => False) (fun W x v => Pk kt.K W .s x v) de) (own.map (·.2)) σ H Q := by
  obtain ⟨wi, hwi, him⟩ := hi Wish tk
  have hsl : ∀ i, i ∈ sl → i ∈ own.map (·.2) := fun i h => by simpa using List.all_eq_true.mp hsl i h
  refine ⟨wi, hwi, fun σ H Q ⟨W, env, G, e, A, h⟩ => ?_⟩
  subst e
  refine him _ _ _ ⟨W, env, G, rfl, A, ?_⟩
  unfold dGx at h
  cases q : di env G with
  | bad => rw [q] at h; exact h.elim
  | exn c G' => rw [q] at h; exact fun W' od e A z => h W' od e.andL A z
  | ok xs G1 =>
    rw [q, R.bind_ok] at h
    intro W1 e1 A1 J Gd Y wk yl
    generalize hvs : own.map (·.2) = vs at h hsl ⊢
    refine ⟨tabs_to (by rw [← hT]; exact A1.ok.tabs), fun H3 gr => ?_⟩
    obtain ⟨eg, Ag⟩ := A1.grown hT gr
    cases qc : gxL st fn g dt de (wipeE env vs) a0 xs G1 with
    | bad => rw [qc] at h; exact h.elim
    | exn c G' => rw [qc] at h; exact h.elim
    | ok res Gf =>
      rw [qc] at h
      have h : ∀ W' v, Ext (pi && (pt && pe)) W W' → RAll kt B W' σ env Gf → Pk kt.K W' .s res v → Q v W'.H := h
      have fin' : ∀ {Wi : Wd} {rv : V}, Ext (pt && pe) W1 Wi → RAll kt B Wi (wipe σ vs) (wipeE env vs) Gf → Rep kt.K Wi res rv → Q rv Wi.H := fun {Wi rv} ei Ai r =>
        h Wi rv (e1.trans ei) ⟨Ai.ok, A1.re.ext ei, Ai.si, Ai.nl⟩ (.inl r)
      refine ⟨fun i m acc H => ∃ Wi Gi, Wi.H = H ∧ Ext (pt && pe) W1 Wi ∧ RAll kt B Wi (wipe σ vs) (wipeE env vs) Gi ∧ i ≤ xs.length ∧ m = xs.length - i ∧ gxL st fn g dt de (wipeE env vs) acc (xs.drop i) Gi = .ok res Gf,
        ⟨xs.length, ⟨W1.Γ, W1.ρ, H3⟩, G1, rfl, eg.weak, Ag.wipe vs, Nat.zero_le _, rfl, qc⟩, ?_⟩
      rintro i m acc H ⟨Wi, Gi, rfl, ei, Ai, hil, rfl, ci⟩
      by_cases hi' : i = xs.length
      · subst hi'
        rw [List.drop_length] at ci
        cases ci
        exact .inl ⟨wk.stops _ (yl.gd Wi ei.toS), fin' ei Ai (S.fin _ _ _)⟩
      · have hlt : i < xs.length := by omega
        refine .inr ⟨wk.goes _ _ hlt (yl.gd Wi ei.toS), fun acc' H' => ∃ Wi Gi, Wi.H = H' ∧ Ext (pt && pe) W1 Wi ∧ RAll kt B Wi (wipe σ vs) (wipeE env vs) Gi ∧ gxL st fn g dt de (wipeE env vs) acc' (xs.drop (i + 1)) Gi = .ok res Gf, ?_, ?_⟩
        · rintro acc' H' ⟨Wj, Gj, e, ej, Aj, cj⟩
          exact ⟨xs.length - (i + 1), by omega, Wj, Gj, e, ej, Aj, hlt, rfl, cj⟩
        · intro x H' y
          obtain ⟨y0, hy0, hrep⟩ := yl.yl i Wi.H x H' hlt (wk.yields _ _ _ _ hlt (yl.gd Wi ei.toS) y) Wi ei.toS rfl
          have hW2 : ∃ W2, W2.H = H' ∧ Ext true Wi W2 ∧ RAll kt B W2 (wipe σ vs) (wipeE env vs) Gi ∧ Rep kt.K W2 y0 x := by
            rcases hrep with ⟨e, r⟩ | ⟨T, us, e, hT, e2, r⟩
            · exact ⟨Wi, e.symm, Ext.refl, Ai, r⟩
            · exact ⟨Wi.alloc T (.tup us) .no, by rw [e2]; rfl, Ext.alloc hT, Ai.alloc hT rfl rfl, r⟩
          obtain ⟨W2, rfl, e2, A2, rep⟩ := hW2
          have e02 : Ext (pt && pe) W1 W2 := (ei.trans e2).mono fun z => by rw [z]; rfl
          have hdrop : xs.drop i = y0 :: xs.drop (i + 1) := by
            obtain ⟨h1, h2⟩ := List.getElem?_eq_some_iff.mp hy0
            rw [List.drop_eq_getElem_cons h1, h2]
          rw [hdrop] at ci
          unfold gxL at ci
          cases eg : g (wipeE env vs) y0 with
          | none => rw [eg] at ci; cases ci
          | some e' =>
            rw [eg] at ci
            dsimp only at ci
            refine ⟨W2, wipeE env vs, Gi, y0, e', rfl, A2, rep, eg, fun σ' hset hw => ⟨by rw [hw vs hsl, wipe_wipe], W2, e', Gi, rfl, hset W2 Gi Ext.refl A2, ?_⟩⟩
            cases qt : dt e' Gi with
            | bad => rw [qt] at ci; cases ci
            | exn c G' => rw [qt] at ci; cases ci
            | ok b G3 =>
              rw [qt, R.bind_ok] at ci
              intro W3 b' e3 A3 z3
              obtain rfl : b = b' := z3
              cases b with
              | false =>
                rw [if_neg Bool.false_ne_true] at ci ⊢
                exact ⟨W3, G3, rfl, (e02.trans e3).mono fun z => by rw [z]; exact (Bool.and_eq_true _ _ ▸ z).1, ⟨A3.ok, A2.re.ext e3, A3.si, A3.nl⟩, ci⟩
              | true =>
                rw [if_pos rfl] at ci ⊢
                refine ⟨W3, e', G3, rfl, A3, ?_⟩
                cases qe : de e' G3 with
                | bad => rw [qe] at ci; cases ci
                | exn c G' => rw [qe] at ci; cases ci
                | ok yv G4 =>
                  rw [qe, R.bind_ok] at ci
                  intro W4 v e4 A4 z4
                  have e34 := e3.trans e4
                  have e04 : Ext (pt && pe) W1 W4 := (e02.trans e34).mono fun z => by rw [z]; rfl
                  have A4' : RAll kt B W4 (wipe σ vs) (wipeE env vs) G4 := ⟨A4.ok, A2.re.ext e34, A4.si, A4.nl⟩
                  cases es : st acc yv with
                  | none => rw [es] at ci; cases ci
                  | some o =>
                    rw [es] at ci
                    cases o with
                    | inl a' =>
                      rw [S.go _ _ _ _ _ _ z4.strict es]
                      exact ⟨W4, G4, rfl, e04, A4', ci⟩
                    | inr r =>
                      obtain ⟨rv, er, hr⟩ := S.out _ _ _ _ _ _ z4.strict es
                      rw [er]
                      cases ci
                      exact fin' e04 A4' (hr W4)
theorem sx_gany {Tl : List (Addr × Str)} {c P : Addr} (hT : kt.T = tabsOf Tl) (O : GxOk X Tl scope own k c P) (hi : SI kt B X pi tg iter di)
    (hg : ∀ (A : Around) (s : Shared) (H : Hp) (code : Value) (fp : List Addr) (pn : List (Addr × Obj)), Room k (A.deeper (gEnv X scope s.heap.objs.size code)) → SG kt B (gcx X A s H scope code fp pn) sl tg g)
    (ht : ∀ (A : Around) (s : Shared) (H : Hp) (code : Value) (fp : List Addr) (pn : List (Addr × Obj)), Room k (A.deeper (gEnv X scope s.heap.objs.size code)) → STs kt B (gcx X A s H scope code fp pn) pt ifs dt)
    (he : ∀ (A : Around) (s : Shared) (H : Hp) (code : Value) (fp : List Addr) (pn : List (Addr × Obj)), Room k (A.deeper (gEnv X scope s.heap.objs.size code)) → SX kt B (gcx X A s H scope code fp pn) pe .s elt de)
    (hm : X.mg "any" = none) (hgl : Gl X "any" := by rfl) (hsl : sl.all (fun i => (own.map (·.2)).contains i) = true := by rfl) (hs : ∀ x, genFold iter X.env x = pure x := by intro _; rfl)
    (hst : starEach [.GeneratorExp elt [⟨tg, iter, ifs, 0⟩] scope gpos] X.env = (false, eval (.GeneratorExp elt [⟨tg, iter, ifs, 0⟩] scope gpos) X.env) :: starEach [] X.env := by rfl) :
    SX kt B X (pi && (pt && pe)) .s (.Call (.Name "any" p) [.GeneratorExp elt [⟨tg, iter, ifs, 0⟩] scope gpos] [] pos) (dAnyG (own.map (·.2)) di g dt de) := fun Wish tk => by
  obtain ⟨wi, hwi, him⟩ := gx_imp (a0 := ()) (pt := pt) (pe := pe) (g := g) (dt := dt) (de := de) hT step_any hi hsl tk
  exact (pe_gany O hwi hg (fun A s H code fp pn r => ht A s H code fp pn r _ takes_gx) (fun A s H code fp pn r => he A s H code fp pn r _ takes_gx) hs hst hgl hm).imp him
theorem sx_gall {Tl : List (Addr × Str)} {c P : Addr} (hT : kt.T = tabsOf Tl) (O : GxOk X Tl scope own k c P) (hi : SI kt B X pi tg iter di)
    (hg : ∀ (A : Around) (s : Shared) (H : Hp) (code : Value) (fp : List Addr) (pn : List (Addr × Obj)), Room k (A.deeper (gEnv X scope s.heap.objs.size code)) → SG kt B (gcx X A s H scope code fp pn) sl tg g)
    (ht : ∀ (A : Around) (s : Shared) (H : Hp) (code : Value) (fp : List Addr) (pn : List (Addr × Obj)), Room k (A.deeper (gEnv X scope s.heap.objs.size code)) → STs kt B (gcx X A s H scope code fp pn) pt ifs dt)
    (he : ∀ (A : Around) (s : Shared) (H : Hp) (code : Value) (fp : List Addr) (pn : List (Addr × Obj)), Room k (A.deeper (gEnv X scope s.heap.objs.size code)) → SX kt B (gcx X A s H scope code fp pn) pe .s elt de)
    (hm : X.mg "all" = none) (hgl : Gl X "all" := by rfl) (hbt : bootBuiltins "all" = some (.builtin "all") := by kernel_rfl) (hsl : sl.all (fun i => (own.map (·.2)).contains i) = true := by rfl) (hs : ∀ x, genFold iter X.env x = pure x := by intro _; rfl)
    (hst : starEach [.GeneratorExp elt [⟨tg, iter, ifs, 0⟩] scope gpos] X.env = (false, eval (.GeneratorExp elt [⟨tg, iter, ifs, 0⟩] scope gpos) X.env) :: starEach [] X.env := by rfl) :
    SX kt B X (pi && (pt && pe)) .s (.Call (.Name "all" p) [.GeneratorExp elt [⟨tg, iter, ifs, 0⟩] scope gpos] [] pos) (dAllG (own.map (·.2)) di g dt de) := fun Wish tk => by
  obtain ⟨wi, hwi, him⟩ := gx_imp (a0 := ()) (pt := pt) (pe := pe) (g := g) (dt := dt) (de := de) hT step_all hi hsl tk
  exact (pe_gall O hwi hg (fun A s H code fp pn r => ht A s H code fp pn r _ takes_gx) (fun A s H code fp pn r => he A s H code fp pn r _ takes_gx) hs hst hgl hm hbt).imp him
theorem sx_gsum {Tl : List (Addr × Str)} {c P : Addr} (hT : kt.T = tabsOf Tl) (O : GxOk X Tl scope own k c P) (hi : SI kt B X pi tg iter di)
    (hg : ∀ (A : Around) (s : Shared) (H : Hp) (code : Value) (fp : List Addr) (pn : List (Addr × Obj)), Room k (A.deeper (gEnv X scope s.heap.objs.size code)) → SG kt B (gcx X A s H scope code fp pn) sl tg g)
    (ht : ∀ (A : Around) (s : Shared) (H : Hp) (code : Value) (fp : List Addr) (pn : List (Addr × Obj)), Room k (A.deeper (gEnv X scope s.heap.objs.size code)) → STs kt B (gcx X A s H scope code fp pn) pt ifs dt)
    (he : ∀ (A : Around) (s : Shared) (H : Hp) (code : Value) (fp : List Addr) (pn : List (Addr × Obj)), Room k (A.deeper (gEnv X scope s.heap.objs.size code)) → SX kt B (gcx X A s H scope code fp pn) pe .s elt de)
    (hm : X.mg "sum" = none) (hgl : Gl X "sum" := by rfl) (hbt : bootBuiltins "sum" = some (.builtin "sum") := by kernel_rfl) (hsl : sl.all (fun i => (own.map (·.2)).contains i) = true := by rfl) (hs : ∀ x, genFold iter X.env x = pure x := by intro _; rfl)
    (hst : starEach [.GeneratorExp elt [⟨tg, iter, ifs, 0⟩] scope gpos] X.env = (false, eval (.GeneratorExp elt [⟨tg, iter, ifs, 0⟩] scope gpos) X.env) :: starEach [] X.env := by rfl) :
    SX kt B X (pi && (pt && pe)) .s (.Call (.Name "sum" p) [.GeneratorExp elt [⟨tg, iter, ifs, 0⟩] scope gpos] [] pos) (dSumG (own.map (·.2)) di g dt de) := fun Wish tk => by
  obtain ⟨wi, hwi, him⟩ := gx_imp (a0 := (0 : Int)) (pt := pt) (pe := pe) (g := g) (dt := dt) (de := de) hT step_sum hi hsl tk
  exact (pe_gsum O hwi hg (fun A s H code fp pn r => ht A s H code fp pn r _ takes_gx) (fun A s H code fp pn r => he A s H code fp pn r _ takes_gx) hs hst hgl hm hbt).imp him
/-- what a text tells of a generator expression's place -/
theorem gxOk {Tl : List (Addr × Str)} {c P : Addr} (hN : X.N.Nodup) (tb : LamX.TabB X.base X.mg c P) (cd : X.env.code = .ref c) (mem : (P, X.env.qual ++ "<genexpr>") ∈ Tl) (uniq : ∀ p ∈ Tl, p.1 = P → p.2 = X.env.qual ++ "<genexpr>") (room : Room (k + 3) X.A)
    (h : (blkC X.N X.env.scope scope own && (!scope.isCoroutine && (decide (scope.names.lookup (".0" : Str) = some NameKind.local) && scope.names.all fun y => decide (y.2 ≠ .cell)))) = true) : GxOk X Tl scope own k c P := by
  simp only [Bool.and_eq_true, decide_eq_true_eq, Bool.not_eq_true', List.all_eq_true] at h
  exact ⟨hN, tb, cd, mem, uniq, h.2.1, h.2.2.1, blkOk_by h.1, h.2.2.2, room⟩
end
end CardH
end
section
set_option maxHeartbeats 2000000
namespace CardH
open PySem PySem.Spec PyProof.Rows L2 LamX

/-! ### the law's own def -/
section
variable {P : Program} {w : World} {base : Heap} {kt : Kt}
theorem fnOk_ofD {x qual : Str} {params : Arguments} {body : List Stmt} {scope : Scope} {pp : Str × Option Str} {N ps : List Str} {k : Nat} {fd : FuncData} (F : FunD kt.K x qual params body scope [] [] (He.fAd kt.K pp) fd) (S : FnScope N ps scope) (d : DS)
    (hbody : ∀ (A : Around) (outer : List Env) (s : Shared) (H : Hp) (E : XK) (W0 : Wd), Room k (A.deeper (envOfC qual scope s.heap.objs.size (He.fAd kt.K pp) (.ref (He.codeOf kt.K pp)))) →
      SSs kt ⟨W0, false, false⟩ (cxOf (L2.CX P w) P w kt.K kt.mg base N qual scope (He.fAd kt.K pp) (.ref (He.codeOf kt.K pp)) A outer s H E) body d) : FnOk P w kt.K kt.mg base (L2.CX P w) (k + 1) (He.fAd kt.K pp) fd ps (spD kt ps.length (runF N.length d)) := by
  obtain ⟨⟨oc, od, dV, kV, doc, pm, an, cdv, ct, osl, rfl, lk, hcd, hdv, hkw⟩, kp⟩ := F
  have hdV : dV = .none := by
    rcases hdv with ⟨_, e⟩ | ⟨e, _⟩
    · exact e
    · exact absurd rfl e
  subst hdV
  obtain ⟨c, rfl⟩ := He.codeIn_ref hcd
  have ec : He.codeOf kt.K pp = c := He.codeOf_eq lk rfl
  rw [ec] at hbody
  refine fn_of lk hcd S (fun vs H Q E ⟨W, G, xs, e, ok, nl, r, hl, q⟩ => by rw [← r.length]; exact hl) fun A outer s H vs Q E hr ⟨W, G, xs, e, ok, nl, r, hl, q⟩ => ?_
  subst e
  have tk : Takes (cxOf (L2.CX P w) P w kt.K kt.mg base N qual scope (He.fAd kt.K pp) (.ref c) A outer s W.H E) (fun cls d _ H => E cls d H) := takes_of rfl rfl rfl rfl
  refine ⟨_, hbody A outer s W.H E W hr _ tk, W, startE N.length xs, G, rfl, ⟨ok, start_re r _, Ext.refl, fun _ => nl⟩, ?_⟩
  unfold runF at q
  cases e : d (startE N.length xs) G with
  | bad => rw [e] at q; exact q
  | nx e' G' => rw [e] at q; exact fun W' σ _ A => q W' .non A.si A.ok (A.nl rfl) rfl
  | bk e' G' => rw [e] at q; exact q.elim
  | ct e' G' => rw [e] at q; exact q.elim
  | rt v G' => rw [e] at q; exact fun W' w _ A r => q W' w A.si A.ok (A.nl rfl) r
  | ex c e' G' => rw [e] at q; exact fun W' σ od _ A z => q W' od A.si A.ok (A.nl rfl) z
/-- at the law's call: a script, the tables empty -/
theorem sp_law {H : Hp} {a : Addr} {ns : List Int} {Φ : FT} {Tl : List (Addr × Str)} (hT : kt.T = tabsOf Tl) (h0 : ∀ p ∈ Tl, H p.1 = some (.tbl #[])) (hS : SqL kt.K H a (ns.map V.int)) (h : ∃ G', Φ [.scr ns] [] = .ok (.bl true) G') :
    spD kt 1 Φ [.ref a] H (fun v _ => v = .bl true) fun _ _ _ => False := by
  obtain ⟨G', h⟩ := h
  refine ⟨⟨fun _ => .no, [], H⟩, [], [.scr ns], rfl, ⟨fun a h => absurd rfl h, ⟨rfl, fun i o hi => by simp at hi⟩, ?_, fun _ _ _ => trivial⟩, fun a o u _ => ⟨rfl, fun _ z => nomatch z⟩, ⟨.ref a, [], rfl, ⟨a, rfl, ?_⟩, rfl⟩, rfl, ?_⟩
  · rw [hT]
    intro q hq
    obtain ⟨p, hp, rfl⟩ := List.mem_map.mp hq
    exact NdefX.TabN.nil (h0 p hp)
  · rcases hS with z | ⟨o, its, n, h1, h2, h3, h4, h5, h6⟩
    · exact .inl ⟨rfl, z⟩
    · exact .inr ⟨o, its, n, h1, h2, h3, h4, h5, h6⟩
  · rw [h]
    exact fun W' v _ _ _ r => r
end
end CardH
end
section
set_option maxHeartbeats 2000000
namespace CardH
open PySem PySem.Spec PyProof.Rows L2

/-! ### what the operators are on plain values -/
theorem vEq_int (i j : Int) : vEq (.int i) (.int j) = some (.bl (decide (i = j))) := by
  first | rfl | simp [vEq, py, PyData.eqv] | (unfold vEq; rfl)
theorem vNe_int (i j : Int) : vNe (.int i) (.int j) = some (.bl (!decide (i = j))) := by
  first | rfl | simp [vNe, py, PyData.eqv] | (unfold vNe; rfl)
theorem vEq_str (a b : Str) : vEq (.str a) (.str b) = some (.bl (decide (a = b))) := by
  have e : (a == b) = decide (a = b) := by rw [Bool.eq_iff_iff]; simp
  simp [vEq, py, PyData.eqv, e]
theorem vNe_str (a b : Str) : vNe (.str a) (.str b) = some (.bl (!decide (a = b))) := by
  have e : (a == b) = decide (a = b) := by rw [Bool.eq_iff_iff]; simp
  simp [vNe, py, PyData.eqv, e]
theorem vFdiv_int (i j : Int) (h0 : 0 < j) (h1 : j < 4611686018427387904) : vFdiv (.int i) (.int j) = some (.int (i / j)) := by
  have h2 := sm62_of (i := j) (by omega)
  unfold vFdiv vInt
  simp [h0, h2]
theorem vMod_int (i j : Int) (h0 : 0 < j) : vMod (.int i) (.int j) = some (.int (i % j)) := by
  unfold vMod vInt
  simp [h0]
theorem vSub_int (i j : Int) : vSub (.int i) (.int j) = some (.int (i - j)) := rfl
theorem vAdd_int (i j : Int) : vAdd (.int i) (.int j) = some (.int (i + j)) := rfl
mutual
theorem eqv_refl : ∀ (x : Vl) (n : Nat) (d : PyData), py x n = some d → PyData.eqv d d = true
  | .non, _, _, e => by cases e; rfl
  | .bl b, _, _, e => by cases e; simp [PyData.eqv]
  | .int i, _, _, e => by cases e; simp [PyData.eqv]
  | .str x, _, _, e => by cases e; simp [PyData.eqv]
  | .tup xs, n + 1, d, e => by
    obtain ⟨ds, e1, rfl⟩ := Option.map_eq_some_iff.mp e
    simpa [PyData.eqv] using eqv_reflL xs n ds e1
  | .stp xs, n + 1, d, e => by
    obtain ⟨ds, e1, rfl⟩ := Option.map_eq_some_iff.mp e
    simpa [PyData.eqv] using eqv_reflL xs n ds e1
  | .ktp xs, n + 1, d, e => by
    obtain ⟨ds, e1, rfl⟩ := Option.map_eq_some_iff.mp e
    simpa [PyData.eqv] using eqv_reflL xs n ds e1
  | .lst xs, n + 1, d, e => by
    obtain ⟨ds, e1, rfl⟩ := Option.map_eq_some_iff.mp e
    simpa [PyData.eqv] using eqv_reflL xs n ds e1
  | .tup _, 0, _, e => by cases e
  | .ktp _, 0, _, e => by cases e
  | .stp _, 0, _, e => by cases e
  | .lst _, 0, _, e => by cases e
  | .dct _ _, _, _, e => by cases e
  | .ref _, _, _, e => by cases e
  | .scr _, _, _, e => by cases e
theorem eqv_reflL : ∀ (xs : List Vl) (n : Nat) (ds : List PyData), pys xs n = some ds → PyData.eqvAll ds ds = true
  | [], _, _, e => by cases e; rfl
  | x :: xs, n, ds, e => by
    unfold pys at e
    split at e
    · rename_i d ds' e1 e2
      cases e
      simp [PyData.eqvAll, eqv_refl x n d e1, eqv_reflL xs n ds' e2]
    · cases e
end
/-- a value is what it is -/
theorem vNe_self {x : Vl} {d : PyData} (h : py x 60 = some d) : vNe x x = some (.bl false) := by
  unfold vNe
  simp only [h, eqv_refl x 60 d h, Bool.not_true]
theorem vEq_self {x : Vl} {d : PyData} (h : py x 60 = some d) : vEq x x = some (.bl true) := by
  unfold vEq
  simp only [h, eqv_refl x 60 d h]
end CardH
end
section
set_option maxHeartbeats 2000000
namespace CardH
open PySem PySem.Spec PyProof.Rows L2

/-! ### running denotations by rewriting -/
def Wp (r : SR) (P : SR → Prop) : Prop := P r
def sqK (b : DS) (P : SR → Prop) : SR → Prop
  | .nx e G => Wp (b e G) P
  | r => P r
def nxP (I : LEnv → Gst → Prop) : SR → Prop
  | .nx e G => I e G
  | .ct e G => I e G
  | _ => False
def rtP (v : Vl) (Q : Gst → Prop) : SR → Prop
  | .rt w G => w = v ∧ Q G
  | _ => False
theorem wp_seq {a b : DS} {e : LEnv} {G : Gst} {P : SR → Prop} (h : Wp (a e G) (sqK b P)) : Wp (dSeq a b e G) P := by
  unfold dSeq
  cases q : a e G <;> rw [q] at h <;> exact h
theorem wp_seqE {a b : DS} {e : LEnv} {G : Gst} {P : SR → Prop} : Wp (dSeq a b e G) P = Wp (a e G) (sqK b P) := by
  unfold dSeq
  cases a e G <;> rfl
theorem wp_nxK {b : DS} {e : LEnv} {G : Gst} {P : SR → Prop} : Wp (.nx e G) (sqK b P) = Wp (b e G) P := rfl
theorem wp_rtK {b : DS} {v : Vl} {G : Gst} {P : SR → Prop} : Wp (.rt v G) (sqK b P) = Wp (.rt v G) P := rfl
theorem wp_ctK {b : DS} {e : LEnv} {G : Gst} {P : SR → Prop} : Wp (.ct e G) (sqK b P) = Wp (.ct e G) P := rfl
theorem wp_bkK {b : DS} {e : LEnv} {G : Gst} {P : SR → Prop} : Wp (.bk e G) (sqK b P) = Wp (.bk e G) P := rfl
theorem wp_exK {b : DS} {c : Ex} {e : LEnv} {G : Gst} {P : SR → Prop} : Wp (.ex c e G) (sqK b P) = Wp (.ex c e G) P := rfl
theorem wp_nxP {I : LEnv → Gst → Prop} {e : LEnv} {G : Gst} : Wp (.nx e G) (nxP I) = I e G := rfl
theorem wp_rtP {v w : Vl} {G : Gst} {Q : Gst → Prop} : Wp (.rt w G) (rtP v Q) = (w = v ∧ Q G) := rfl
theorem wp_ite {c : Prop} [Decidable c] {a b : SR} {P : SR → Prop} : Wp (if c then a else b) P = ((c → Wp a P) ∧ (¬ c → Wp b P)) := by
  by_cases h : c <;> simp [h]
theorem runF_rt {n : Nat} {D : DS} {xs : List Vl} {G : Gst} {v : Vl} {Q : Gst → Prop} (h : Wp (D (startE n xs) G) (rtP v Q)) : ∃ G', runF n D xs G = .ok v G' ∧ Q G' := by
  unfold runF
  cases q : D (startE n xs) G <;> rw [q] at h
  case rt w G' => obtain ⟨rfl, h⟩ := h; exact ⟨G', rfl, h⟩
  all_goals exact h.elim
theorem wp_forL {g : DG} {db : DS} {P : SR → Prop} (I : LEnv → Gst → Prop) : ∀ {xs : List Vl} {e : LEnv} {G : Gst}, I e G →
    (∀ x ∈ xs, ∀ e G, I e G → ∃ e1, g e x = some e1 ∧ Wp (db e1 G) (nxP I)) → (∀ e G, I e G → Wp (.nx e G) P) → Wp (forL g db xs e G) P
  | [], e, G, h0, _, k => k e G h0
  | x :: xs, e, G, h0, st, k => by
    obtain ⟨e1, h1, h2⟩ := st x (by simp) e G h0
    unfold forL
    rw [h1]
    dsimp only
    cases q : db e1 G <;> rw [q] at h2
    case nx e2 G2 => exact wp_forL I h2 (fun y hy => st y (by simp [hy])) k
    case ct e2 G2 => exact wp_forL I h2 (fun y hy => st y (by simp [hy])) k
    all_goals exact h2.elim
theorem wp_forI {i : Nat} {db : DS} {P : SR → Prop} (I : LEnv → Gst → Prop) {xs : List Vl} {e : LEnv} {G : Gst} (h0 : I e G)
    (st : ∀ x ∈ xs, ∀ e G, I e G → Wp (db (e.set i (some (.val x))) G) (nxP I)) (k : ∀ e G, I e G → Wp (.nx e G) P) : Wp (forL (gSet i) db xs e G) P :=
  wp_forL I h0 (fun x hx e G h => ⟨_, rfl, st x hx e G h⟩) k
/-- a for over one thing -/
theorem wp_for1 {i : Nat} {db : DS} {P : SR → Prop} {x : Vl} {e : LEnv} {G : Gst} (h : Wp (db (e.set i (some (.val x))) G) (nxP fun e G => Wp (.nx e G) P)) : Wp (forL (gSet i) db [x] e G) P :=
  by
    unfold forL gSet
    dsimp only
    cases q : db (e.set i (some (.val x))) G <;> rw [q] at h
    case nx e2 G2 => exact h
    case ct e2 G2 => exact h
    all_goals exact h.elim
def seqR (r : SR) (b : DS) : SR := (fun _ : Nat => match r with
  | .nx e G => b e G
  | r => r) hgt3
theorem dSeq_ev {a b : DS} {e : LEnv} {G : Gst} : dSeq a b e G = seqR (a e G) b := by
  unfold dSeq
  cases a e G <;> rfl
theorem seqR_nx {b : DS} {e : LEnv} {G : Gst} : seqR (.nx e G) b = b e G := rfl
theorem seqR_rt {b : DS} {v : Vl} {G : Gst} : seqR (.rt v G) b = .rt v G := rfl
theorem seqR_ct {b : DS} {e : LEnv} {G : Gst} : seqR (.ct e G) b = .ct e G := rfl
theorem seqR_bk {b : DS} {e : LEnv} {G : Gst} : seqR (.bk e G) b = .bk e G := rfl
theorem seqR_ex {b : DS} {c : Ex} {e : LEnv} {G : Gst} : seqR (.ex c e G) b = .ex c e G := rfl
theorem seqR_ite {c : Prop} [Decidable c] {a b : SR} {d : DS} : seqR (if c then a else b) d = if c then seqR a d else seqR b d := by
  by_cases h : c <;> simp [h]
def resR (r : SR) : R Vl := (fun _ : Nat => match r with
  | .nx _ G => .ok .non G
  | .rt v G => .ok v G
  | .ex c _ G => .exn c G
  | _ => .bad) hgt3
theorem runF_ev {n : Nat} {D : DS} {xs : List Vl} {G : Gst} : runF n D xs G = resR (D (startE n xs) G) := by
  unfold runF
  cases D (startE n xs) G <;> rfl
theorem resR_nx {e : LEnv} {G : Gst} : resR (.nx e G) = .ok .non G := rfl
theorem resR_rt {v : Vl} {G : Gst} : resR (.rt v G) = .ok v G := rfl
theorem resR_ex {c : Ex} {e : LEnv} {G : Gst} : resR (.ex c e G) = .exn c G := rfl
theorem resR_ite {c : Prop} [Decidable c] {a b : SR} : resR (if c then a else b) = if c then resR a else resR b := by
  by_cases h : c <;> simp [h]
section
variable {α β : Type}
theorem bind_ite {c : Prop} [Decidable c] {a b : R α} {f : α → Gst → R β} : R.bind (if c then a else b) f = if c then a.bind f else b.bind f := by
  by_cases h : c <;> simp [h]
theorem sb_ite {c : Prop} [Decidable c] {e : LEnv} {a b : R α} {f : α → Gst → SR} : sb e (if c then a else b) f = if c then sb e a f else sb e b f := by
  by_cases h : c <;> simp [h]
theorem opt_some {x : α} {G : Gst} : opt (some x) G = .ok x G := rfl
theorem opt_ite {c : Prop} [Decidable c] {a b : Option α} {G : Gst} : opt (if c then a else b) G = if c then opt a G else opt b G := by
  by_cases h : c <;> simp [h]
end
def tbK (v : Vl) (G : Gst) : R Bool := (fun _ : Nat => match v with
  | .bl b => .ok b G
  | _ => .bad) hgt3
theorem dTB_ev {d : DE} {e : LEnv} {G : Gst} : dTB d e G = (d e G).bind tbK := rfl
theorem tbK_bl {b : Bool} {G : Gst} : tbK (.bl b) G = .ok b G := rfl
theorem dIfS_ev {t : DT} {a b : DS} {e : LEnv} {G : Gst} : dIfS t a b e G = sb e (t e G) fun c G1 => if c = true then a e G1 else b e G1 := by
  unfold dIfS
  congr
  funext c G1
  cases c <;> rfl
def toldR (tf : Ex → Option Str) (r : R Vl) : R Vl := (fun _ : Nat => match r with
  | .ok v G1 => .ok v G1
  | .exn c G1 => match tf c with
    | some r => .ok (.str r) G1
    | none => .bad
  | .bad => .bad) hgt3
theorem dTold_ev {tf : Ex → Option Str} {d : DE} {e : LEnv} {G : Gst} : dTold tf d e G = toldR tf (d e G) := by
  unfold dTold toldR
  cases d e G <;> rfl
theorem toldR_ok {tf : Ex → Option Str} {v : Vl} {G : Gst} : toldR tf (.ok v G) = .ok v G := rfl
theorem toldR_exn {tf : Ex → Option Str} {c : Ex} {G : Gst} {r : Str} (h : tf c = some r) : toldR tf (.exn c G) = .ok (.str r) G := by
  unfold toldR
  dsimp only
  rw [h]
theorem toldR_ite {tf : Ex → Option Str} {c : Prop} [Decidable c] {a b : R Vl} : toldR tf (if c then a else b) = if c then toldR tf a else toldR tf b := by
  by_cases h : c <;> simp [h]
def chK (o' : Vl → Vl → Option Vl) (y : Vl) (dc : DE) (e : LEnv) : Vl → Gst → R Vl
  | .bl true, G2 => (dc e G2).bind fun z G3 => opt (o' y z) G3
  | .bl false, G2 => .ok (.bl false) G2
  | _, _ => .bad
theorem dChain_ev {o o' : Vl → Vl → Option Vl} {da db dc : DE} {e : LEnv} {G : Gst} : dChain o o' da db dc e G = (da e G).bind fun x G1 => (db e G1).bind fun y G2 => (opt (o x y) G2).bind (chK o' y dc e) := by
  unfold dChain
  congr
  funext x G1
  congr
  funext y G2
  cases o x y with
  | none => rfl
  | some z =>
    cases z with
    | bl b => cases b <;> rfl
    | _ => rfl
theorem chK_bl {o' : Vl → Vl → Option Vl} {y : Vl} {dc : DE} {e : LEnv} {b : Bool} {G : Gst} : chK o' y dc e (.bl b) G = if b = true then (dc e G).bind fun z G3 => opt (o' y z) G3 else .ok (.bl false) G := by
  cases b <;> rfl
/-- objects -/
def Gst.obj (G : Gst) (i : Nat) : Option Ob := G[i]?
def methK (C n : Nat) (Φ : FT) (ds : DA) (e : LEnv) (x : Vl) (G1 : Gst) : Option Ob → R Vl
  | some (.ins C' _) => if C' = C then (ds e G1).bind fun xs G2 => if xs.length + 1 = n then Φ (x :: xs) G2 else .bad else .bad
  | _ => .bad
theorem dMeth_ev {C n i : Nat} {Φ : FT} {d : DE} {ds : DA} {e : LEnv} {G G1 : Gst} {fs : List (Nat × Fv)} (h : d e G = .ok (.ref i) G1) (hG : G1[i]? = some (.ins C fs)) :
    dMeth C n Φ d ds e G = (ds e G1).bind fun xs G2 => if xs.length + 1 = n then Φ (.ref i :: xs) G2 else .bad := by
  unfold dMeth
  simp only [h, R.bind_ok, hG, if_true]
theorem dFld_ev {f i C : Nat} {d : DE} {e : LEnv} {G G1 : Gst} {fs : List (Nat × Fv)} {x : Vl} (h : d e G = .ok (.ref i) G1) (hG : G1[i]? = some (.ins C fs)) (hf : fs.lookup f = some (.val x)) : dFld f d e G = .ok x G1 := by
  unfold dFld
  simp only [h, R.bind_ok, hG, hf]

/-! ### slices, subscripts -/
section
variable {α : Type}
theorem cutL_to (xs : List α) (n : Nat) : cutL xs none (some (n : Int)) = xs.take n := by
  unfold cutL
  rw [HT.sIx_nat, HT.sIx_none]
  simp only [List.drop_zero, Nat.sub_zero]
  rcases Nat.le_total n xs.length with h | h
  · rw [Nat.min_eq_left h]
  · rw [Nat.min_eq_right h, List.take_of_length_le (Nat.le_refl _), List.take_of_length_le h]
theorem cutL_from (xs : List α) (n : Nat) : cutL xs (some (n : Int)) none = xs.drop n := by
  unfold cutL
  rw [HT.sIx_nat, HT.sIx_none]
  rcases Nat.le_total n xs.length with h | h
  · rw [Nat.min_eq_left h, List.take_of_length_le (by simp)]
  · rw [Nat.min_eq_right h, List.drop_of_length_le h]
    simp
theorem cutL_mid (xs : List α) (a b : Nat) : cutL xs (some (a : Int)) (some (b : Int)) = (xs.drop a).take (b - a) := by
  unfold cutL
  rw [HT.sIx_nat, HT.sIx_nat]
  rcases Nat.le_total a xs.length with h | h
  · rw [Nat.min_eq_left h]
    rcases Nat.le_total b xs.length with g | g
    · rw [Nat.min_eq_left g]
    · rw [Nat.min_eq_right g, List.take_of_length_le (by simp), List.take_of_length_le (by simp; omega)]
  · rw [Nat.min_eq_right h, List.drop_of_length_le h, List.drop_of_length_le (Nat.le_refl _)]
    simp
theorem cutL_toI (xs : List α) {i : Int} (h : 0 ≤ i) : cutL xs none (some i) = xs.take i.toNat := by
  obtain ⟨n, rfl⟩ : ∃ n : Nat, i = n := ⟨i.toNat, by omega⟩
  rw [cutL_to]; rfl
theorem cutL_fromI (xs : List α) {i : Int} (h : 0 ≤ i) : cutL xs (some i) none = xs.drop i.toNat := by
  obtain ⟨n, rfl⟩ : ∃ n : Nat, i = n := ⟨i.toNat, by omega⟩
  rw [cutL_from]; rfl
theorem cutL_midI (xs : List α) {i j : Int} (h : 0 ≤ i) (h' : 0 ≤ j) : cutL xs (some i) (some j) = (xs.drop i.toNat).take (j.toNat - i.toNat) := by
  obtain ⟨n, rfl⟩ : ∃ n : Nat, i = n := ⟨i.toNat, by omega⟩
  obtain ⟨m, rfl⟩ : ∃ m : Nat, j = m := ⟨j.toNat, by omega⟩
  rw [cutL_mid]; rfl
theorem cutL_all (xs : List α) : cutL xs none none = xs := by
  unfold cutL
  rw [HT.sIx_none, HT.sIx_none]
  simp
end
theorem isWhole_ite {xs : List Vl} {lo hi : Option Int} : (if isWhole xs.length lo hi = true then Vl.tup xs else Vl.tup (cutL xs lo hi)) = .tup (cutL xs lo hi) := by
  by_cases h : isWhole xs.length lo hi = true
  · rw [if_pos h]
    unfold isWhole at h
    simp only [Bool.and_eq_true, beq_iff_eq] at h
    unfold cutL
    rw [h.1, h.2]
    simp
  · rw [if_neg h]
theorem vSl_tup {G : Gst} {xs : List Vl} {lo hi : Option Int} : vSl G (.tup xs) lo hi = some (.tup (cutL xs lo hi)) := by
  exact congrArg some isWhole_ite
theorem vSl_lst {G : Gst} {xs : List Vl} {lo hi : Option Int} : vSl G (.lst xs) lo hi = some (.lst (cutL xs lo hi)) := rfl
section
variable {α : Type}
theorem atI_nat (xs : List α) (k : Nat) : atI xs (k : Int) = xs[k]? := by
  unfold atI ixN
  rw [if_pos (by omega)]
  by_cases h : k < xs.length
  · rw [if_pos (by omega)]; simp
  · rw [if_neg (by omega)]
    simp only [Option.bind_none]
    rw [List.getElem?_eq_none (by omega)]
theorem atI_neg (xs : List α) (k : Nat) (h : 0 < k) : atI xs (-(k : Int)) = if k ≤ xs.length then xs[xs.length - k]? else none := by
  unfold atI ixN
  rw [if_neg (by omega)]
  by_cases g : k ≤ xs.length
  · rw [if_pos (by omega), if_pos g]
    simp only [Option.bind_some]
    congr 1
    omega
  · rw [if_neg (by omega), if_neg g]; rfl
end
theorem atI_int {α : Type} (xs : List α) {i : Int} (h : 0 ≤ i) : atI xs i = xs[i.toNat]? := by
  obtain ⟨n, rfl⟩ : ∃ n : Nat, i = n := ⟨i.toNat, by omega⟩
  rw [atI_nat]; rfl
theorem vIx_lst {G : Gst} {xs : List Vl} {k : Int} : vIx G (.lst xs) (.int k) = atI xs k := rfl
theorem vIx_tup {G : Gst} {xs : List Vl} {k : Int} : vIx G (.tup xs) (.int k) = atI xs k := rfl

/-! ### equality -/
mutual
/-- plain data, not deep -/
def gd : Nat → Vl → Bool
  | _, .non => true
  | _, .bl _ => true
  | _, .int _ => true
  | _, .str _ => true
  | n + 1, .tup xs => gds n xs
  | n + 1, .ktp xs => gds n xs
  | n + 1, .stp xs => gds n xs
  | n + 1, .lst xs => gds n xs
  | _, _ => false
def gds : Nat → List Vl → Bool
  | _, [] => true
  | n, x :: xs => gd n x && gds n xs
end
mutual
theorem gd_py : ∀ (x : Vl) (n : Nat), gd n x = true → ∃ d, py x n = some d
  | .non, _, _ => ⟨_, rfl⟩
  | .bl _, _, _ => ⟨_, rfl⟩
  | .int _, _, _ => ⟨_, rfl⟩
  | .str _, _, _ => ⟨_, rfl⟩
  | .tup xs, n + 1, h => by obtain ⟨d, e⟩ := gds_pys xs n h; exact ⟨_, congrArg (Option.map _) e⟩
  | .ktp xs, n + 1, h => by obtain ⟨d, e⟩ := gds_pys xs n h; exact ⟨_, congrArg (Option.map _) e⟩
  | .stp xs, n + 1, h => by obtain ⟨d, e⟩ := gds_pys xs n h; exact ⟨_, congrArg (Option.map _) e⟩
  | .lst xs, n + 1, h => by obtain ⟨d, e⟩ := gds_pys xs n h; exact ⟨_, congrArg (Option.map _) e⟩
  | .tup _, 0, h => by cases h
  | .ktp _, 0, h => by cases h
  | .stp _, 0, h => by cases h
  | .lst _, 0, h => by cases h
  | .dct _ _, 0, h => by cases h
  | .dct _ _, _ + 1, h => by cases h
  | .ref _, 0, h => by cases h
  | .ref _, _ + 1, h => by cases h
  | .scr _, 0, h => by cases h
  | .scr _, _ + 1, h => by cases h
theorem gds_pys : ∀ (xs : List Vl) (n : Nat), gds n xs = true → ∃ ds, pys xs n = some ds
  | [], _, _ => ⟨_, rfl⟩
  | x :: xs, n, h => by
    unfold gds at h
    simp only [Bool.and_eq_true] at h
    obtain ⟨d, e⟩ := gd_py x n h.1
    obtain ⟨ds, e'⟩ := gds_pys xs n h.2
    exact ⟨d :: ds, by unfold pys; rw [e, e']⟩
end
theorem gds_append : ∀ (xs ys : List Vl) (n : Nat), gds n (xs ++ ys) = (gds n xs && gds n ys)
  | [], _, _ => rfl
  | x :: xs, ys, n => by
    show (gd n x && gds n (xs ++ ys)) = (gd n x && gds n xs && gds n ys)
    rw [gds_append xs ys n, Bool.and_assoc]
theorem gds_all : ∀ (xs : List Vl) (n : Nat), gds n xs = xs.all (gd n)
  | [], _ => rfl
  | x :: xs, n => by
    unfold gds
    rw [gds_all xs n]; rfl
theorem gds_map {α : Type} (f : α → Vl) (l : List α) (n : Nat) (h : ∀ a, gd n (f a) = true) : gds n (l.map f) = true := by
  rw [gds_all]
  simp [h]
theorem gd_str {n : Nat} {s : Str} : gd n (.str s) = true := by cases n <;> rfl
theorem gd_int {n : Nat} {i : Int} : gd n (.int i) = true := by cases n <;> rfl
theorem gd_bl {n : Nat} {b : Bool} : gd n (.bl b) = true := by cases n <;> rfl
theorem gd_non {n : Nat} : gd n .non = true := by cases n <;> rfl
theorem gd_tup {n : Nat} {xs : List Vl} : gd (n + 1) (.tup xs) = gds n xs := rfl
theorem gd_lst {n : Nat} {xs : List Vl} : gd (n + 1) (.lst xs) = gds n xs := rfl
theorem gds_nil {n : Nat} : gds n [] = true := by unfold gds; rfl
theorem gds_cons {n : Nat} {x : Vl} {xs : List Vl} : gds n (x :: xs) = (gd n x && gds n xs) := by conv => lhs; unfold gds
theorem gds_str {n : Nat} {l : List Str} : gds n (l.map .str) = true := gds_map _ _ _ fun _ => gd_str
theorem gds_int {n : Nat} {l : List Int} : gds n (l.map .int) = true := gds_map _ _ _ fun _ => gd_int
theorem vNe_same {x : Vl} (h : gd 60 x = true) : vNe x x = some (.bl false) := by
  obtain ⟨d, e⟩ := gd_py x 60 h
  exact vNe_self e
theorem vEq_same {x : Vl} (h : gd 60 x = true) : vEq x x = some (.bl true) := by
  obtain ⟨d, e⟩ := gd_py x 60 h
  exact vEq_self e
theorem vNe_of {x y : Vl} (e : x = y) (h : gd 60 x = true) : vNe x y = some (.bl false) := by
  subst e; exact vNe_same h
theorem vEq_of {x y : Vl} (e : x = y) (h : gd 60 x = true) : vEq x y = some (.bl true) := by
  subst e; exact vEq_same h
theorem pys_nil_eqv : ∀ {xs : List Vl} {n : Nat} {ds : List PyData}, pys xs n = some ds → ds.length = xs.length
  | [], _, _, h => by cases h; rfl
  | x :: xs, n, ds, h => by
    unfold pys at h
    split at h
    · cases h
      rename_i e
      simp [pys_nil_eqv e]
    · cases h
theorem eqvAll_nil (ds : List PyData) : PyData.eqvAll ds [] = ds.isEmpty := by
  cases ds <;> rfl
theorem isEmpty_of_len {α β : Type} {a : List α} {b : List β} (h : a.length = b.length) : a.isEmpty = b.isEmpty := by
  cases a <;> cases b <;> simp at h <;> rfl
theorem vEq_lst0 {xs : List Vl} (h : gds 59 xs = true) : vEq (.lst xs) (.lst []) = some (.bl xs.isEmpty) := by
  obtain ⟨ds, e⟩ := gds_pys xs 59 h
  have e1 : py (.lst xs) 60 = some (.list ds) := congrArg (Option.map _) e
  unfold vEq
  rw [e1]
  show some (Vl.bl (PyData.eqvAll ds [])) = _
  rw [eqvAll_nil, isEmpty_of_len (pys_nil_eqv e)]
theorem vNe_lst0 {xs : List Vl} (h : gds 59 xs = true) : vNe (.lst xs) (.lst []) = some (.bl (!xs.isEmpty)) := by
  obtain ⟨ds, e⟩ := gds_pys xs 59 h
  have e1 : py (.lst xs) 60 = some (.list ds) := congrArg (Option.map _) e
  unfold vNe
  rw [e1]
  show some (Vl.bl (!PyData.eqvAll ds [])) = _
  rw [eqvAll_nil, isEmpty_of_len (pys_nil_eqv e)]
theorem vNe_tup0 {xs : List Vl} (h : gds 59 xs = true) : vNe (.tup xs) (.tup []) = some (.bl (!xs.isEmpty)) := by
  obtain ⟨ds, e⟩ := gds_pys xs 59 h
  have e1 : py (.tup xs) 60 = some (.tuple ds) := congrArg (Option.map _) e
  unfold vNe
  rw [e1]
  show some (Vl.bl (!PyData.eqvAll ds [])) = _
  rw [eqvAll_nil, isEmpty_of_len (pys_nil_eqv e)]
theorem vEq_tup0 {xs : List Vl} (h : gds 59 xs = true) : vEq (.tup xs) (.tup []) = some (.bl xs.isEmpty) := by
  obtain ⟨ds, e⟩ := gds_pys xs 59 h
  have e1 : py (.tup xs) 60 = some (.tuple ds) := congrArg (Option.map _) e
  unfold vEq
  rw [e1]
  show some (Vl.bl (PyData.eqvAll ds [])) = _
  rw [eqvAll_nil, isEmpty_of_len (pys_nil_eqv e)]
theorem pys_strs : ∀ (l : List Str) (n : Nat), pys (l.map .str) n = some (l.map PyData.str)
  | [], _ => rfl
  | i :: l, n => by
    rw [List.map_cons]
    unfold pys
    rw [pys_strs l n]
    rfl
theorem pys_ints : ∀ (l : List Int) (n : Nat), pys (l.map .int) n = some (l.map PyData.int)
  | [], _ => rfl
  | i :: l, n => by
    rw [List.map_cons]
    unfold pys
    rw [pys_ints l n]
    rfl
theorem any_strs (l : List Str) (c : Str) : ((l.map PyData.str).any fun z => PyData.eqv z (.str c)) = l.contains c := by
  induction l with
  | nil => rfl
  | cons a l ih =>
    rw [List.map_cons, List.any_cons, List.contains_cons, ih]
    have : PyData.eqv (.str a) (.str c) = (c == a) := by
      show (a == c) = (c == a)
      exact Bool.eq_iff_iff.mpr ⟨fun h => by rw [beq_iff_eq] at h ⊢; exact h.symm, fun h => by rw [beq_iff_eq] at h ⊢; exact h.symm⟩
    rw [this]
theorem vIn_strsL {l : List Str} {c : Str} : vInV (.str c) (.lst (l.map .str)) = some (.bl (l.contains c)) := by
  have h : vIn (.str c) (.lst (l.map .str)) = some ((l.map PyData.str).any fun z => PyData.eqv z (.str c)) := by
    unfold vIn
    dsimp only
    rw [pys_strs]; rfl
  unfold vInV
  rw [h, any_strs]; rfl
theorem vIn_strsT {l : List Str} {c : Str} : vInV (.str c) (.tup (l.map .str)) = some (.bl (l.contains c)) := by
  have h : vIn (.str c) (.tup (l.map .str)) = some ((l.map PyData.str).any fun z => PyData.eqv z (.str c)) := by
    unfold vIn
    dsimp only
    rw [pys_strs]; rfl
  unfold vInV
  rw [h, any_strs]; rfl
theorem vIsN_non : vIsN .non .non = some (.bl true) := rfl
theorem vLt_int {i j : Int} : vLt (.int i) (.int j) = some (.bl (decide (i < j))) := rfl
theorem vGt_int {i j : Int} : vGt (.int i) (.int j) = some (.bl (decide (j < i))) := rfl
theorem vLe_int {i j : Int} : vLe (.int i) (.int j) = some (.bl (decide (i ≤ j))) := rfl
theorem vGe_int {i j : Int} : vGe (.int i) (.int j) = some (.bl (decide (j ≤ i))) := rfl
theorem vAdd_lst {a b : List Vl} (h : a.length + b.length ≤ 16777216) : vAdd (.lst a) (.lst b) = some (.lst (a ++ b)) := if_pos h
theorem vAdd_tup {a b : List Vl} (h : a.length + b.length ≤ 16777216) : vAdd (.tup a) (.tup b) = some (.tup (a ++ b)) := if_pos h
theorem vMul_int {i j : Int} (h : mulOk i j = true) : vMul (.int i) (.int j) = some (.int (i * j)) := if_pos h
theorem mulOk_r {i j : Int} (h : -18446744073709551616 < j ∧ j < 18446744073709551616) : mulOk i j = true := by
  unfold mulOk
  rw [sm64_of h, Bool.or_true]
theorem mulOk_l {i j : Int} (h : -18446744073709551616 < i ∧ i < 18446744073709551616) : mulOk i j = true := by
  unfold mulOk
  rw [sm64_of h, Bool.true_or]
theorem vMul_l {i : Int} (h : -18446744073709551616 < i ∧ i < 18446744073709551616) (j : Int) : vMul (.int i) (.int j) = some (.int (i * j)) := vMul_int (mulOk_l h)
theorem vMul_r {j : Int} (h : -18446744073709551616 < j ∧ j < 18446744073709551616) (i : Int) : vMul (.int i) (.int j) = some (.int (i * j)) := vMul_int (mulOk_r h)
theorem set_get {G : Gst} {i : Nat} {o u : Ob} (h : G[i]? = some o) : (G.set i u)[i]? = some u := by
  simp [(List.getElem?_eq_some_iff.mp h).1]
theorem nodup_mid {α : Type} {a b : List α} {c : α} : (a ++ c :: b).Nodup ↔ c ∉ a ++ b ∧ (a ++ b).Nodup := by
  rw [List.Perm.nodup_iff List.perm_middle, List.nodup_cons]
theorem rng1_nat (n : Nat) (h : n < 4611686018427387904) : rng1 [.int (n : Nat)] = some (rgL 0 n) := if_pos (sm62_of (by omega))
theorem rng2_int (i j : Int) (h : -4611686018427387904 < i ∧ i < 4611686018427387904 ∧ -4611686018427387904 < j ∧ j < 4611686018427387904) : rng2 [.int i, .int j] = some (rgL i (j - i).toNat) := if_pos ⟨sm62_of ⟨h.1, h.2.1⟩, sm62_of h.2.2⟩
theorem rng3_down (i j : Int) (h : -4611686018427387904 < i ∧ i < 4611686018427387904 ∧ -4611686018427387904 < j ∧ j < 4611686018427387904) : rng3 [.int i, .int j, .int (-1)] = some (rgC i (-1) (i - j).toNat) := if_pos ⟨rfl, sm62_of ⟨h.1, h.2.1⟩, sm62_of h.2.2⟩
/-! ### comprehensions -/
section
variable {α : Type} {g : DG} {dt : DT} {de : DE} {e0 env : LEnv} {G G1 : Gst} {vs : List Nat} {di : DI}
theorem compL_tm (c : α → Vl) (p : α → Bool) (f : α → Vl) : ∀ (l : List α), (∀ a ∈ l, ∃ e, g e0 (c a) = some e ∧ dt e G = .ok (p a) G ∧ (p a = true → de e G = .ok (f a) G)) →
    compL g dt de e0 (l.map c) G = .ok ((l.filter p).map f) G
  | [], _ => rfl
  | a :: l, h => by
    obtain ⟨e, h1, h2, h3⟩ := h a (by simp)
    have ih := compL_tm c p f l fun b hb => h b (by simp [hb])
    rw [List.map_cons]
    unfold compL
    rw [h1]
    dsimp only
    rw [h2, R.bind_ok]
    cases hp : p a with
    | true =>
      dsimp only
      rw [h3 hp, R.bind_ok, ih, R.bind_ok, List.filter_cons_of_pos hp]; rfl
    | false =>
      dsimp only
      rw [ih, List.filter_cons_of_neg (by simp [hp])]
theorem dLc_tm (l : List α) (c : α → Vl) (p : α → Bool) (f : α → Vl) (hdi : di env G = .ok (l.map c) G1) (h : ∀ a ∈ l, ∃ e, g (wipeE env vs) (c a) = some e ∧ dt e G1 = .ok (p a) G1 ∧ (p a = true → de e G1 = .ok (f a) G1)) (hl : l.length ≤ 16777216) :
    dLc vs di g dt de env G = .ok (.lst ((l.filter p).map f)) G1 := by
  unfold dLc
  rw [hdi, R.bind_ok, compL_tm c p f l h]
  show (if _ then _ else _) = _
  have : (l.filter p).length ≤ l.length := List.length_filter_le p l
  rw [if_pos (by simp; omega)]
theorem dLc_map (l : List α) (c : α → Vl) (f : α → Vl) (hdi : di env G = .ok (l.map c) G1) (h : ∀ a ∈ l, ∃ e, g (wipeE env vs) (c a) = some e ∧ de e G1 = .ok (f a) G1) (hl : l.length ≤ 16777216) :
    dLc vs di g dYes de env G = .ok (.lst (l.map f)) G1 := by
  rw [dLc_tm l c (fun _ => true) f hdi (fun a ha => by obtain ⟨e, h1, h2⟩ := h a ha; exact ⟨e, h1, rfl, fun _ => h2⟩) hl, List.filter_eq_self.mpr fun _ _ => rfl]
/-- a comprehension that draws: what holds of the store is kept -/
theorem compL_dr (S : Gst → Prop) (m : Nat) (f : Nat → Vl) : ∀ (l : List Vl) (G : Gst), S G → (∀ a ∈ l, ∀ G, S G → ∃ e, g e0 a = some e ∧ ∃ k, k < m ∧ ∃ G', de e G = .ok (f k) G' ∧ S G') →
    ∃ (ks : List Nat) (G' : Gst), ks.length = l.length ∧ (∀ k ∈ ks, k < m) ∧ compL g dYes de e0 l G = .ok (ks.map f) G' ∧ S G'
  | [], G, hS, _ => ⟨[], G, rfl, by simp, rfl, hS⟩
  | a :: l, G, hS, h => by
    obtain ⟨e, h1, k, hk, G1, h2, hS1⟩ := h a (by simp) G hS
    obtain ⟨ks, G2, e1, e2, e3, e4⟩ := compL_dr S m f l G1 hS1 fun b hb => h b (by simp [hb])
    refine ⟨k :: ks, G2, by simp [e1], by simpa [hk] using e2, ?_, e4⟩
    unfold compL
    rw [h1]
    dsimp only
    rw [show dYes e G = .ok true G from rfl, R.bind_ok]
    dsimp only
    rw [h2, R.bind_ok, e3, R.bind_ok]; rfl
theorem dLc_dr (S : Gst → Prop) (m : Nat) (f : Nat → Vl) (l : List Vl) (hdi : di env G = .ok l G1) (hS : S G1) (h : ∀ a ∈ l, ∀ G, S G → ∃ e, g (wipeE env vs) a = some e ∧ ∃ k, k < m ∧ ∃ G', de e G = .ok (f k) G' ∧ S G') (hl : l.length ≤ 16777216) :
    ∃ (ks : List Nat) (G' : Gst), ks.length = l.length ∧ (∀ k ∈ ks, k < m) ∧ dLc vs di g dYes de env G = .ok (.lst (ks.map f)) G' ∧ S G' := by
  obtain ⟨ks, G2, e1, e2, e3, e4⟩ := compL_dr S m f l G1 hS h
  refine ⟨ks, G2, e1, e2, ?_, e4⟩
  unfold dLc
  rw [hdi, R.bind_ok, e3]
  show (if _ then _ else _) = _
  rw [if_pos (by rw [List.length_map]; omega)]
end
/-- a for that may return: what it does at the first that answers -/
theorem forL_first {α : Type} {i : Nat} {db : DS} (c : α → Vl) (p : α → Bool) (w : α → Vl) (S : LEnv → Prop) {G : Gst} (hS : ∀ e v, S e → S (e.set i (some (.val v)))) : ∀ (l : List α) (e : LEnv), S e →
    (∀ a ∈ l, ∀ e, S e → db (e.set i (some (.val (c a)))) G = if p a = true then .rt (w a) G else .nx (e.set i (some (.val (c a)))) G) →
    match l.find? p with
    | some a => forL (gSet i) db (l.map c) e G = .rt (w a) G
    | none => ∃ e', S e' ∧ forL (gSet i) db (l.map c) e G = .nx e' G
  | [], e, h, _ => ⟨e, h, rfl⟩
  | a :: l, e, h, st => by
    have h1 := st a (by simp) e h
    have ih := forL_first c p w S hS l (e.set i (some (.val (c a)))) (hS e _ h) fun b hb => st b (by simp [hb])
    rw [List.find?_cons]
    cases hp : p a with
    | true =>
      dsimp only
      rw [hp, if_pos rfl] at h1
      rw [List.map_cons]
      unfold forL gSet
      dsimp only
      rw [h1]
    | false =>
      dsimp only
      rw [hp, if_neg (by simp)] at h1
      have e2 : forL (gSet i) db ((a :: l).map c) e G = forL (gSet i) db (l.map c) (e.set i (some (.val (c a)))) G := by
        rw [List.map_cons]
        conv => lhs; unfold forL
        dsimp only [gSet]
        rw [h1]
      rw [e2]
      exact ih

/-! ### plain laws -/
theorem find_reverse {α : Type} (p : α → Bool) (l : List α) : l.reverse.find? p = (l.filter p).getLast? := by
  induction l with
  | nil => rfl
  | cons a l ih =>
    rw [List.reverse_cons, List.find?_append, ih]
    cases hp : p a with
    | true =>
      rw [List.filter_cons_of_pos hp]
      cases q : (l.filter p).getLast? with
      | none =>
        rw [List.getLast?_eq_none_iff] at q
        simp [q, hp]
      | some b =>
        simp only [Option.some_or]
        rw [List.getLast?_cons, q]; rfl
    | false =>
      rw [List.filter_cons_of_neg (by simp [hp])]
      simp [hp]
theorem foldl_max_incr : ∀ (l : List Int) (x : Int), (x :: l).Pairwise (· < ·) → l.foldl max x = (x :: l).getLast (by simp)
  | [], x, _ => rfl
  | y :: l, x, h => by
    have h1 : x < y := List.rel_of_pairwise_cons h (by simp)
    rw [List.foldl_cons, show max x y = y by omega, foldl_max_incr l y (List.Pairwise.of_cons h)]
    rfl
theorem maxI_incr {l : List Int} (h : l.Pairwise (· < ·)) : maxI l = l.getLast? := by
  cases l with
  | nil => rfl
  | cons x l =>
    show some (l.foldl max x) = _
    rw [foldl_max_incr l x h]
    rfl
theorem foldl_min_incr : ∀ (l : List Int) (x : Int), (x :: l).Pairwise (· < ·) → l.foldl min x = x
  | [], x, _ => rfl
  | y :: l, x, h => by
    have h1 : x < y := List.rel_of_pairwise_cons h (by simp)
    rw [List.foldl_cons, show min x y = x by omega]
    exact foldl_min_incr l x (by
      rw [List.pairwise_cons] at h ⊢
      exact ⟨fun z hz => h.1 z (by simp [hz]), (List.Pairwise.of_cons h.2)⟩)
theorem minI_incr {l : List Int} (h : l.Pairwise (· < ·)) : minI l = l.head? := by
  cases l with
  | nil => rfl
  | cons x l =>
    show some (l.foldl min x) = _
    rw [foldl_min_incr l x h]
    rfl
theorem filter_range_last {n k : Nat} {p : Nat → Bool} (hk : k < n) (pk : p k = true) (above : ∀ j, k < j → j < n → p j = false) : ∃ l, (List.range n).filter p = l ++ [k] := by
  obtain ⟨m, rfl⟩ : ∃ m, n = (k + 1) + m := ⟨n - (k + 1), by omega⟩
  rw [List.range_add, List.filter_append, List.range_succ, List.filter_append]
  refine ⟨(List.range k).filter p, ?_⟩
  have h1 : List.filter p (List.map (fun x => k + 1 + x) (List.range m)) = [] := by
    rw [List.filter_eq_nil_iff]
    intro a ha
    obtain ⟨b, hb, rfl⟩ := List.mem_map.mp ha
    rw [List.mem_range] at hb
    simp [above (k + 1 + b) (by omega) (by omega)]
  rw [h1]
  simp [pk]
theorem vEq_ints {a b : List Int} : vEq (.lst (a.map .int)) (.lst (b.map .int)) = some (.bl (decide (a = b))) := by
  have h : ∀ a b : List Int, PyData.eqvAll (a.map PyData.int) (b.map PyData.int) = decide (a = b) := by
    intro a
    induction a with
    | nil => intro b; cases b <;> rfl
    | cons x a ih =>
      intro b
      cases b with
      | nil => rfl
      | cons y b =>
        show (PyData.eqv (.int x) (.int y) && PyData.eqvAll (a.map PyData.int) (b.map PyData.int)) = _
        rw [ih]
        have : PyData.eqv (.int x) (.int y) = decide (x = y) := by
          rw [Bool.eq_iff_iff]; simp [PyData.eqv]
        rw [this]
        simp
  have e : ∀ a : List Int, py (.lst (a.map .int)) 60 = some (.list (a.map PyData.int)) := fun a => congrArg (Option.map _) (pys_ints a 59)
  unfold vEq
  rw [e, e]
  show some (Vl.bl (PyData.eqvAll _ _)) = _
  rw [h]
theorem intsOf_map (l : List Int) : intsOf (l.map .int) = some l := by
  induction l with
  | nil => rfl
  | cons a l ih => rw [List.map_cons]; unfold intsOf; rw [ih]; rfl
theorem iList1_lst {G : Gst} {l : List Int} : iList1 G [.lst (l.map .int)] = some l := intsOf_map l
theorem oMaxI_lst {G : Gst} {l : List Int} : oMaxI G [.lst (l.map .int)] = (maxI l).map .int := by
  unfold oMaxI
  rw [iList1_lst]; rfl
theorem oMinI_lst {G : Gst} {l : List Int} : oMinI G [.lst (l.map .int)] = (minI l).map .int := by
  unfold oMinI
  rw [iList1_lst]; rfl
theorem oSumI_lst {G : Gst} {l : List Int} : oSumI G [.lst (l.map .int)] = some (.int l.sum) := by
  unfold oSumI
  rw [iList1_lst]; rfl
theorem oSortI_lst {G : Gst} {l : List Int} : oSortI G [.lst (l.map .int)] = some (.lst ((sortI l).map .int)) := by
  unfold oSortI
  rw [iList1_lst]; rfl
section
variable {α : Type} {g : DG} {de : DE} {e0 env : LEnv} {G G1 : Gst} {vs : List Nat} {di : DI}
theorem gxL_any (c : α → Vl) (p : α → Bool) : ∀ (l : List α), (∀ a ∈ l, ∃ e, g e0 (c a) = some e ∧ de e G = .ok (.bl (p a)) G) →
    gxL anyV (fun _ => .bl false) g dYes de e0 () (l.map c) G = .ok (.bl (l.any p)) G
  | [], _ => rfl
  | a :: l, h => by
    obtain ⟨e, h1, h2⟩ := h a (by simp)
    have ih := gxL_any c p l fun b hb => h b (by simp [hb])
    rw [List.map_cons]
    unfold gxL
    rw [h1]
    dsimp only
    rw [show dYes e G = .ok true G from rfl, R.bind_ok, if_pos rfl, h2, R.bind_ok, List.any_cons]
    cases p a with
    | true => rfl
    | false => simpa [anyV] using ih
theorem dAnyG_tm (l : List α) (c : α → Vl) (p : α → Bool) (hdi : di env G = .ok (l.map c) G1) (h : ∀ a ∈ l, ∃ e, g (wipeE env vs) (c a) = some e ∧ de e G1 = .ok (.bl (p a)) G1) :
    dAnyG vs di g dYes de env G = .ok (.bl (l.any p)) G1 := by
  unfold dAnyG dGx
  rw [hdi, R.bind_ok, gxL_any c p l h]; rfl
theorem gxL_all (c : α → Vl) (p : α → Bool) : ∀ (l : List α), (∀ a ∈ l, ∃ e, g e0 (c a) = some e ∧ de e G = .ok (.bl (p a)) G) →
    gxL allV (fun _ => .bl true) g dYes de e0 () (l.map c) G = .ok (.bl (l.all p)) G
  | [], _ => rfl
  | a :: l, h => by
    obtain ⟨e, h1, h2⟩ := h a (by simp)
    have ih := gxL_all c p l fun b hb => h b (by simp [hb])
    rw [List.map_cons]
    unfold gxL
    rw [h1]
    dsimp only
    rw [show dYes e G = .ok true G from rfl, R.bind_ok, if_pos rfl, h2, R.bind_ok, List.all_cons]
    cases p a with
    | true => simpa [allV] using ih
    | false => rfl
theorem dAllG_tm (l : List α) (c : α → Vl) (p : α → Bool) (hdi : di env G = .ok (l.map c) G1) (h : ∀ a ∈ l, ∃ e, g (wipeE env vs) (c a) = some e ∧ de e G1 = .ok (.bl (p a)) G1) :
    dAllG vs di g dYes de env G = .ok (.bl (l.all p)) G1 := by
  unfold dAllG dGx
  rw [hdi, R.bind_ok, gxL_all c p l h]; rfl
theorem gxL_sum (c : α → Vl) (f : α → Int) : ∀ (l : List α) (s : Int), (∀ a ∈ l, ∃ e, g e0 (c a) = some e ∧ de e G = .ok (.int (f a)) G) →
    gxL sumV (fun a => .int a) g dYes de e0 s (l.map c) G = .ok (.int (s + (l.map f).sum)) G
  | [], s, _ => by simp [gxL]
  | a :: l, s, h => by
    obtain ⟨e, h1, h2⟩ := h a (by simp)
    have ih := gxL_sum c f l (s + f a) fun b hb => h b (by simp [hb])
    rw [List.map_cons]
    unfold gxL
    rw [h1]
    dsimp only
    rw [show dYes e G = .ok true G from rfl, R.bind_ok, if_pos rfl, h2, R.bind_ok]
    simpa [sumV, Int.add_assoc] using ih
theorem dSumG_tm (l : List α) (c : α → Vl) (f : α → Int) (hdi : di env G = .ok (l.map c) G1) (h : ∀ a ∈ l, ∃ e, g (wipeE env vs) (c a) = some e ∧ de e G1 = .ok (.int (f a)) G1) :
    dSumG vs di g dYes de env G = .ok (.int (l.map f).sum) G1 := by
  unfold dSumG dGx
  rw [hdi, R.bind_ok, gxL_sum c f l 0 h, Int.zero_add]; rfl
end
theorem find_down (p : Nat → Bool) (n : Nat) : (List.range n).find? (fun k => p (n - 1 - k)) = ((List.range n).filter p).getLast?.map fun j => n - 1 - j := by
  rw [← find_reverse]
  induction n with
  | zero => rfl
  | succ n ih =>
    rw [List.range_succ, List.reverse_append, List.reverse_cons, List.reverse_nil, List.nil_append, List.singleton_append, List.find?_cons]
    rw [← List.range_succ, List.range_succ_eq_map, List.find?_cons]
    simp only [Nat.add_sub_cancel, Nat.sub_zero]
    cases hp : p n with
    | true => simp
    | false =>
      dsimp only
      rw [List.find?_map]
      have : ((fun k => p (n - k)) ∘ Nat.succ) = fun k => p (n - 1 - k) := by
        funext k
        show p (n - (k + 1)) = _
        congr 1
        omega
      rw [this, ih]
      cases q : (List.range n).reverse.find? p with
      | none => rfl
      | some j =>
        have hj : j < n := by simpa using List.mem_of_find?_eq_some q
        simp
        omega
section
variable {g : DG} {de : DE} {env : LEnv} {G G1 : Gst} {vs : List Nat} {di : DI} {X : R Vl}
theorem dLc_drX (hX : dLc vs di g dYes de env G = X) (S : Gst → Prop) (m : Nat) (f : Nat → Vl) (l : List Vl) (hdi : di env G = .ok l G1) (hS : S G1) (h : ∀ a ∈ l, ∀ G, S G → ∃ e, g (wipeE env vs) a = some e ∧ ∃ k, k < m ∧ ∃ G', de e G = .ok (f k) G' ∧ S G') (hl : l.length ≤ 16777216) :
    ∃ (ks : List Nat) (G' : Gst), ks.length = l.length ∧ (∀ k ∈ ks, k < m) ∧ X = .ok (.lst (ks.map f)) G' ∧ S G' := by
  subst hX
  exact dLc_dr S m f l hdi hS h hl
end
theorem runF_true {n : Nat} {D : DS} {xs : List Vl} {G : Gst} (h : Wp (D (startE n xs) G) (rtP (.bl true) fun _ => True)) : ∃ G', runF n D xs G = .ok (.bl true) G' := by
  obtain ⟨G', h, _⟩ := runF_rt h
  exact ⟨G', h⟩
theorem dTest_bl {d : DE} {e : LEnv} {G G1 : Gst} {b : Bool} (h : d e G = .ok (.bl b) G1) : dTest d e G = .ok b G1 := by
  unfold dTest
  rw [h]; rfl
theorem wp_chk {t : DT} {a b : DS} {e : LEnv} {G G1 : Gst} {P : SR → Prop} (h : t e G = .ok false G1) (k : Wp (b e G1) P) : Wp (dSeq (dIfS t a dNext) b e G) P := by
  refine wp_seq ?_
  rw [dIfS_ev, h]
  exact k
theorem wp_chk1 {t : DT} {a : DS} {e : LEnv} {G G1 : Gst} {P : SR → Prop} (h : t e G = .ok false G1) (k : Wp (.nx e G1) P) : Wp (dIfS t a dNext e G) P := by
  rw [dIfS_ev, h]
  exact k
theorem wp_asg {d : DE} {g : DG} {b : DS} {e e1 : LEnv} {x : Vl} {G G1 : Gst} {P : SR → Prop} (h : d e G = .ok x G1) (hg : g e x = some e1) (k : Wp (b e1 G1) P) : Wp (dSeq (dAsg d g) b e G) P := by
  refine wp_seq ?_
  unfold dAsg
  rw [h, sb_ok, hg]
  exact k
theorem gds_take {n k : Nat} {xs : List Vl} (h : gds n xs = true) : gds n (xs.take k) = true := by
  rw [gds_all] at h ⊢
  rw [List.all_eq_true] at h ⊢
  exact fun x hx => h x (List.mem_of_mem_take hx)
theorem gds_drop {n k : Nat} {xs : List Vl} (h : gds n xs = true) : gds n (xs.drop k) = true := by
  rw [gds_all] at h ⊢
  rw [List.all_eq_true] at h ⊢
  exact fun x hx => h x (List.mem_of_mem_drop hx)
theorem gds_ints {α : Type} {n : Nat} {l : List α} {f : α → Int} : gds n (l.map fun a => .int (f a)) = true := gds_map _ _ _ fun _ => gd_int
theorem vNe_ok {x y : Vl} (h : gd 60 x = true) (e : x = y) : vNe x y = some (.bl false) := vNe_of e h
theorem wp_forN {i : Nat} {db : DS} {P : SR → Prop} (I : Nat → LEnv → Gst → Prop) : ∀ {xs : List Vl} {e : LEnv} {G : Gst}, I 0 e G →
    (∀ k x, xs[k]? = some x → ∀ e G, I k e G → Wp (db (e.set i (some (.val x))) G) (nxP (I (k + 1)))) → (∀ e G, I xs.length e G → Wp (.nx e G) P) → Wp (forL (gSet i) db xs e G) P
  | [], e, G, h0, _, k => k e G h0
  | x :: xs, e, G, h0, st, k => by
    have h2 := st 0 x rfl e G h0
    unfold forL
    dsimp only [gSet]
    cases q : db (e.set i (some (.val x))) G <;> rw [q] at h2
    case nx e2 G2 => exact wp_forN (fun k => I (k + 1)) h2 (fun k y hy => st (k + 1) y hy) k
    case ct e2 G2 => exact wp_forN (fun k => I (k + 1)) h2 (fun k y hy => st (k + 1) y hy) k
    all_goals exact h2.elim
theorem wp_ifT {t : DT} {a b : DS} {e : LEnv} {G G1 : Gst} {P : SR → Prop} (h : t e G = .ok true G1) (k : Wp (a e G1) P) : Wp (dIfS t a b e G) P := by
  rw [dIfS_ev, h]
  exact k
theorem wp_ifF {t : DT} {a b : DS} {e : LEnv} {G G1 : Gst} {P : SR → Prop} (h : t e G = .ok false G1) (k : Wp (b e G1) P) : Wp (dIfS t a b e G) P := by
  rw [dIfS_ev, h]
  exact k
theorem vIsN_str {s : Str} : vIsN (.str s) .non = some (.bl false) := rfl
theorem vIsN_int {s : Int} : vIsN (.int s) .non = some (.bl false) := rfl
theorem vIsN_tup {s : List Vl} : vIsN (.tup s) .non = some (.bl false) := rfl
theorem vIsN_lst {s : List Vl} : vIsN (.lst s) .non = some (.bl false) := rfl
end CardH
end
section
set_option maxHeartbeats 2000000
namespace CardH
open PySem PySem.Spec PyProof.Rows L2

/-! ### methods of values -/
section
variable {X : Cx} {o e : Expr} {es : List Expr} {to : TE} {t : TA} {name : Str} {apos cpos : Pos} {T id : String} {r : V → List V → Hp → VK → Prop}
/-- what a value's type is, told of the store -/
def TyP (X : Cx) (T : String) (tp : V → Hp → Prop) : Prop := ∀ (pins : List (Addr × Obj)) (s : Shared) (σ : L2.St) (H : Hp) (x : V) (v : Value), Inv X pins σ H s → RelV x v → tp x H →
  s.TypeIs v T ∧ ∀ a, v = .ref a → ∃ ob, s.heap.get? a = some ob ∧ ob.dict = none
theorem tyP_V : TyP X T (fun x H => tyV X.K T x H) := fun pins s σ H x v I r h => tyV_is I r h
def tupP (K : PySem.W.Frag) (x : V) (H : Hp) : Prop := ∃ p, x = .ref p ∧ ((∃ o vs, H p = some (.frz o (.tup vs)) ∧ o.dict = none) ∨ ∃ o, K.lookup p = some o ∧ o.cls = .type "tuple" ∧ o.dict = none)
theorem tyP_T : TyP X "tuple" (tupP X.K) := by
  intro pins s σ H x v I r ⟨p, e, h⟩
  subst e
  rcases h with ⟨o, vs, h, hd⟩ | h
  · cases r
    have hq : SqT X.K H p vs := .inl (.inr ⟨o, h⟩)
    obtain ⟨its, _, pl, _⟩ := I.tuple hq
    refine ⟨pl.typeIs, fun a e => ?_⟩
    cases e
    exact ⟨o, (I.hok p _ h).1, hd⟩
  · exact tyV_is (x := .ref p) I r (.inr (.inl ⟨rfl, h⟩))
def tBMG (tp : V → Hp → Prop) (r : V → List V → Hp → VK → Prop) (to : TE) (t : TA) : TE := fun σ H Q => to σ H fun x H1 => tp x H1 ∧ t σ H1 fun xs H2 => r x xs H2 Q
theorem pe_bmG {tp : V → Hp → Prop} (ht : TyP X T tp) (pa : PlainAttrs T) (slot : Slot T name id) (hty : typeOf (.builtin id) = pure (.type "method_descriptor")) (hm : MtR X id r) (ho : PE X o to) (ha : PA X (e :: es) t)
    (hbase : attributeBase o name X.env (eval o X.env) = eval o X.env := by rfl)
    (hfew : ((backTo cpos (starEach (e :: es) X.env)).all (fun x => !x.1) && (backToKw cpos (keywordEach [] X.env)).all (fun x => x.1.isSome)
      && decide ((e :: es).length + ([] : List Keyword).length + (if ([] : List Keyword).isEmpty then 0 else 1) < 30)) = true := by rfl)
    (hline : (apos.endLine == cpos.line) = true := by rfl) (hs : starEach (e :: es) X.env = (false, eval e X.env) :: starEach es X.env := by rfl) (hplain : (backTo cpos (starEach es X.env)).any (·.1) = false := by rfl) :
    PE X (.Call (.Attribute o name apos) (e :: es) [] cpos) (tBMG tp r to t) := by
  refine ⟨fun pins s σ H Q I h => ?_⟩
  refine wpAny_Call_method_late hbase hfew hline rfl (thn (ho.run pins s σ H _ I h) fun v s1 ⟨x, H1, I1, r1, ty, q1⟩ => ?_)
  obtain ⟨h1, h2⟩ := ht pins s1 σ H1 x v I1 r1 ty
  refine ⟨T, id, pa, slot, hty, h1, h2, ?_⟩
  have hA := ha.run cpos pins s1 σ H1 _ I1 q1
  rw [hs] at hA ⊢
  refine Calls.callWith_builtin (by show (false || (backTo cpos (starEach es X.env)).any (·.1)) = false; rw [hplain] <;> rfl) (Calls.evalArgs_plain ?_)
  exact thn hA fun us s2 ⟨vs, H2, I2, r2, q2⟩ => hm pins s2 σ H2 x vs v us Q I2 r1 r2 q2
theorem pe_bmG0 {tp : V → Hp → Prop} (ht : TyP X T tp) (pa : PlainAttrs T) (slot : Slot T name id) (hty : typeOf (.builtin id) = pure (.type "method_descriptor")) (hm : MtR X id r) (ho : PE X o to)
    (hbase : attributeBase o name X.env (eval o X.env) = eval o X.env := by rfl) (hline : (apos.endLine == cpos.line) = true := by rfl) : PE X (.Call (.Attribute o name apos) [] [] cpos) (fun σ H Q => to σ H fun x H1 => tp x H1 ∧ r x [] H1 Q) := by
  refine ⟨fun pins s σ H Q I h => ?_⟩
  refine wpAny_Call_method0_late hbase hline (thn (ho.run pins s σ H _ I h) fun v s1 ⟨x, H1, I1, r1, ty, q1⟩ => ?_)
  obtain ⟨h1, h2⟩ := ht pins s1 σ H1 x v I1 r1 ty
  exact ⟨T, id, pa, slot, hty, h1, h2, Calls.callWith_builtin rfl (PySem.evalArgs_none (hm pins s1 σ H1 x [] v [] Q I1 r1 .nil q1))⟩
end
/-- the receiver, told by its value -/
def RcS (kt : Kt) (X : Cx) (T : String) (t : Gst → Vl → Bool) : Prop := ∃ tp, TyP X T tp ∧ ∀ (B : Bs) (σ : L2.St) (env : LEnv) (G : Gst) (W : Wd) (x : Vl) (v : V), RAll kt B W σ env G → Pk kt.K W .f x v → t G x = true → tp v W.H
/-- a method's answer, nothing that stood is changed -/
def BmS (kt : Kt) (X : Cx) (id : String) (o : Gst → Vl → List Vl → Option Vl) : Prop :=
  ∃ r : V → List V → Hp → VK → Prop, MtR X id r ∧ ∀ (B : Bs) (σ : L2.St) (env : LEnv) (G : Gst) (W : Wd) (x : Vl) (v : V) (xs : List Vl) (vs : List V) (z : Vl) (Q : VK), RAll kt B W σ env G → Pk kt.K W .f x v → PkS kt.K W .f xs vs → o G x xs = some z →
    (∀ W' w, Ext true W W' → RAll kt B W' σ env G → Rep kt.K W' z w → Q w W'.H) → r v vs W.H Q
def dBm (t : Gst → Vl → Bool) (o : Gst → Vl → List Vl → Option Vl) (d : DE) (ds : DA) : DE := fun env G => (d env G).bind fun x G1 => if t G1 x = true then (ds env G1).bind fun xs G2 => opt (o G2 x xs) G2 else .bad
section
variable {kt : Kt} {B : Bs} {X : Cx} {p pa pb pc : Bool} {m ma mb mc : Md} {a b c e : Expr} {es : List Expr} {da db dc d : DE} {ds : DA} {pos np apos cpos : Pos} {i : Nat} {x name : Str} {id T : String} {o : Gst → Vl → List Vl → Option Vl} {t : Gst → Vl → Bool}
theorem sx_bm (hR : RcS kt X T t) (ho : BmS kt X id o) (hpa : PlainAttrs T) (slot : Slot T name id) (hty : typeOf (.builtin id) = pure (.type "method_descriptor")) (ha : SX kt B X pa ma a da) (hs : SAm kt B X pb mb (e :: es) ds) (hm : okM pb ma = true := by rfl)
    (hbase : attributeBase a name X.env (eval a X.env) = eval a X.env := by rfl)
    (hfew : ((backTo cpos (starEach (e :: es) X.env)).all (fun x => !x.1) && (backToKw cpos (keywordEach [] X.env)).all (fun x => x.1.isSome)
      && decide ((e :: es).length + ([] : List Keyword).length + (if ([] : List Keyword).isEmpty then 0 else 1) < 30)) = true := by rfl)
    (hline : (apos.endLine == cpos.line) = true := by rfl) (hst : starEach (e :: es) X.env = (false, eval e X.env) :: starEach es X.env := by rfl) (hplain : (backTo cpos (starEach es X.env)).any (·.1) = false := by rfl) :
    SX kt B X (pa && pb) .s (.Call (.Attribute a name apos) (e :: es) [] cpos) (dBm t o da ds) := fun Wish tk => by
  obtain ⟨tp, ht, hR⟩ := hR
  obtain ⟨r, hr, ho⟩ := ho
  refine (pe_bmG ht hpa slot hty hr (ha Wish tk) (hs Wish tk) hbase hfew hline hst hplain).imp fun σ H Q ⟨W, env, G, e, A, h⟩ => ?_
  subst e
  refine ⟨W, env, G, rfl, A, h.bindE.mono ?_⟩
  rintro v H1 ⟨W1, x, G1, rfl, e1, A1, z1, h1⟩
  split at h1
  case isFalse => exact h1.elim
  rename_i htx
  refine ⟨hR B σ env G1 W1 x v A1 z1.any htx, W1, env, G1, rfl, A1, h1.bindL.mono ?_⟩
  rintro us H2 ⟨W2, ys, G2, rfl, e2, A2, z2, h2⟩
  obtain ⟨z, ez, q⟩ := opsPo h2
  exact ho B σ env G2 W2 x v ys us z Q A2 (z1.ext e2 (okM_or hm)).any z2.any ez q
/-- either way -/
def dAlt (d1 d2 : DE) : DE := fun env G => (fun _ : Nat => match d1 env G with
  | .bad => d2 env G
  | r => r) hgt3
theorem sx_alt (h1 : SX kt B X p m e da) (h2 : SX kt B X p m e db) : SX kt B X p m e (dAlt da db) := fun Wish tk => by
  refine ⟨fun pins s σ H Q I ⟨W, env, G, e, A, h⟩ => ?_⟩
  unfold dAlt at h
  dsimp only at h
  cases q : da env G with
  | bad => rw [q] at h; exact (h2 Wish tk).run pins s σ H Q I ⟨W, env, G, e, A, h⟩
  | ok v G' => rw [q] at h; exact (h1 Wish tk).run pins s σ H Q I ⟨W, env, G, e, A, by rw [q]; exact h⟩
  | exn c G' => rw [q] at h; exact (h1 Wish tk).run pins s σ H Q I ⟨W, env, G, e, A, by rw [q]; exact h⟩
end
def tStr (_ : Gst) : Vl → Bool
  | .str _ => true
  | _ => false
def tTup (_ : Gst) : Vl → Bool
  | .tup _ => true
  | _ => false
def tLst (G : Gst) (x : Vl) : Bool := match seqOf G x with
  | some (false, _) => true
  | _ => false
def strsOf : List Vl → Option (List Str)
  | [] => some []
  | .str s :: xs => (strsOf xs).map (s :: ·)
  | _ => none
theorem strsOf_eq : ∀ {xs : List Vl} {l : List Str}, strsOf xs = some l → xs = l.map .str
  | [], l, h => by cases h; rfl
  | x :: xs, l, h => by
    cases x with
    | str s =>
      obtain ⟨r, e, rfl⟩ := Option.map_eq_some_iff.mp h
      rw [strsOf_eq e]; rfl
    | _ => cases h
theorem strsOf_map (l : List Str) : strsOf (l.map .str) = some l := by
  induction l with
  | nil => rfl
  | cons a l ih =>
    rw [List.map_cons]
    unfold strsOf
    rw [ih]; rfl
theorem reps_strs {K : PySem.W.Frag} {W : Wd} : ∀ {l : List Str} {vs : List V}, Reps K W (l.map .str) vs → vs = l.map V.str
  | [], _, h => by cases h; rfl
  | s :: l, _, h => by
    obtain ⟨v, r, rfl, ⟨rfl, _⟩, h2⟩ := h
    rw [reps_strs h2]; rfl
/-- the first place -/
def ixOf (s : Str) : List Str → Option Nat
  | [] => none
  | a :: l => if a = s then some 0 else (ixOf s l).map (· + 1)
theorem ixOf_some {s : Str} : ∀ {l : List Str} {j : Nat}, ixOf s l = some j → l[j]? = some s ∧ ∀ m, m < j → l[m]? ≠ some s
  | [], _, h => by cases h
  | a :: l, j, h => by
    unfold ixOf at h
    split at h
    · cases h
      subst_vars
      exact ⟨rfl, fun m hm => absurd hm (Nat.not_lt_zero m)⟩
    · rename_i hne
      obtain ⟨k, e, rfl⟩ := Option.map_eq_some_iff.mp h
      obtain ⟨h1, h2⟩ := ixOf_some e
      refine ⟨h1, fun m hm => ?_⟩
      cases m with
      | zero => intro z; cases z; exact hne rfl
      | succ m => exact h2 m (by omega)
/-- text.index(sign) -/
def oSIx (_ : Gst) : Vl → List Vl → Option Vl
  | .str a, [.str b] => match Builtin.Str.occurrences a b 0 a.length 1 with
    | i :: _ => some (.int (i : Nat))
    | [] => none
  | _, _ => none
/-- t.index(text), xs.index(text) -/
def oTIx (_ : Gst) : Vl → List Vl → Option Vl
  | .tup xs, [.str b] => ((strsOf xs).bind (ixOf b)).map fun j => .int (j : Nat)
  | _, _ => none
def oLIx (_ : Gst) : Vl → List Vl → Option Vl
  | .lst xs, [.str b] => ((strsOf xs).bind (ixOf b)).map fun j => .int (j : Nat)
  | _, _ => none
section
variable {kt : Kt} {X : Cx}
theorem rc_str : RcS kt X "str" tStr := by
  refine ⟨_, tyP_V, fun B σ env G W x v A hx h => ?_⟩
  unfold tStr at h
  split at h
  · obtain ⟨rfl, _⟩ := hx.str
    rfl
  · cases h
theorem rc_lst (hK : X.K = kt.K := by rfl) : RcS kt X "list" tLst := by
  refine ⟨_, tyP_V, fun B σ env G W x v A hx h => ?_⟩
  unfold tLst at h
  split at h
  · rename_i ys e
    obtain ⟨a, vs, rfl, _, hq⟩ := seqOf_r A hx e
    rw [hK]
    exact .inl ⟨rfl, vs, hq⟩
  · cases h
theorem rc_tup (hK : X.K = kt.K := by rfl) : RcS kt X "tuple" tTup := by
  refine ⟨_, tyP_T, fun B σ env G W x v A hx h => ?_⟩
  unfold tTup at h
  rw [hK]
  split at h
  · obtain ⟨a, vs, o, rfl, _, h1, hd, _⟩ := hx.tup'
    exact ⟨a, rfl, .inl ⟨o, vs, h1, hd⟩⟩
  · cases h
theorem bm_sidx : BmS kt X "str.index" oSIx := by
  refine ⟨_, mt_sindex, fun B σ env G W x v xs vs z Q A hx hxs e q => ?_⟩
  unfold oSIx at e
  split at e
  · rename_i a b
    split at e
    · rename_i i rest ho
      cases e
      obtain ⟨rfl, _⟩ := hx.str
      obtain ⟨w, rfl, h2⟩ := hxs.one
      obtain ⟨rfl, _⟩ := h2.str
      exact ⟨a, b, i, rest, rfl, rfl, ho, q W _ Ext.refl A rfl⟩
    · cases e
  · cases e
theorem bm_tidx (hK : X.K = kt.K := by rfl) : BmS kt X "tuple.index" oTIx := by
  refine ⟨_, mt_tup_index, fun B σ env G W x v xs vs z Q A hx hxs e q => ?_⟩
  unfold oTIx at e
  split at e
  · obtain ⟨j, ej, rfl⟩ := Option.map_eq_some_iff.mp e
    obtain ⟨l, e1, e2⟩ := Option.bind_eq_some_iff.mp ej
    obtain rfl := strsOf_eq e1
    obtain ⟨a, us, rfl, h1, r⟩ := hx.tup
    obtain ⟨w, rfl, h2⟩ := hxs.one
    obtain ⟨rfl, _⟩ := h2.str
    obtain rfl := reps_strs r
    obtain ⟨h3, h4⟩ := ixOf_some e2
    rw [hK]
    exact ⟨a, l, _, j, rfl, rfl, h1, h3, h4, q W _ Ext.refl A rfl⟩
  · cases e
theorem bm_lidx (hK : X.K = kt.K := by rfl) : BmS kt X "list.index" oLIx := by
  refine ⟨_, mt_index, fun B σ env G W x v xs vs z Q A hx hxs e q => ?_⟩
  unfold oLIx at e
  split at e
  · rename_i b
    obtain ⟨j, ej, rfl⟩ := Option.map_eq_some_iff.mp e
    obtain ⟨l, e1, e2⟩ := Option.bind_eq_some_iff.mp ej
    obtain rfl := strsOf_eq e1
    obtain ⟨a, us, rfl, h1, r⟩ := hx.lst
    obtain ⟨w, rfl, h2⟩ := hxs.one
    obtain ⟨rfl, _⟩ := h2.str
    obtain rfl := reps_strs r
    obtain ⟨h3, h4⟩ := ixOf_some e2
    rw [hK]
    refine ⟨a, l.map V.str, .str b, j, .str b, rfl, rfl, SqL.of h1, rfl, flat_strs l, by rw [List.getElem?_map, h3]; rfl, beq_self_eq_true b, fun m z' hm hz => ?_, q W _ Ext.refl A rfl⟩
    rw [List.getElem?_map] at hz
    obtain ⟨y, hy, rfl⟩ := Option.map_eq_some_iff.mp hz
    show (y == b) = false
    exact beq_eq_false_iff_ne.mpr fun e => h4 m hm (e ▸ hy)
  · cases e
end
end CardH
end
section
set_option maxHeartbeats 2000000
namespace CardH
open PySem PySem.Spec PyProof.Rows L2 RT
/-! ### tuple(reversed(a tuple)) -/
section
variable {prog : Program} {w : World} {A : Around} {E : Value → Shared → Prop} {s : Shared}
theorem walksRt (hh : A.handled = none) (I l : Addr) (hne : l ≠ I) (items : Array Value) (hz : items.size ≤ sizeLine) :
    Walks prog w A I [I, l] [I] items.size (fun i v => items[items.size - 1 - i]? = some v) (fun i h => i ≤ items.size ∧ IsRt h I l ((items.size : Int) - 1 - (i : Int)) ∧ IsTup h l items) where
  sub := fun b hb => by simp at hb; simp [hb]
  frame := fun _ _ _ x hk => ⟨x.1, IsRt.at x.2.1 fun o e => hk I (by simp) o e, by
    obtain ⟨o, ho, r⟩ := x.2.2
    exact ⟨o, hk l (by simp) o ho, r⟩⟩
  item := fun i s Q E hi x hQ => by
    have e : (items.size : Int) - 1 - (i : Int) = ((items.size - 1 - i : Nat) : Int) := by omega
    have hit := x.2.1; rw [e] at hit
    have hx : items[items.size - 1 - i]? = some (items[items.size - 1 - i]'(by omega)) := Array.getElem?_eq_getElem (by omega)
    refine next_rt_item hit x.2.2 hx hz fun h' hit' hs' => ?_
    have e2 : ((items.size - 1 - i : Nat) : Int) - 1 = (items.size : Int) - 1 - ((i + 1 : Nat) : Int) := by omega
    rw [e2] at hit'
    obtain ⟨o, ho, r⟩ := x.2.2
    exact hQ _ h' _ hx ⟨hi, hit', o, (hs'.2 l hne).trans ho, r⟩ fun b o hb eo => hs'.extBut b o (fun h => hb (by simp [h])) eo
  done := fun s Q E x hQ => by
    have e : (items.size : Int) - 1 - (items.size : Int) = -1 := by omega
    have hit := x.2.1; rw [e] at hit
    exact next_rt_end hh hit fun h' he' => hQ h' s.toks fun b o hb eo => he' b o (fun h => hb (by simp [h])) eo
  self := fun _ _ _ _ x hQ => iter_rt x.2.1 hQ
theorem nolen_rt : typeLookup (.type "reversed") "__len__" = pure none := by rw [typeLookup_type, builtinLookup_eq_fast] <;> kernel_rfl
theorem hint_rt : typeLookup (.type "reversed") "__length_hint__" = pure (some (.builtin "reversed.__length_hint__")) := by rw [typeLookup_type, builtinLookup_eq_fast] <;> kernel_rfl
theorem slot_rt_hint : Slot "reversed" "__length_hint__" "reversed.__length_hint__" := .of (owner := "reversed") (n := "__length_hint__") (by rw [typeLookup_type, builtinLookup_eq_fast] <;> kernel_rfl) (by decide +kernel) (by decide +kernel) (by decide +kernel)
    (by first | exact .inl (by decide +kernel) | exact .inr (by decide +kernel)) (by rw [isSubtype_type] <;> kernel_rfl)
theorem entry_rt_hint : entryFor table "reversed.__length_hint__" = some Builtin.«reversed.__length_hint__» := entryFor_of_tree (by kernel_rfl)
theorem args_rt_hint (a : Value) : argsOk "reversed.__length_hint__" ⟨[a], []⟩ := by
  unfold argsOk; rw [signature?_of (id := "reversed.__length_hint__") (n := ['_', '_', 't', 'n', 'i', 'h', '_', 'h', 't', 'g', 'n', 'e', 'l', '_', '_']) (o := ['d', 'e', 's', 'r', 'e', 'v', 'e', 'r']) (by kernel_rfl) owner_rt] <;> kernel_rfl
theorem bind_rt_hint (self : Value) : bindSpecial (.builtin "reversed.__length_hint__") self = pure (.builtin "reversed.__length_hint__", [self]) := by
  have hop : withoutEnding? "reversed.__length_hint__" "#opaque" = none := by decide +kernel
  have hdat : withoutEnding? "reversed.__length_hint__" "#data" = none := by decide +kernel
  have hk : builtinKind "reversed.__length_hint__" = some .method := by decide +kernel
  simp only [bindSpecial, typeOf, builtinType, hop, hdat, hk] <;> rfl
theorem call_hint {it l : Addr} {items : Array Value} {Q : Value → Shared → Prop} (hit : IsRt s.heap it l ((items.size : Int) - 1)) (hl : IsTup s.heap l items) (hz : items.size ≤ sizeLine)
    (h : ∀ tok tk, Q (.int items.size tok) { s with toks := tk }) : wpAny (model prog w) A (call (.builtin "reversed.__length_hint__") [.ref it]) Q E s := by
  obtain ⟨o, ho, hc, hd⟩ := id hit
  have hn := line63
  refine wpAny_call_entry slot_rt_hint hit.typeIs entry_rt_hint ?_ (args_rt_hint _)
  unfold Builtin.«reversed.__length_hint__»
  refine wpAny_bind (wpAny_of_eq (a := Value.ref it) rfl ?_)
  refine wpAny_bind (wpAny_field ho hd (x := .ref l) rfl ?_); show wpAny _ _ (if false = true then _ else _) _ _ s
  rw [if_neg Bool.false_ne_true]
  refine wpAny_bind (len_tuple hl (by omega) ?_)
  refine wpAny_bind (wpAny_of_eq (a := some ((items.size : Nat) : Int)) rfl ?_); dsimp only
  refine wpAny_bind (wpAny_field (s := { s with toks := s.toks + 1 + 1 }) ho hd (x := rawInt ((items.size : Int) - 1)) rfl ?_)
  show wpAny _ _ (if ((items.size : Nat) : Int) < ((items.size : Int) - 1) + 1 then _ else _) _ _ _
  rw [if_neg (by omega)]
  have e : ((items.size : Int) - 1) + 1 = items.size := by omega
  rw [e]
  exact wpAny_bind (wpAny_mkInt (wpAny_pure ⟨_, rfl, h _ _⟩))
theorem collect_rt {it l : Addr} {items : Array Value} {Q : List Value → Shared → Prop} (hh : A.handled = none) (hit : IsRt s.heap it l ((items.size : Int) - 1)) (hl : IsTup s.heap l items) (hne : l ≠ it) (hn : items.size ≤ sizeLine)
    (hQ : ∀ (h' : Heap) (tk : Nat) (acc : Array Value), (∀ b o, b ≠ it → s.heap.get? b = some o → h'.get? b = some o) → ItemsOf (fun i v => items[items.size - 1 - i]? = some v) acc items.size → Q acc.toList { s with heap := h', toks := tk }) :
    wpAny (model prog w) A (collect (.ref it)) Q E s := by
  have W := (walksRt (prog := prog) (w := w) (A := A.in1) hh it l hne items hn).toS
  obtain ⟨oi, hoi, hc0, hd0⟩ := id hit
  obtain ⟨ol, hol, hcl⟩ := id hl
  have hSi : s.heap.objs.size ≠ it := Nat.ne_of_gt (Heap.lt_size hoi)
  have hSl : s.heap.objs.size ≠ l := Nat.ne_of_gt (Heap.lt_size hol)
  have hSf : s.heap.objs.size ∉ [it, l] := by simp only [List.mem_cons, List.not_mem_nil, or_false, not_or] <;> exact ⟨hSi, hSl⟩
  unfold collect
  refine wpAny_bind (wpAny_runValue (codeAny_builtin F.entry_proto_collect ?_)); rw [Around.under_plainId F.plain_proto_collect _]
  show wpAny _ A.in1 (newList [] >>= fun l2 => again (.builtin "list.__iadd__" ⟨[l2, .ref it], []⟩)) _ _ s
  refine wpAny_bind (wpAny_newObj_type ?_); refine wpAny_pure ⟨plainId_quiet F.plain_list_iadd _, codeAny_builtin F.entry_list_iadd ?_⟩
  rw [Around.under_plainId F.plain_list_iadd _]
  have hS₁ : (s.heap.push { cls := .type "list", data := .seq ([] : List Value).toArray }).get? s.heap.objs.size = some { cls := .type "list", data := .seq ([] : List Value).toArray } := (Heap.get?_push_size _ rfl)
  have hit1 : IsRt (s.heap.push { cls := .type "list", data := .seq ([] : List Value).toArray }) it l ((items.size : Int) - 1) := IsRt.at hit fun o e => Heap.get?_push_of_some _ e
  have hl1 : IsTup (s.heap.push { cls := .type "list", data := .seq ([] : List Value).toArray }) l items := ⟨ol, Heap.get?_push_of_some _ hol, hcl⟩
  have hT : ({ s with heap := s.heap.push { cls := .type "list", data := .seq ([] : List Value).toArray } } : Shared).TypeIs (.ref it) "reversed" := IsRt.typeIs (s := { s with heap := s.heap.push { cls := .type "list", data := .seq ([] : List Value).toArray } }) hit1
  have h1 : Builtin.List.listSameRef (.ref s.heap.objs.size) (.ref it) = false := by (simp [Builtin.List.listSameRef, hSi])
  show wpAny _ A.in1 (Builtin.List.listExtendWith (.ref s.heap.objs.size) (.ref it) (.ref s.heap.objs.size)) _ _ _; unfold Builtin.List.listExtendWith
  refine wpAny_bind (wpAny_typeOf hT ?_); rw [if_neg (by rw [h1]; decide)]
  refine wpAny_bind (iter_rt (s := { s with heap := s.heap.push { cls := .type "list", data := .seq ([] : List Value).toArray } }) hit1 ?_)
  refine wpAny_bind (wpAny_holding ?_); unfold Builtin.List.listLengthHint
  refine wpAny_bind (wpAny_specialOf hT nolen_rt ?_)
  show wpAny _ A.in1 (specialOf (Value.ref it) (Str.ofString "__length_hint__") >>= _) _ _ _; refine wpAny_bind (wpAny_specialOf hT hint_rt ?_)
  generalize hid : ("reversed.__length_hint__" : String) = id0
  wp_delta
  rw [show splitId id0 = some ("reversed", "__length_hint__") from by subst hid; decide +kernel]; subst hid
  refine wpAny_bind (wpAny_isInstance (b := true) hT (by rw [isSubtype_type] <;> kernel_rfl) ?_)
  rw [if_neg (by decide)]
  dsimp only
  rw [if_neg (by decide +kernel)]
  refine wpAny_bind (wpAny_rule ?_); refine wpAny_bind (wpAny_of_eq (bind_rt_hint _) ?_)
  dsimp only
  refine wpAny_bind (wpAny_attempt (call_hint (s := { s with heap := s.heap.push { cls := .type "list", data := .seq ([] : List Value).toArray } }) hit1 hl1 hn fun tok tk => ?_))
  dsimp only
  have hn2 : items.size ≤ 16777216 := by rw [← sizeLine_eq] <;> exact hn
  have ea : asInt? (Value.int ((items.size : Nat) : Int) tok) = pure (some ((items.size : Nat) : Int)) := rfl
  refine wpAny_bind ?_
  rw [ea]
  refine wpAny_pure ?_
  dsimp only
  have hf : Builtin.List.listFitsIndex ((items.size : Nat) : Int) = true := by
    unfold Builtin.List.listFitsIndex
    have z1 : -(2 ^ 63 : Int) ≤ ((items.size : Nat) : Int) := by omega
    have z2 : ((items.size : Nat) : Int) < (2 ^ 63 : Int) := by omega
    rw [decide_eq_true z1, decide_eq_true z2]; rfl
  have hl2 : Builtin.List.listTooLong (((items.size : Nat) : Int).toNat) = false := by
    unfold Builtin.List.listTooLong
    rw [decide_eq_false_iff_not]
    omega
  rw [hf, hl2]
  rw [if_neg (by decide), if_neg (by omega), if_neg (by decide)]
  refine wpAny_pure ?_
  have e0 : ((items.size : Nat) : Int) - 1 - ((0 : Nat) : Int) = (items.size : Int) - 1 := by omega
  have oth0 : ∀ b o, s.heap.get? b = some o → (s.heap.push { cls := .type "list", data := .seq ([] : List Value).toArray }).get? b = some o := fun b o e => Heap.get?_push_of_some _ e
  by_cases h0 : items.size = 0
  · have hb : (((items.size : Nat) : Int) != 0) = false := by rw [h0] <;> rfl
    rw [hb]
    rw [if_neg (by decide +kernel)]
    refine wpAny_pure ⟨plainId_quiet F.plain_extend_loop _, codeAny_extend_loopS W hn _ hSf _ items.size 0 _ _ _ rfl (Nat.zero_le _) ⟨Nat.zero_le _, by rw [e0] <;> exact hit1, hl1⟩ hS₁ (ItemsOf.nil _) fun s' acc' c' hm hS' hacc => ?_⟩
    show wpAny _ A (load s.heap.objs.size >>= _) _ _ s'; refine wpAny_bind (wpAny_load hS' ?_); refine wpAny_pure ?_
    rw [Moved.eq_with hm]
    refine hQ s'.heap s'.toks acc' (fun b o hb e => hm.heap b o (fun hmem => ?_) (oth0 b o e)) hacc
    rcases List.mem_cons.mp hmem with e' | hmem
    · exact absurd (Heap.lt_size e) (by rw [e'] <;> exact Nat.lt_irrefl _)
    · exact hb (List.mem_singleton.mp hmem)
  · have hb : (((items.size : Nat) : Int) != 0) = true := by rw [bne_iff_ne] <;> omega
    rw [hb]
    rw [if_pos (by rfl)]
    clear hf hl2 ea hn2 hb
    refine wpAny_bind (wpAny_rule ?_)
    refine wpAny_bind ?_
    show wpAny _ A.in1 (updateSeq s.heap.objs.size (·.push .none) >>= fun _ => updateSeq s.heap.objs.size (·.pop)) _ _ _
    refine wpAny_bind (wpAny_updateSeq hS₁ rfl ?_)
    have hS₂ := Heap.get?_update_self (Obj.mapSeq (·.push Value.none)) hS₁ rfl
    refine wpAny_updateSeq hS₂ rfl ?_
    have hS₃ := Heap.get?_update_self (Obj.mapSeq (·.pop)) hS₂ rfl
    have oth : ∀ b o, b ≠ s.heap.objs.size → (s.heap.push { cls := .type "list", data := .seq ([] : List Value).toArray }).get? b = some o → (((s.heap.push { cls := .type "list", data := .seq ([] : List Value).toArray }).update s.heap.objs.size (Obj.mapSeq (·.push Value.none))).update s.heap.objs.size (Obj.mapSeq (·.pop))).get? b = some o :=
      fun b o hb e => (Heap.get?_update_other _ _ (Ne.symm hb)).trans ((Heap.get?_update_other _ _ (Ne.symm hb)).trans e)
    have hit3 := IsRt.at hit1 fun o e => oth it o (Ne.symm hSi) e
    have hl3 : IsTup (((s.heap.push { cls := .type "list", data := .seq ([] : List Value).toArray }).update s.heap.objs.size (Obj.mapSeq (·.push Value.none))).update s.heap.objs.size (Obj.mapSeq (·.pop))) l items := by
      obtain ⟨o, ho, r⟩ := hl1
      exact ⟨o, oth l o (Ne.symm hSl) ho, r⟩
    have oth3 : ∀ b o, s.heap.get? b = some o → (((s.heap.push { cls := .type "list", data := .seq ([] : List Value).toArray }).update s.heap.objs.size (Obj.mapSeq (·.push Value.none))).update s.heap.objs.size (Obj.mapSeq (·.pop))).get? b = some o := fun b o e => oth b o (Nat.ne_of_lt (Heap.lt_size e)) (oth0 b o e)
    refine wpAny_pure ⟨plainId_quiet F.plain_extend_loop _, codeAny_extend_loopS W hn _ hSf _ items.size 0 _ _ _ rfl (Nat.zero_le _) ⟨Nat.zero_le _, by rw [e0] <;> exact hit3, hl3⟩ hS₃ (ItemsOf.nil _) fun s' acc' c' hm hS' hacc => ?_⟩
    show wpAny _ A (load s.heap.objs.size >>= _) _ _ s'; refine wpAny_bind (wpAny_load hS' ?_); refine wpAny_pure ?_
    rw [Moved.eq_with hm]
    refine hQ s'.heap s'.toks acc' (fun b o hb e => hm.heap b o (fun hmem => ?_) (oth3 b o e)) hacc
    rcases List.mem_cons.mp hmem with e' | hmem
    · exact absurd (Heap.lt_size e) (by rw [e'] <;> exact Nat.lt_irrefl _)
    · exact hb (List.mem_singleton.mp hmem)
theorem code_tuple_new_rt {it l : Addr} {items : Array Value} {Q₁ : Value → Shared → Prop} (hh : A.handled = none) (hit : IsRt s.heap it l ((items.size : Int) - 1)) (hl : IsTup s.heap l items) (hne : l ≠ it) (hn : items.size ≤ sizeLine)
    (h : ∀ (h' : Heap) (tk : Nat) (acc : Array Value), (∀ b o, b ≠ it → s.heap.get? b = some o → h'.get? b = some o) → ItemsOf (fun i v => items[items.size - 1 - i]? = some v) acc items.size → Q₁ (.ref h'.objs.size) { s with heap := h'.push { cls := .type "tuple", data := .seq acc }, toks := tk }) :
    codeAny (model prog w) A (.call (.builtin "tuple.__new__") ⟨[.type "tuple", .ref it], []⟩) (wants Q₁ E) s := by
  refine codeAny_of_tree ?_; show wpAny _ A.in1 (do checkBuiltinCall "tuple.__new__" ⟨[.type "tuple", .ref it], []⟩; again (.builtin "tuple.__new__" ⟨[.type "tuple", .ref it], []⟩)) _ _ s
  refine wpAny_bind (wpAny_of_eq (F.newCall_tuple_1 _) (wpAny_pure ⟨plainId_quiet F.plain_tuple_new _, codeAny_builtin F.entry_tuple_new ?_⟩)); rw [Around.under_plainId F.plain_tuple_new _]
  have hsub := sub_tuple_self
  have hinit := init_tuple_lookup
  have hmh := madeHere_tuple
  have hTI : s.TypeIs (.ref it) "reversed" := hit.typeIs
  have hh1 : A.in1.handled = none := hh
  wp_walk using wpAny_typeOf hTI, collect_rt (A := A.in1) hh1 hit hl hne hn
  intro h' tk acc hk hacc
  show wpAny _ _ (Builtin.Tuple.tupleExact acc.toList.toArray >>= fun v => ret v) _ _ _; unfold Builtin.Tuple.tupleExact
  refine wpAny_bind (wpAny_newObj_type ?_ (by show acc.toList.toArray.size ≤ sizeLine; simp only [Array.toArray_toList]; rw [hacc.1] <;> exact hn)); refine wpAny_pure ?_
  have e : acc.toList.toArray = acc := by simp
  rw [e] <;> exact h h' tk acc hk hacc
theorem call_tuple_rt {it l : Addr} {items : Array Value} {Q : Value → Shared → Prop} (hh : A.handled = none) (hit : IsRt s.heap it l ((items.size : Int) - 1)) (hl : IsTup s.heap l items) (hne : l ≠ it) (hn : items.size ≤ sizeLine)
    (hQ : ∀ (h' : Heap) (tk : Nat) (acc : Array Value), (∀ b o, b ≠ it → s.heap.get? b = some o → h'.get? b = some o) → ItemsOf (fun i v => items[items.size - 1 - i]? = some v) acc items.size → Q (.ref h'.objs.size) { s with heap := h'.push { cls := .type "tuple", data := .seq acc }, toks := tk }) :
    wpAny (model prog w) A (call (.type "tuple") [.ref it]) Q E s := by
  refine callType_codes (Q₁ := fun obj s₁ => s₁.TypeIs obj "tuple" ∧ Q obj s₁) F.called_tuple (F.typeCall_tuple_1 _) F.entry_object_init (code_tuple_new_rt (A := A.in1) hh hit hl hne hn fun h' tk acc hk hacc => ⟨⟨_, Heap.get?_push_size _ rfl, rfl⟩, hQ h' tk acc hk hacc⟩) fun obj s₁ h₁ => ?_
  exact ⟨h₁.1, F.args_object_init_2 obj _, object_init_meets F.called_tuple.init.lookup F.called_tuple.made (by decide) prog w A.in1 _ s₁ ⟨h₁.1, rfl, h₁.2⟩⟩
end
end CardH
end
section
set_option maxHeartbeats 2000000
namespace CardH
open PySem PySem.Spec PyProof.Rows L2
/-! ### tuple(reversed(x)), x a list or a tuple -/
section
variable {X : Cx}
def tTupRevP (K : PySem.W.Frag) (te : TE) : TE := fun σ H Q => te σ H fun v H1 => ∃ (a : Addr) (xs : List V), v = .ref a ∧ (SqL K H1 a xs ∨ SqT K H1 a xs) ∧ ∀ q o, H1 q = none → o.dict = none → Q (.ref q) (upd H1 q (.frz o (.tup xs.reverse)))
theorem pe_tupRevP {e : Expr} {te : TE} {p p2 pos pos2 : Pos} (hc : X.calm = true) (hg : Gl X "tuple") (hm : X.mg "tuple" = none) (hg2 : Gl X "reversed") (hm2 : X.mg "reversed" = none) (he : PE X e te)
    (hs : starEach [e] X.env = (false, eval e X.env) :: starEach [] X.env) (hs2 : starEach [.Call (.Name "reversed" p2) [e] [] pos2] X.env = (false, eval (.Call (.Name "reversed" p2) [e] [] pos2) X.env) :: starEach [] X.env) :
    PE X (.Call (.Name "tuple" p) [.Call (.Name "reversed" p2) [e] [] pos2] [] pos) (tTupRevP X.K te) := by
  refine ⟨fun pins s σ H Q I h => ?_⟩
  refine Call_ (ld_blt I hg hm boot_tuple (PyProof.Rows.callWith_type1 (args_cons (Call_ (ld_blt I hg2 hm2 PyProof.Rows.boot_reversed (PyProof.Rows.callWith_type1 (args_cons (thn (he.run pins s σ H _ I h) fun u s1 ⟨v, H1, I1, r1, q1⟩ => args_nil ?_) hs) hs rfl))) hs2) hs2 rfl))
  obtain ⟨a, xs, ev, hq, q⟩ := q1; subst ev
  obtain rfl : u = Value.ref a := r1
  obtain ⟨f0, f1, f2, f3, f4, f5⟩ := I1.fpOk (H' := H1) (b := s1.heap.objs.size) (Nat.le_refl _) (I1.hok.fresh (Nat.le_refl _))
  have fin : ∀ (its : List Value) (s2 s3 : Shared) (acc : Array Value), Vals xs its → xs.length ≤ sizeLine → Inv X pins σ H1 s3 → ItemsOf (fun i v => its.toArray[its.toArray.size - 1 - i]? = some v) acc its.toArray.size → ∀ tk,
      EP X pins σ Q (.ref s3.heap.objs.size) { s3 with heap := s3.heap.push { cls := .type "tuple", data := .seq acc }, toks := tk } := fun its s2 s3 acc rv hz I3 hi tk => by
    refine ⟨.ref s3.heap.objs.size, upd H1 s3.heap.objs.size (.frz { cls := .type "tuple", data := .seq acc } (.tup xs.reverse)), I3.laid (t' := tk) (fun c o e => Heap.get?_push_of_some _ e) (Nat.le_refl _) (show ObjOk X.prog X.w _ _ _ (.frz _ (.tup xs.reverse)) from ⟨Heap.get?_push_size _ rfl, by rw [List.length_reverse] <;> exact hz, acc.toList, RT.vals_rev rv hi, ?_⟩), rfl, q _ _ (I3.hok.fresh (Nat.le_refl _)) rfl⟩
    rw [Array.toArray_toList] <;> exact IsTup.new _ _
  rcases hq with hq | hq
  · obtain ⟨its, rv, p', hz⟩ := I1.list hq
    refine call_reversed_list p'.isList (args_nil ?_)
    have I2 : Inv X pins σ H1 { s1 with heap := s1.heap.push (revObj a ((its.toArray.size : Int) - 1)) } := I1.kept (t' := s1.toks) fun b o e => Heap.get?_push_of_some _ e
    have hl := p'.isList
    obtain ⟨ol, hol, _⟩ := id hl
    have hne : a ≠ s1.heap.objs.size := Nat.ne_of_lt (Heap.lt_size hol)
    refine RT.call_tuple_rev (s := { s1 with heap := s1.heap.push (revObj a ((its.toArray.size : Int) - 1)) }) (I1.ok.hd hc) ⟨_, Heap.get?_push_size _ rfl, rfl, rfl⟩ (hl.push _) hne (by rw [List.size_toArray, ← rv.length] <;> exact hz) fun h' tk acc hk hi => ?_
    exact fin its s1 { s1 with heap := h', toks := tk } acc rv hz (I2.turned (t' := tk) (fun b o hb e => hk b o hb e) f0 f1 f3 f4 f5) hi tk
  · obtain ⟨its, rv, p', hz⟩ := I1.tuple hq
    have hn := line63
    have hsz : its.toArray.size ≤ sizeLine := by rw [List.size_toArray, ← rv.length] <;> exact hz
    refine RT.call_reversed_tup p' (fun A E Q k => len_tuple p' (by omega) k) (args_nil ?_)
    have I2 : Inv X pins σ H1 { s1 with heap := s1.heap.push (RT.rtObj a ((its.toArray.size : Int) - 1)), toks := s1.toks + 1 + 1 } := I1.kept (t' := s1.toks + 1 + 1) fun b o e => Heap.get?_push_of_some _ e
    obtain ⟨ol, hol, hcl⟩ := id p'
    have hne : a ≠ s1.heap.objs.size := Nat.ne_of_lt (Heap.lt_size hol)
    refine call_tuple_rt (s := { s1 with heap := s1.heap.push (RT.rtObj a ((its.toArray.size : Int) - 1)), toks := s1.toks + 1 + 1 }) (I1.ok.hd hc) ⟨_, Heap.get?_push_size _ rfl, rfl, rfl⟩ ⟨ol, Heap.get?_push_of_some _ hol, hcl⟩ hne hsz fun h' tk acc hk hi => ?_
    exact fin its s1 { s1 with heap := h', toks := tk } acc rv hz (I2.turned (t' := tk) (fun b o hb e => hk b o hb e) f0 f1 f3 f4 f5) hi tk
end
def dTupRev (d : DE) : DE := fun env G => (d env G).bind fun x G1 => opt ((seqOf G1 x).map fun k => .tup k.2.reverse) G1
/-- list(x), a new list of the store -/
def dListO (d : DE) : DE := fun env G => (d env G).bind fun x G1 => match seqOf G1 x with
  | some k => .ok (.ref G1.length) (G1 ++ [.lst k.2])
  | none => .bad
/-- a method that changes a list of the store -/
def dBmW (o : List Vl → List Vl → Option (Vl × List Vl)) (d : DE) (ds : DA) : DE := fun env G => (d env G).bind fun x G1 => if tLst G1 x = true then (ds env G1).bind fun ys G2 => match x with
  | .ref j => match G2[j]? with
    | some (.lst xs) => match o xs ys with
      | some r => .ok r.1 (G2.set j (.lst r.2))
      | none => .bad
    | _ => .bad
  | _ => .bad
  else .bad
def BmWS (kt : Kt) (X : Cx) (id : String) (o : List Vl → List Vl → Option (Vl × List Vl)) : Prop :=
  ∃ r : V → List V → Hp → VK → Prop, MtR X id r ∧ ∀ (W : Wd) (l : Addr) (xs ys : List Vl) (us vs : List V) (z : Vl) (xs' : List Vl) (Q : VK), W.H l = some (.lst us) → Reps kt.K W xs us → PkS kt.K W .s ys vs → o xs ys = some (z, xs') →
    (∀ w us', Rep kt.K W z w → Reps kt.K W xs' us' → Q w (upd W.H l (.lst us'))) → r (.ref l) vs W.H Q
section
variable {kt : Kt} {B : Bs} {X : Cx} {p pa pb pc : Bool} {m ma mb mc : Md} {a b c e : Expr} {es : List Expr} {da db dc d : DE} {ds : DA} {pos np np2 apos cpos pos2 : Pos} {i : Nat} {x name : Str} {id T : String}
theorem sx_tupRev (hc : X.calm = true) (ha : SX kt B X p m a da) (hg : Gl X "tuple" := by rfl) (hm : X.mg "tuple" = none := by rfl) (hg2 : Gl X "reversed" := by rfl) (hm2 : X.mg "reversed" = none := by rfl) (hs : starEach [a] X.env = (false, eval a X.env) :: starEach [] X.env := by rfl)
    (hs2 : starEach [.Call (.Name "reversed" np2) [a] [] pos2] X.env = (false, eval (.Call (.Name "reversed" np2) [a] [] pos2) X.env) :: starEach [] X.env := by rfl) (hK : X.K = kt.K := by rfl) :
    SX kt B X p .s (.Call (.Name "tuple" np) [.Call (.Name "reversed" np2) [a] [] pos2] [] pos) (dTupRev da) := fun Wish tk => (pe_tupRevP hc hg hm hg2 hm2 (ha Wish tk) hs hs2).imp fun σ H Q ⟨W, env, G, e, A, h⟩ => by
  subst e
  refine ⟨W, env, G, rfl, A, h.bindL.mono ?_⟩
  rintro v H1 ⟨W1, x, G1, rfl, e1, A1, z1, h1⟩
  obtain ⟨z, ez, q⟩ := opsPo h1
  obtain ⟨⟨k, ys⟩, e2, rfl⟩ := Option.map_eq_some_iff.mp ez
  obtain ⟨a, vs, rfl, r, g⟩ := seqOf_LT A1 z1.any e2
  rw [hK]
  refine ⟨a, vs, rfl, g, fun l o hl hd => ?_⟩
  obtain ⟨e3, A3, r3⟩ := new_tup A1 hl hd r.reverse
  exact q _ _ e3 A3 r3
theorem sx_listO (ha : SX kt B X p m a da) (hg : Gl X "list" := by rfl) (hm : X.mg "list" = none := by rfl) (he : starEach [a] X.env = (false, eval a X.env) :: starEach [] X.env := by rfl) (hK : X.K = kt.K := by rfl) :
    SX kt B X p .s (.Call (.Name "list" np) [a] [] pos) (dListO da) := fun Wish tk => by
  refine (pe_callTy call_list_of hg hm boot_list (pa_cons (ha Wish tk) pa_nil he) (by decide) (by decide) he rfl).imp fun σ H Q ⟨W, env, G, e, A, h⟩ => ?_
  subst e
  refine ⟨W, env, G, rfl, A, h.bindL.mono ?_⟩
  rintro v H1 ⟨W1, x, G1, rfl, e1, A1, z1, h1⟩
  split at h1
  case h_2 => exact h1.elim
  rename_i k ek
  obtain ⟨a', vs, rfl, r, g⟩ := seqOf_LT (k := k.1) (ys := k.2) A1 z1.any ek
  rw [hK]
  refine ⟨a', vs, rfl, g, fun l hl => ?_⟩
  obtain ⟨e2, A2⟩ := A1.mkL hl r
  refine h1 (W1.mkL l G1.length vs) (.ref l) e2 A2 (.inl ⟨l, rfl, ?_⟩)
  show (W1.ρ ++ [l])[G1.length]? = some l
  rw [← A1.ok.rg.len, List.getElem?_append_right (Nat.le_refl _)] <;> simp
theorem sx_bmW {o : List Vl → List Vl → Option (Vl × List Vl)} (ho : BmWS kt X id o) (slot : Slot "list" name id) (hty : typeOf (.builtin id) = pure (.type "method_descriptor")) (ha : SX kt B X pa .s a da) (hs : SAm kt B X pb .s (e :: es) ds) (hp : B.p = false)
    (hbase : attributeBase a name X.env (eval a X.env) = eval a X.env := by rfl)
    (hfew : ((backTo cpos (starEach (e :: es) X.env)).all (fun x => !x.1) && (backToKw cpos (keywordEach [] X.env)).all (fun x => x.1.isSome) && decide ((e :: es).length + ([] : List Keyword).length + (if ([] : List Keyword).isEmpty then 0 else 1) < 30)) = true := by rfl)
    (hline : (apos.endLine == cpos.line) = true := by rfl) (hst : starEach (e :: es) X.env = (false, eval e X.env) :: starEach es X.env := by rfl) (hplain : (backTo cpos (starEach es X.env)).any (·.1) = false := by rfl) (hK : X.K = kt.K := by rfl) :
    SX kt B X false .s (.Call (.Attribute a name apos) (e :: es) [] cpos) (dBmW o da ds) := fun Wish tk => by
  obtain ⟨r, hr, ho⟩ := ho
  obtain ⟨tp, ht, hR⟩ := rc_lst (kt := kt) (X := X) hK
  refine (pe_bmG ht PySem.F.plainAttrs_list slot hty hr (ha Wish tk) (hs Wish tk) hbase hfew hline hst hplain).imp fun σ H Q ⟨W, env, G, e, A, h⟩ => ?_
  subst e
  refine ⟨W, env, G, rfl, A, (PoX.bindE (q := false) h.fls).mono ?_⟩
  rintro v H1 ⟨W1, x, G1, rfl, e1, A1, z1, h1⟩
  split at h1
  case isFalse => exact h1.elim
  rename_i htx
  refine ⟨hR B σ env G1 W1 x v A1 z1.any htx, W1, env, G1, rfl, A1, (PoX.bindE (q := false) h1.fls).mono ?_⟩
  rintro vs H2 ⟨W2, ys, G2, rfl, e2, A2, z2, h2⟩
  split at h2
  case h_2 => exact h2.elim
  rename_i j
  split at h2
  case h_2 => exact h2.elim
  rename_i xs eg
  split at h2
  case h_2 => exact h2.elim
  rename_i rr er
  obtain ⟨a', rfl, ha'⟩ := (z1.ext (m := .s) e2 (.inr (fun z => by cases z))).ref
  obtain ⟨a2, q1, q2, us, q3, rp⟩ := A2.ok.rg.ob _ _ eg
  rw [ha'] at q1; cases q1
  refine ho W2 a' xs ys us vs rr.1 rr.2 Q q3 rp z2 (by rw [er]) fun w us' hw hus => ?_
  have e4 : Ext false W2 (W2.wr a' (.lst us')) := Ext.wr (by rw [q2]; rfl) q3 rfl
  refine h2 (W2.wr a' (.lst us')) w e4 (A2.wr hp q3 rfl rfl (.inl q2) fun b hb => ?_) (.inl (Rep.ext e4 _ _ hw))
  rw [ha'] at hb; cases hb
  exact ⟨_, upd_same, Reps.ext e4 _ _ hus⟩
end
/-- xs.pop(i) -/
def oPopAt (xs : List Vl) : List Vl → Option (Vl × List Vl)
  | [.int i] => if xs.length ≤ 16777216 then (ixN xs.length i).bind fun k => (xs[k]?).map fun y => (y, xs.eraseIdx k) else none
  | _ => none
def oInsert (xs : List Vl) : List Vl → Option (Vl × List Vl)
  | [.int i, y] => if xs.length < 16777216 ∧ 0 ≤ i ∧ sm62 i = true then some (.non, xs.take i.toNat ++ [y] ++ xs.drop i.toNat) else none
  | _ => none
section
variable {kt : Kt} {X : Cx}
theorem bmw_popAt : BmWS kt X "list.pop" oPopAt := by
  refine ⟨_, mt_popAt, fun W l xs ys us vs z xs' Q hl r hy e q => ?_⟩
  unfold oPopAt at e
  split at e
  · split at e
    · rename_i i hz
      obtain ⟨k, e1, e2⟩ := Option.bind_eq_some_iff.mp e
      obtain ⟨y, e3, e4⟩ := Option.map_eq_some_iff.mp e2
      cases e4
      obtain ⟨v, rfl, h2⟩ := hy.one
      cases h2.int
      obtain ⟨w, hw1, hw2⟩ := r.get e3
      obtain ⟨s1, s2, s3, s4⟩ := ixN_seq e1
      refine ⟨l, us, i, k, w, rfl, rfl, hl, by omega, by omega, by rw [← r.length] <;> exact s1, hw1, q w _ hw2 (r.eraseIdx k)⟩
    · cases e
  · cases e
theorem bmw_insert : BmWS kt X "list.insert" oInsert := by
  refine ⟨_, mt_insert, fun W l xs ys us vs z xs' Q hl r hy e q => ?_⟩
  unfold oInsert at e
  split at e
  · split at e
    · rename_i i y hz
      cases e
      obtain ⟨v, u, rfl, h2, h3⟩ := hy.two
      cases h2.int
      have hb := sm62_ok hz.2.2
      exact ⟨l, us, i, u, rfl, rfl, hl, by rw [← r.length, sizeLine_eq] <;> exact hz.1, hz.2.1, by omega, q .non _ rfl (((r.take _).append (Reps.one h3.strict)).append (r.drop _))⟩
    · cases e
  · cases e
end
end CardH
end
section
set_option maxHeartbeats 2000000
namespace CardH
open PySem PySem.Spec PyProof.Rows L2
/-! ### lists of the store: displays, +=, + -/
def dLstO (ds : DA) : DE := fun env G => (ds env G).bind fun xs G1 => if xs.length ≤ 16777216 then .ok (.ref G1.length) (G1 ++ [.lst xs]) else .bad
def dAugO (i : Nat) (dv : DE) : DS := fun e G => match e[i]? with
  | some (some (.val (.ref j))) => sb e (dv e G) fun v G1 => match G1[j]?, v with
    | some (.lst xs), .lst ys => if xs.length + ys.length ≤ 16777216 then .nx e (G1.set j (.lst (xs ++ ys))) else .bad
    | _, _ => .bad
  | _ => .bad
def lstOf (G : Gst) : Vl → Option (List Vl)
  | .lst xs => some xs
  | .ref j => match G[j]? with
    | some (.lst xs) => some xs
    | _ => none
  | _ => none
def dCat (da db : DE) : DE := fun env G => (da env G).bind fun x G1 => (db env G1).bind fun y G2 => match lstOf G2 x, lstOf G2 y with
  | some xs, some ys => if xs.length + ys.length ≤ 16777216 then .ok (.lst (xs ++ ys)) G2 else .bad
  | _, _ => .bad
section
variable {kt : Kt} {B : Bs} {X : Cx} {p pa pb pc : Bool} {m ma mb mc : Md} {a b c e : Expr} {es : List Expr} {da db dc d dv : DE} {ds : DA} {pos pos' np apos cpos pos2 : Pos} {x name : Str}
theorem lstOf_r {W : Wd} {G : Gst} {σ : L2.St} {env : LEnv} {x : Vl} {v : V} {ys : List Vl} (A : RAll kt B W σ env G) (hx : Pk kt.K W .f x v) (e : lstOf G x = some ys) : ∃ a vs, v = .ref a ∧ Reps kt.K W ys vs ∧ W.H a = some (.lst vs) := by
  unfold lstOf at e
  split at e
  · cases e
    obtain ⟨a, vs, h1, h2, h3⟩ := hx.lst
    exact ⟨a, vs, h1, h3, h2⟩
  · split at e
    · rename_i j zs eg
      cases e
      obtain ⟨a, rfl, ha⟩ := hx.ref
      obtain ⟨a2, q1, q2, us, q3, rp⟩ := A.ok.rg.ob _ _ eg
      rw [ha] at q1; cases q1
      exact ⟨a, us, rfl, rp, q3⟩
    · cases e
  · cases e
theorem sx_lstO {p2 : Pos} (h : SAm kt B X p .s es ds) : SX kt B X p .s (.List es p2) (dLstO ds) := fun Wish tk => (pe_lst (h Wish tk)).imp fun σ H Q ⟨W, env, G, e, A, h⟩ => by
  subst e
  refine ⟨W, env, G, rfl, A, h.bindL.mono ?_⟩
  rintro vs H1 ⟨W1, xs, G1, rfl, e1, A1, z1, h1⟩
  split at h1
  · refine ⟨by rw [← z1.strict.length, sizeLine_eq]; assumption, fun l hl => ?_⟩
    obtain ⟨e2, A2⟩ := A1.mkL hl z1.strict
    refine h1 (W1.mkL l G1.length vs) (.ref l) e2 A2 (.inl ⟨l, rfl, ?_⟩)
    show (W1.ρ ++ [l])[G1.length]? = some l
    rw [← A1.ok.rg.len, List.getElem?_append_right (Nat.le_refl _)] <;> simp
  · exact h1.elim
theorem sx_cat (ha : SX kt B X pa ma a da) (hb : SX kt B X pb mb b db) (hm : okM pb ma = true := by rfl) : SX kt B X (pa && pb) .s (.BinOp a .Add b pos) (dCat da db) := fun Wish tk => by
  refine (pe_op op_cat (ha Wish tk) (hb Wish tk)).imp fun σ H Q ⟨W, env, G, e, A, h⟩ => ?_
  subst e
  refine ⟨W, env, G, rfl, A, h.bindE.mono ?_⟩
  rintro v H1 ⟨W1, x, G1, rfl, e1, A1, z1, h1⟩
  refine ⟨W1, env, G1, rfl, A1, h1.bindL.mono ?_⟩
  rintro u H2 ⟨W2, y, G2, rfl, e2, A2, z2, h2⟩
  split at h2
  case h_2 => exact h2.elim
  rename_i xs ys ex ey
  split at h2
  case isFalse => exact h2.elim
  rename_i hz
  obtain ⟨a1, vs, rfl, r1, g1⟩ := lstOf_r A2 (z1.ext e2 (okM_or hm)).any ex
  obtain ⟨b1, us, rfl, r2, g2⟩ := lstOf_r A2 z2.any ey
  refine ⟨a1, b1, vs, us, rfl, rfl, g1, g2, by rw [← r1.length, ← r2.length, sizeLine_eq]; exact hz, fun l hl => ?_⟩
  obtain ⟨e3, A3, r3⟩ := new_lst A2 hl (r1.append r2)
  exact h2 _ _ e3 A3 (.inl r3)
theorem ss_augO (i : Nat) (hN : X.N.Nodup) (hp : B.p = false) (hv : SX kt B X p .s e dv) (hi : X.N[i]? = some x := by rfl) (hx : Loc X.env.scope x := by first | exact Or.inl rfl | exact Or.inr rfl)
    (hf : X.fn x = true ∨ X.env.scope.names.lookup x = some .local := by first | exact .inl rfl | exact .inr rfl) : SS kt B X (.AugAssign (.Name x pos') .Add e pos) (dAugO i dv) := fun Wish tk => by
  refine (ps_aug (ti := rExt2) hN hi hx (hv Wish tk) (fun pins s σ H x y v u Q I rx ry q => iop_ext pins s σ H x y v u Q I rx ry q) hf).imp fun D σ H ⟨W, env, G, e, A, h⟩ => ?_
  subst e
  unfold dAugO at h
  split at h
  case h_2 => exact h.elim
  rename_i j ei
  obtain ⟨w, hσ, hfv, hown⟩ := A.re.sl i _ ei
  refine ⟨w, hσ, W, env, G, rfl, A, h.bindS.mono ?_⟩
  rintro v H1 ⟨W1, y1, G1, rfl, e1, A1, z1, h1⟩
  split at h1
  case h_2 => exact h1.elim
  rename_i xs ys eg
  split at h1
  case isFalse => exact h1.elim
  rename_i hz
  obtain ⟨a', rfl, ha'⟩ := hfv
  have ha1 : W1.ρ[j]? = some a' := e1.toR.ref ha'
  obtain ⟨a2, q1, q2, us, q3, rp⟩ := A1.ok.rg.ob _ _ eg
  rw [ha1] at q1; cases q1
  obtain ⟨b1, zs, rfl, h2, r2⟩ := z1.lst
  refine ⟨a', b1, us, zs, rfl, rfl, q3, h2, by rw [← rp.length, ← r2.length, sizeLine_eq]; exact hz, ?_⟩
  have e4 : Ext false W1 (W1.wr a' (.lst (us ++ zs))) := Ext.wr (by rw [q2]; rfl) q3 rfl
  have A4 : RAll kt B (W1.wr a' (.lst (us ++ zs))) σ env (G1.set j (.lst (xs ++ ys))) := A1.wr hp q3 rfl rfl (.inl q2) fun b hb => by
    rw [ha1] at hb; cases hb
    exact ⟨_, upd_same, (Reps.ext e4 _ _ rp).append (Reps.ext e4 _ _ r2)⟩
  have hi' : i < env.length := (List.getElem?_eq_some_iff.mp ei).1
  have A5 : RAll kt B (W1.wr a' (.lst (us ++ zs))) (σ.set i (some (.ref a'))) (env.set i (some (.val (.ref j)))) (G1.set j (.lst (xs ++ ys))) := A4.set (i := i) (x := .ref j) (v := .ref a') ⟨a', rfl, by show W1.ρ[j]? = some a'; exact ha1⟩
  have hse : env.set i (some (.val (.ref j))) = env := by
    refine List.ext_getElem? fun k => ?_
    by_cases hk : i = k
    · subst hk
      rw [List.getElem?_set_self hi', ei]
    · rw [List.getElem?_set_ne hk]
  rw [hse] at A5
  exact h1 _ _ e4.toS A5
end
section
variable {α : Type} {g : DG} {dt : DT} {de : DE} {e0 env : LEnv} {G G1 : Gst} {vs : List Nat} {di : DI}
theorem gxL_sumF (c : α → Vl) (p : α → Bool) (f : α → Int) : ∀ (l : List α) (s : Int), (∀ a ∈ l, ∃ e, g e0 (c a) = some e ∧ dt e G = .ok (p a) G ∧ (p a = true → de e G = .ok (.int (f a)) G)) →
    gxL sumV (fun a => .int a) g dt de e0 s (l.map c) G = .ok (.int (s + ((l.filter p).map f).sum)) G
  | [], s, _ => by simp [gxL]
  | a :: l, s, h => by
    obtain ⟨e, h1, h2, h3⟩ := h a (by simp)
    rw [List.map_cons]
    unfold gxL
    rw [h1]
    dsimp only
    rw [h2, R.bind_ok]
    cases hp : p a with
    | true =>
      have ih := gxL_sumF c p f l (s + f a) fun b hb => h b (by simp [hb])
      rw [if_pos rfl, h3 hp, R.bind_ok, List.filter_cons_of_pos hp]
      simpa [sumV, Int.add_assoc] using ih
    | false =>
      have ih := gxL_sumF c p f l s fun b hb => h b (by simp [hb])
      rw [if_neg (by simp), List.filter_cons_of_neg (by simp [hp])]
      exact ih
theorem dSumG_tmF (l : List α) (c : α → Vl) (p : α → Bool) (f : α → Int) (hdi : di env G = .ok (l.map c) G1) (h : ∀ a ∈ l, ∃ e, g (wipeE env vs) (c a) = some e ∧ dt e G1 = .ok (p a) G1 ∧ (p a = true → de e G1 = .ok (.int (f a)) G1)) :
    dSumG vs di g dt de env G = .ok (.int ((l.filter p).map f).sum) G1 := by
  unfold dSumG dGx
  rw [hdi, R.bind_ok, gxL_sumF c p f l 0 h, Int.zero_add]; rfl
end
theorem sum_ones {α : Type} (l : List α) : (l.map fun _ => (1 : Int)).sum = l.length := by
  induction l with
  | nil => rfl
  | cons a l ih => simp [ih]; omega
theorem ixN_nat {n k : Nat} (h : k < n) : ixN n (k : Int) = some k := by
  unfold ixN
  rw [if_pos (by omega), if_pos (by omega)]; rfl
theorem oPopAt_eq {xs : List Vl} {k : Nat} {y : Vl} (hl : xs.length ≤ 16777216) (h : xs[k]? = some y) : oPopAt xs [.int (k : Nat)] = some (y, xs.eraseIdx k) := by
  have hk := (List.getElem?_eq_some_iff.mp h).1
  show (if xs.length ≤ 16777216 then (ixN xs.length (k : Nat)).bind fun k => (xs[k]?).map fun y => (y, xs.eraseIdx k) else none) = _
  rw [if_pos hl, ixN_nat hk]
  show Option.map _ _ = _
  rw [h]; rfl
theorem oInsert_eq {xs : List Vl} {k : Nat} {y : Vl} (hl : xs.length < 16777216) (hk : k < 4611686018427387904) : oInsert xs [.int (k : Nat), y] = some (.non, xs.take k ++ [y] ++ xs.drop k) := if_pos ⟨hl, by omega, sm62_of (by omega)⟩
theorem isEmpty_map {α β : Type} (f : α → β) (l : List α) : (l.map f).isEmpty = l.isEmpty := by cases l <;> rfl
end CardH
end
section
set_option maxHeartbeats 0
namespace CardH
open PySem PySem.Spec PyProof.Rows L2
def top (i : Nat) : Stmt := PySem.Challenge.pw_cardhall_k01_cards.main.body.getD i (.Pass ⟨0, 0, 0, 0⟩)
abbrev s_check_card : Stmt := (top 13)
def d_check_card : He.DefD := ⟨("check_card", none), "check_card", "check_card", defArgs s_check_card, defBody s_check_card, defScope s_check_card, [], []⟩
abbrev s_rank_of : Stmt := (top 14)
def d_rank_of : He.DefD := ⟨("rank_of", none), "rank_of", "rank_of", defArgs s_rank_of, defBody s_rank_of, defScope s_rank_of, [], []⟩
abbrev s_suit_of : Stmt := (top 15)
def d_suit_of : He.DefD := ⟨("suit_of", none), "suit_of", "suit_of", defArgs s_suit_of, defBody s_suit_of, defScope s_suit_of, [], []⟩
abbrev s_is_red : Stmt := (top 16)
def d_is_red : He.DefD := ⟨("is_red", none), "is_red", "is_red", defArgs s_is_red, defBody s_is_red, defScope s_is_red, [], []⟩
abbrev s_card_of : Stmt := (top 17)
def d_card_of : He.DefD := ⟨("card_of", none), "card_of", "card_of", defArgs s_card_of, defBody s_card_of, defScope s_card_of, [], []⟩
abbrev s_whole_pack : Stmt := (top 18)
def d_whole_pack : He.DefD := ⟨("whole_pack", none), "whole_pack", "whole_pack", defArgs s_whole_pack, defBody s_whole_pack, defScope s_whole_pack, [], []⟩
abbrev s_check_cards : Stmt := (top 19)
def d_check_cards : He.DefD := ⟨("check_cards", none), "check_cards", "check_cards", defArgs s_check_cards, defBody s_check_cards, defScope s_check_cards, [], []⟩
abbrev s_order_of : Stmt := (top 20)
def d_order_of : He.DefD := ⟨("order_of", none), "order_of", "order_of", defArgs s_order_of, defBody s_order_of, defScope s_order_of, [], []⟩
abbrev s_Pack___init__ : Stmt := (inClass (top 21) 0)
def d_Pack___init__ : He.DefD := ⟨("Pack", some "__init__"), "__init__", "Pack.__init__", defArgs s_Pack___init__, defBody s_Pack___init__, defScope s_Pack___init__, [], []⟩
abbrev s_Pack_draw : Stmt := (inClass (top 21) 1)
def d_Pack_draw : He.DefD := ⟨("Pack", some "draw"), "draw", "Pack.draw", defArgs s_Pack_draw, defBody s_Pack_draw, defScope s_Pack_draw, [], []⟩
abbrev s_Pack_bottom : Stmt := (inClass (top 21) 2)
def d_Pack_bottom : He.DefD := ⟨("Pack", some "bottom"), "bottom", "Pack.bottom", defArgs s_Pack_bottom, defBody s_Pack_bottom, defScope s_Pack_bottom, [], []⟩
abbrev s_Pack_put_under : Stmt := (inClass (top 21) 3)
def d_Pack_put_under : He.DefD := ⟨("Pack", some "put_under"), "put_under", "Pack.put_under", defArgs s_Pack_put_under, defBody s_Pack_put_under, defScope s_Pack_put_under, [], []⟩
abbrev s_Pack_put_on : Stmt := (inClass (top 21) 4)
def d_Pack_put_on : He.DefD := ⟨("Pack", some "put_on"), "put_on", "Pack.put_on", defArgs s_Pack_put_on, defBody s_Pack_put_on, defScope s_Pack_put_on, [], []⟩
abbrev s_Pack_cut : Stmt := (inClass (top 21) 5)
def d_Pack_cut : He.DefD := ⟨("Pack", some "cut"), "cut", "Pack.cut", defArgs s_Pack_cut, defBody s_Pack_cut, defScope s_Pack_cut, [], []⟩
abbrev s_Pack_place_of : Stmt := (inClass (top 21) 6)
def d_Pack_place_of : He.DefD := ⟨("Pack", some "place_of"), "place_of", "Pack.place_of", defArgs s_Pack_place_of, defBody s_Pack_place_of, defScope s_Pack_place_of, [], []⟩
abbrev s_Pack_take_out : Stmt := (inClass (top 21) 7)
def d_Pack_take_out : He.DefD := ⟨("Pack", some "take_out"), "take_out", "Pack.take_out", defArgs s_Pack_take_out, defBody s_Pack_take_out, defScope s_Pack_take_out, [], []⟩
abbrev s_Pack_missing : Stmt := (inClass (top 21) 8)
def d_Pack_missing : He.DefD := ⟨("Pack", some "missing"), "missing", "Pack.missing", defArgs s_Pack_missing, defBody s_Pack_missing, defScope s_Pack_missing, [], []⟩
abbrev s_Pack_turned : Stmt := (inClass (top 21) 9)
def d_Pack_turned : He.DefD := ⟨("Pack", some "turned"), "turned", "Pack.turned", defArgs s_Pack_turned, defBody s_Pack_turned, defScope s_Pack_turned, [], []⟩
abbrev s_Pack_shown : Stmt := (inClass (top 21) 10)
def d_Pack_shown : He.DefD := ⟨("Pack", some "shown"), "shown", "Pack.shown", defArgs s_Pack_shown, defBody s_Pack_shown, defScope s_Pack_shown, [], []⟩
abbrev s_riffled : Stmt := (top 22)
def d_riffled : He.DefD := ⟨("riffled", none), "riffled", "riffled", defArgs s_riffled, defBody s_riffled, defScope s_riffled, [], []⟩
abbrev s_rising_rows : Stmt := (top 23)
def d_rising_rows : He.DefD := ⟨("rising_rows", none), "rising_rows", "rising_rows", defArgs s_rising_rows, defBody s_rising_rows, defScope s_rising_rows, [], []⟩
abbrev s_by_colour : Stmt := (top 24)
def d_by_colour : He.DefD := ⟨("by_colour", none), "by_colour", "by_colour", defArgs s_by_colour, defBody s_by_colour, defScope s_by_colour, [], []⟩
abbrev s_moved_card : Stmt := (top 25)
def d_moved_card : He.DefD := ⟨("moved_card", none), "moved_card", "moved_card", defArgs s_moved_card, defBody s_moved_card, defScope s_moved_card, [], []⟩
abbrev s__law_flat : Stmt := (top 27)
def d__law_flat : He.DefD := ⟨("_law_flat", none), "_law_flat", "_law_flat", defArgs s__law_flat, defBody s__law_flat, defScope s__law_flat, [], []⟩
abbrev s__law_dice : Stmt := (top 28)
def d__law_dice : He.DefD := ⟨("_law_dice", none), "_law_dice", "_law_dice", defArgs s__law_dice, defBody s__law_dice, defScope s__law_dice, [], []⟩
abbrev s__law_roll : Stmt := (top 29)
def d__law_roll : He.DefD := ⟨("_law_roll", none), "_law_roll", "_law_roll", defArgs s__law_roll, defBody s__law_roll, defScope s__law_roll, [], []⟩
abbrev s__law_rounds : Stmt := (top 30)
def d__law_rounds : He.DefD := ⟨("_law_rounds", none), "_law_rounds", "_law_rounds", defArgs s__law_rounds, defBody s__law_rounds, defScope s__law_rounds, [], []⟩
abbrev s__law_told : Stmt := (top 31)
def d__law_told : He.DefD := ⟨("_law_told", none), "_law_told", "_law_told", defArgs s__law_told, defBody s__law_told, defScope s__law_told, [], []⟩
abbrev s__law_cards : Stmt := (top 32)
def d__law_cards : He.DefD := ⟨("_law_cards", none), "_law_cards", "_law_cards", defArgs s__law_cards, defBody s__law_cards, defScope s__law_cards, [], []⟩
abbrev s__law_key : Stmt := (top 33)
def d__law_key : He.DefD := ⟨("_law_key", none), "_law_key", "_law_key", defArgs s__law_key, defBody s__law_key, defScope s__law_key, [], []⟩
abbrev s__law_cases1 : Stmt := (top 34)
def d__law_cases1 : He.DefD := ⟨("_law_cases1", none), "_law_cases1", "_law_cases1", defArgs s__law_cases1, defBody s__law_cases1, defScope s__law_cases1, [], []⟩
abbrev s__law_rest1 : Stmt := (top 35)
def d__law_rest1 : He.DefD := ⟨("_law_rest1", none), "_law_rest1", "_law_rest1", defArgs s__law_rest1, defBody s__law_rest1, defScope s__law_rest1, [], []⟩
abbrev s__law_rest2 : Stmt := (top 36)
def d__law_rest2 : He.DefD := ⟨("_law_rest2", none), "_law_rest2", "_law_rest2", defArgs s__law_rest2, defBody s__law_rest2, defScope s__law_rest2, [], []⟩
abbrev s_law : Stmt := (top 37)
def d_law : He.DefD := ⟨("law", none), "law", "law", defArgs s_law, defBody s_law, defScope s_law, [], []⟩
def fn : List He.DefD := [d_check_card, d_rank_of, d_suit_of, d_is_red, d_card_of, d_whole_pack, d_check_cards, d_order_of, d_Pack___init__, d_Pack_draw, d_Pack_bottom, d_Pack_put_under, d_Pack_put_on, d_Pack_cut, d_Pack_place_of, d_Pack_take_out, d_Pack_missing, d_Pack_turned, d_Pack_shown, d_riffled, d_rising_rows, d_by_colour, d_moved_card, d__law_flat, d__law_dice, d__law_roll, d__law_rounds, d__law_told, d__law_cards, d__law_key, d__law_cases1, d__law_rest1, d__law_rest2, d_law]
def fa : List He.Fa := [.glo "check_card", .glo "rank_of", .glo "suit_of", .glo "is_red", .glo "card_of", .glo "whole_pack", .glo "check_cards", .glo "order_of", .glo "riffled", .glo "rising_rows", .glo "by_colour", .glo "moved_card", .glo "_law_flat", .glo "_law_dice", .glo "_law_roll", .glo "_law_rounds", .glo "_law_told", .glo "_law_cards", .glo "_law_key", .glo "_law_cases1", .glo "_law_rest1", .glo "_law_rest2", .glo "law", .free "abs", .free "enumerate", .free "int", .free "isinstance", .free "len", .free "list", .free "max", .free "range", .free "reversed", .free "str", .free "sum", .free "tuple", .free "super", .free "ValueError", .glo "CardFault", .glo "BadCard", .glo "BadPlan", .glo "BadSize", .glo "NoSuch", .glo "NoRoom", .glo "NoWay", .glo "BadText", .glo "BadDeed", .glo "Pack", .cls "Pack", .mkr "Pack", .noat "Pack" "cards", .meth "Pack" "draw", .meth "Pack" "bottom", .meth "Pack" "put_under", .meth "Pack" "put_on", .meth "Pack" "cut", .meth "Pack" "place_of", .meth "Pack" "take_out", .meth "Pack" "missing", .meth "Pack" "turned", .meth "Pack" "shown", .exc "BadCard", .exc "BadSize", .exc "NoSuch", .exm "BadCard" "BadSize" false, .exm "BadCard" "BadCard" true, .exm "BadCard" "BadPlan" false, .exm "BadCard" "NoSuch" false, .exm "BadCard" "NoRoom" false, .exm "BadCard" "NoWay" false, .exm "BadCard" "BadText" false, .exm "BadCard" "BadDeed" false, .exm "BadSize" "BadSize" true, .exm "BadSize" "BadCard" false, .exm "BadSize" "BadPlan" false, .exm "BadSize" "NoSuch" false, .exm "BadSize" "NoRoom" false, .exm "BadSize" "NoWay" false, .exm "BadSize" "BadText" false, .exm "BadSize" "BadDeed" false, .exm "NoSuch" "BadSize" false, .exm "NoSuch" "BadCard" false, .exm "NoSuch" "BadPlan" false, .exm "NoSuch" "NoSuch" true, .exm "NoSuch" "NoRoom" false, .exm "NoSuch" "NoWay" false, .exm "NoSuch" "BadText" false, .exm "NoSuch" "BadDeed" false, .str "RANKS" "123456789tjqk", .str "SUITS" "cdhs"]
def tf : List He.Defn := [("rising_rows", none), ("_law_cases1", none), ("_law_rest1", none), ("_law_rest2", none)]
def loose0 : List PySem.Str := ["CardFault", "BadCard", "BadPlan", "BadSize", "NoSuch", "NoRoom", "NoWay", "BadText", "BadDeed", "RANKS", "SUITS", "check_card", "rank_of", "suit_of", "is_red", "card_of", "whole_pack", "check_cards", "order_of", "Pack", "riffled", "rising_rows", "by_colour", "moved_card", "_law_flat", "_law_dice", "_law_roll", "_law_rounds", "_law_told", "_law_cards"]
def loose1 : List PySem.Str := ["_law_key", "_law_cases1", "_law_rest1", "_law_rest2"]
def loose : List PySem.Str := loose0 ++ loose1
def apB (K : PySem.W.Frag) : Bool := decide ((tf.map fun p => (He.cT K p).2).Nodup)
abbrev rowO : PySem.W.OpenRow := PySem.W.OpenLaw.row PySem.Challenge.rw_cardhall_k01_cards
abbrev hk : PySem.W.Hook := He.hookX 5 fa fn [] tf apB
def ob (s : PySem.W.SharedT) : He.AlX := He.obsX 5 fa fn [] tf apB (HandSHeadRun.getT s)
theorem ob_eq (s : PySem.W.SharedT) : ob s = hk.obs s.abs := He.obsX_eq (HandSHeadRun.getT_eq s)
theorem run (w : World) : HandSHeadRun.RunEq rowO (PySem.W.view rowO.prog [37]) hk ob 1000000 loose w := by
  intro os
  kernel_rfl
end CardH
end
section
set_option maxHeartbeats 0
namespace CardH
open PySem PySem.Spec PyProof.Rows L2 LamX

def fldN : List PySem.Str := ["cards"]
def clsN : List PySem.Str := ["Pack"]
def excN : List PySem.Str := ["BadCard", "BadSize", "NoSuch"]
def tbN : List (He.Defn × PySem.Str) := [(("rising_rows", none), "rising_rows.<locals>.<genexpr>"), (("_law_cases1", none), "_law_cases1.<locals>.<lambda>"), (("_law_rest1", none), "_law_rest1.<locals>.<lambda>"), (("_law_rest2", none), "_law_rest2.<locals>.<lambda>")]
def tblL (K : PySem.W.Frag) : List (Addr × PySem.Str) := tbN.map fun p => ((He.cT K p.1).2, p.2)
@[reducible] def ktD (K : PySem.W.Frag) (mg : PySem.Str → Option Value) : Kt := ⟨K, mg, fun i => He.ga K (clsN.getD i ""), fun i => .ref (He.ga K (excN.getD i "")), fldN, tabsOf (tblL K)⟩
structure Kn (K : PySem.W.Frag) (mg : PySem.Str → Option Value) (base : Heap) : Prop where
  c : He.SaysD fa fn K
  gl : ∀ x, He.Fa.glo x ∈ fa → mg x = some (.ref (He.ga K x))
  fr : ∀ x, He.Fa.free x ∈ fa → mg x = none
  st : ∀ x z, He.Fa.str x z ∈ fa → ∃ t, mg x = some (.str z t)
  nt : ∀ x i, He.Fa.int x i ∈ fa → ∃ t, mg x = some (.int i t)
  tb : ∀ p ∈ tf, TabB base mg (He.cT K p).1 (He.cT K p).2
  ap : apB K = true
theorem ndN : fldN.Nodup := by decide +kernel
section
variable {P : Program} {w : World} {K : PySem.W.Frag} {mg : PySem.Str → Option Value} {base : Heap}
theorem Kn.mem {f : He.Fa} {i : Nat} (h : fa[i]? = some f) : f ∈ fa := List.mem_of_getElem? h

theorem g_check_card (kn : Kn K mg base) : mg "check_card" = some (.ref (He.ga K "check_card")) := kn.gl _ (Kn.mem (i := 0) rfl)
theorem g_rank_of (kn : Kn K mg base) : mg "rank_of" = some (.ref (He.ga K "rank_of")) := kn.gl _ (Kn.mem (i := 1) rfl)
theorem g_suit_of (kn : Kn K mg base) : mg "suit_of" = some (.ref (He.ga K "suit_of")) := kn.gl _ (Kn.mem (i := 2) rfl)
theorem g_is_red (kn : Kn K mg base) : mg "is_red" = some (.ref (He.ga K "is_red")) := kn.gl _ (Kn.mem (i := 3) rfl)
theorem g_card_of (kn : Kn K mg base) : mg "card_of" = some (.ref (He.ga K "card_of")) := kn.gl _ (Kn.mem (i := 4) rfl)
theorem g_whole_pack (kn : Kn K mg base) : mg "whole_pack" = some (.ref (He.ga K "whole_pack")) := kn.gl _ (Kn.mem (i := 5) rfl)
theorem g_check_cards (kn : Kn K mg base) : mg "check_cards" = some (.ref (He.ga K "check_cards")) := kn.gl _ (Kn.mem (i := 6) rfl)
theorem g_order_of (kn : Kn K mg base) : mg "order_of" = some (.ref (He.ga K "order_of")) := kn.gl _ (Kn.mem (i := 7) rfl)
theorem g_riffled (kn : Kn K mg base) : mg "riffled" = some (.ref (He.ga K "riffled")) := kn.gl _ (Kn.mem (i := 8) rfl)
theorem g_rising_rows (kn : Kn K mg base) : mg "rising_rows" = some (.ref (He.ga K "rising_rows")) := kn.gl _ (Kn.mem (i := 9) rfl)
theorem g_by_colour (kn : Kn K mg base) : mg "by_colour" = some (.ref (He.ga K "by_colour")) := kn.gl _ (Kn.mem (i := 10) rfl)
theorem g_moved_card (kn : Kn K mg base) : mg "moved_card" = some (.ref (He.ga K "moved_card")) := kn.gl _ (Kn.mem (i := 11) rfl)
theorem g__law_flat (kn : Kn K mg base) : mg "_law_flat" = some (.ref (He.ga K "_law_flat")) := kn.gl _ (Kn.mem (i := 12) rfl)
theorem g__law_dice (kn : Kn K mg base) : mg "_law_dice" = some (.ref (He.ga K "_law_dice")) := kn.gl _ (Kn.mem (i := 13) rfl)
theorem g__law_roll (kn : Kn K mg base) : mg "_law_roll" = some (.ref (He.ga K "_law_roll")) := kn.gl _ (Kn.mem (i := 14) rfl)
theorem g__law_rounds (kn : Kn K mg base) : mg "_law_rounds" = some (.ref (He.ga K "_law_rounds")) := kn.gl _ (Kn.mem (i := 15) rfl)
theorem g__law_told (kn : Kn K mg base) : mg "_law_told" = some (.ref (He.ga K "_law_told")) := kn.gl _ (Kn.mem (i := 16) rfl)
theorem g__law_cards (kn : Kn K mg base) : mg "_law_cards" = some (.ref (He.ga K "_law_cards")) := kn.gl _ (Kn.mem (i := 17) rfl)
theorem g__law_key (kn : Kn K mg base) : mg "_law_key" = some (.ref (He.ga K "_law_key")) := kn.gl _ (Kn.mem (i := 18) rfl)
theorem g__law_cases1 (kn : Kn K mg base) : mg "_law_cases1" = some (.ref (He.ga K "_law_cases1")) := kn.gl _ (Kn.mem (i := 19) rfl)
theorem g__law_rest1 (kn : Kn K mg base) : mg "_law_rest1" = some (.ref (He.ga K "_law_rest1")) := kn.gl _ (Kn.mem (i := 20) rfl)
theorem g__law_rest2 (kn : Kn K mg base) : mg "_law_rest2" = some (.ref (He.ga K "_law_rest2")) := kn.gl _ (Kn.mem (i := 21) rfl)
theorem g_law (kn : Kn K mg base) : mg "law" = some (.ref (He.ga K "law")) := kn.gl _ (Kn.mem (i := 22) rfl)
theorem m_abs (kn : Kn K mg base) : mg "abs" = none := kn.fr _ (Kn.mem (i := 23) rfl)
theorem m_enumerate (kn : Kn K mg base) : mg "enumerate" = none := kn.fr _ (Kn.mem (i := 24) rfl)
theorem m_int (kn : Kn K mg base) : mg "int" = none := kn.fr _ (Kn.mem (i := 25) rfl)
theorem m_isinstance (kn : Kn K mg base) : mg "isinstance" = none := kn.fr _ (Kn.mem (i := 26) rfl)
theorem m_len (kn : Kn K mg base) : mg "len" = none := kn.fr _ (Kn.mem (i := 27) rfl)
theorem m_list (kn : Kn K mg base) : mg "list" = none := kn.fr _ (Kn.mem (i := 28) rfl)
theorem m_max (kn : Kn K mg base) : mg "max" = none := kn.fr _ (Kn.mem (i := 29) rfl)
theorem m_range (kn : Kn K mg base) : mg "range" = none := kn.fr _ (Kn.mem (i := 30) rfl)
theorem m_reversed (kn : Kn K mg base) : mg "reversed" = none := kn.fr _ (Kn.mem (i := 31) rfl)
theorem m_str (kn : Kn K mg base) : mg "str" = none := kn.fr _ (Kn.mem (i := 32) rfl)
theorem m_sum (kn : Kn K mg base) : mg "sum" = none := kn.fr _ (Kn.mem (i := 33) rfl)
theorem m_tuple (kn : Kn K mg base) : mg "tuple" = none := kn.fr _ (Kn.mem (i := 34) rfl)
theorem m_super (kn : Kn K mg base) : mg "super" = none := kn.fr _ (Kn.mem (i := 35) rfl)
theorem m_ValueError (kn : Kn K mg base) : mg "ValueError" = none := kn.fr _ (Kn.mem (i := 36) rfl)
theorem g_CardFault (kn : Kn K mg base) : mg "CardFault" = some (.ref (He.ga K "CardFault")) := kn.gl _ (Kn.mem (i := 37) rfl)
theorem g_BadCard (kn : Kn K mg base) : mg "BadCard" = some (.ref (He.ga K "BadCard")) := kn.gl _ (Kn.mem (i := 38) rfl)
theorem g_BadPlan (kn : Kn K mg base) : mg "BadPlan" = some (.ref (He.ga K "BadPlan")) := kn.gl _ (Kn.mem (i := 39) rfl)
theorem g_BadSize (kn : Kn K mg base) : mg "BadSize" = some (.ref (He.ga K "BadSize")) := kn.gl _ (Kn.mem (i := 40) rfl)
theorem g_NoSuch (kn : Kn K mg base) : mg "NoSuch" = some (.ref (He.ga K "NoSuch")) := kn.gl _ (Kn.mem (i := 41) rfl)
theorem g_NoRoom (kn : Kn K mg base) : mg "NoRoom" = some (.ref (He.ga K "NoRoom")) := kn.gl _ (Kn.mem (i := 42) rfl)
theorem g_NoWay (kn : Kn K mg base) : mg "NoWay" = some (.ref (He.ga K "NoWay")) := kn.gl _ (Kn.mem (i := 43) rfl)
theorem g_BadText (kn : Kn K mg base) : mg "BadText" = some (.ref (He.ga K "BadText")) := kn.gl _ (Kn.mem (i := 44) rfl)
theorem g_BadDeed (kn : Kn K mg base) : mg "BadDeed" = some (.ref (He.ga K "BadDeed")) := kn.gl _ (Kn.mem (i := 45) rfl)
theorem g_Pack (kn : Kn K mg base) : mg "Pack" = some (.ref (He.ga K "Pack")) := kn.gl _ (Kn.mem (i := 46) rfl)
theorem cls_Pack (kn : Kn K mg base) : Cls K (He.ga K "Pack") := He.cls_ok (kn.c.fact 47 (f := .cls "Pack") rfl)
theorem mk_Pack (kn : Kn K mg base) : Mk K (He.ga K "Pack") (He.ma K (He.ga K "Pack") "__init__") := He.mkr_ok (kn.c.fact 48 (f := .mkr "Pack") rfl)
theorem na_Pack_cards (kn : Kn K mg base) : NoAttr K (He.ga K "Pack") "cards" := He.noat_ok (kn.c.fact 49 (f := .noat "Pack" "cards") rfl)
theorem mt_Pack_draw (kn : Kn K mg base) : Meth K (He.ga K "Pack") "draw" (He.ma K (He.ga K "Pack") "draw") := He.meth_ok (kn.c.fact 50 (f := .meth "Pack" "draw") rfl)
theorem mt_Pack_bottom (kn : Kn K mg base) : Meth K (He.ga K "Pack") "bottom" (He.ma K (He.ga K "Pack") "bottom") := He.meth_ok (kn.c.fact 51 (f := .meth "Pack" "bottom") rfl)
theorem mt_Pack_put_under (kn : Kn K mg base) : Meth K (He.ga K "Pack") "put_under" (He.ma K (He.ga K "Pack") "put_under") := He.meth_ok (kn.c.fact 52 (f := .meth "Pack" "put_under") rfl)
theorem mt_Pack_put_on (kn : Kn K mg base) : Meth K (He.ga K "Pack") "put_on" (He.ma K (He.ga K "Pack") "put_on") := He.meth_ok (kn.c.fact 53 (f := .meth "Pack" "put_on") rfl)
theorem mt_Pack_cut (kn : Kn K mg base) : Meth K (He.ga K "Pack") "cut" (He.ma K (He.ga K "Pack") "cut") := He.meth_ok (kn.c.fact 54 (f := .meth "Pack" "cut") rfl)
theorem mt_Pack_place_of (kn : Kn K mg base) : Meth K (He.ga K "Pack") "place_of" (He.ma K (He.ga K "Pack") "place_of") := He.meth_ok (kn.c.fact 55 (f := .meth "Pack" "place_of") rfl)
theorem mt_Pack_take_out (kn : Kn K mg base) : Meth K (He.ga K "Pack") "take_out" (He.ma K (He.ga K "Pack") "take_out") := He.meth_ok (kn.c.fact 56 (f := .meth "Pack" "take_out") rfl)
theorem mt_Pack_missing (kn : Kn K mg base) : Meth K (He.ga K "Pack") "missing" (He.ma K (He.ga K "Pack") "missing") := He.meth_ok (kn.c.fact 57 (f := .meth "Pack" "missing") rfl)
theorem mt_Pack_turned (kn : Kn K mg base) : Meth K (He.ga K "Pack") "turned" (He.ma K (He.ga K "Pack") "turned") := He.meth_ok (kn.c.fact 58 (f := .meth "Pack" "turned") rfl)
theorem mt_Pack_shown (kn : Kn K mg base) : Meth K (He.ga K "Pack") "shown" (He.ma K (He.ga K "Pack") "shown") := He.meth_ok (kn.c.fact 59 (f := .meth "Pack" "shown") rfl)
theorem ex_BadCard (kn : Kn K mg base) {X : Cx} (hK : X.K = K) (hm : X.mg = mg) : ExcCls (ktD K mg) X 0 "BadCard" := by
  obtain ⟨c1, c2, c3, c4⟩ := He.exc_ok (kn.c.fact 60 (f := .exc "BadCard") rfl)
  exact ⟨_, _, _, _, _, PySem.F.excBase_ValueError, by rw [hK]; exact c1, by rw [hm]; exact g_BadCard kn, by rw [hK]; exact c2, raises_own (by rw [hK]; exact c3) (by rw [hK]; exact c4), rfl⟩
theorem ex_BadSize (kn : Kn K mg base) {X : Cx} (hK : X.K = K) (hm : X.mg = mg) : ExcCls (ktD K mg) X 1 "BadSize" := by
  obtain ⟨c1, c2, c3, c4⟩ := He.exc_ok (kn.c.fact 61 (f := .exc "BadSize") rfl)
  exact ⟨_, _, _, _, _, PySem.F.excBase_ValueError, by rw [hK]; exact c1, by rw [hm]; exact g_BadSize kn, by rw [hK]; exact c2, raises_own (by rw [hK]; exact c3) (by rw [hK]; exact c4), rfl⟩
theorem ex_NoSuch (kn : Kn K mg base) {X : Cx} (hK : X.K = K) (hm : X.mg = mg) : ExcCls (ktD K mg) X 2 "NoSuch" := by
  obtain ⟨c1, c2, c3, c4⟩ := He.exc_ok (kn.c.fact 62 (f := .exc "NoSuch") rfl)
  exact ⟨_, _, _, _, _, PySem.F.excBase_ValueError, by rw [hK]; exact c1, by rw [hm]; exact g_NoSuch kn, by rw [hK]; exact c2, raises_own (by rw [hK]; exact c3) (by rw [hK]; exact c4), rfl⟩
abbrev c_RANKS : Vl := .str "123456789tjqk"
theorem g_RANKS (kn : Kn K mg base) : GlobIs (ktD K mg) "RANKS" c_RANKS := by
  obtain ⟨t, e⟩ := kn.st _ _ (Kn.mem (i := 87) (f := .str "RANKS" "123456789tjqk") rfl)
  exact ⟨.str "123456789tjqk", _, e, ⟨t, rfl⟩, fun _ => ⟨rfl, by decide +kernel⟩⟩
abbrev c_SUITS : Vl := .str "cdhs"
theorem g_SUITS (kn : Kn K mg base) : GlobIs (ktD K mg) "SUITS" c_SUITS := by
  obtain ⟨t, e⟩ := kn.st _ _ (Kn.mem (i := 88) (f := .str "SUITS" "cdhs") rfl)
  exact ⟨.str "cdhs", _, e, ⟨t, rfl⟩, fun _ => ⟨rfl, by decide +kernel⟩⟩
abbrev toldL (K : PySem.W.Frag) : List (Addr × PySem.Str) := [(He.ga K "BadSize", "size"), (He.ga K "BadCard", "card"), (He.ga K "BadPlan", "plan"), (He.ga K "NoSuch", "no such"), (He.ga K "NoRoom", "no room"), (He.ga K "NoWay", "no way"), (He.ga K "BadText", "text"), (He.ga K "BadDeed", "deed")]
def toldF (c : Ex) : Option PySem.Str := match c.cls with
  | 0 => some "card"
  | 1 => some "size"
  | 2 => some "no such"
  | _ => none
theorem toldF_ok (kn : Kn K mg base) : ∀ c r, toldF c = some r → toldAt K ((ktD K mg).exc c.cls) (toldL K) = some r ∧ okStr r = true := by
  rintro ⟨i, row⟩ r h
  unfold toldF at h
  dsimp only at h
  split at h
  · cases h
    refine ⟨?_, by decide +kernel⟩
    show toldAt K (.ref (He.ga K "BadCard")) _ = _
    simp only [toldAt, He.exm_ok (kn.c.fact 63 (f := .exm "BadCard" "BadSize" false) rfl), He.exm_ok (kn.c.fact 64 (f := .exm "BadCard" "BadCard" true) rfl)]
  · cases h
    refine ⟨?_, by decide +kernel⟩
    show toldAt K (.ref (He.ga K "BadSize")) _ = _
    simp only [toldAt, He.exm_ok (kn.c.fact 71 (f := .exm "BadSize" "BadSize" true) rfl)]
  · cases h
    refine ⟨?_, by decide +kernel⟩
    show toldAt K (.ref (He.ga K "NoSuch")) _ = _
    simp only [toldAt, He.exm_ok (kn.c.fact 79 (f := .exm "NoSuch" "BadSize" false) rfl), He.exm_ok (kn.c.fact 80 (f := .exm "NoSuch" "BadCard" false) rfl), He.exm_ok (kn.c.fact 81 (f := .exm "NoSuch" "BadPlan" false) rfl), He.exm_ok (kn.c.fact 82 (f := .exm "NoSuch" "NoSuch" true) rfl)]
  · cases h
def toldNg : List PySem.Str := ["what"]
theorem sc_told : FnScope toldNg ["what"] (defScope s__law_told) := ⟨rfl, rfl, rfl, by decide +kernel, rfl, by decide +kernel, by decide +kernel⟩
theorem toldD (kn : Kn K mg base) : ToldD (ktD K mg) "_law_told" "what" (He.ga K "_law_told") toldNg (defScope s__law_told) (defBody s__law_told) (toldL K) := by
  obtain ⟨fd, ⟨oc, od, dV, kV, doc, pm, an, cdv, ct, osl, rfl, lk, hcd, hdv, hkw⟩, kp⟩ := kn.c.def_ 27 (d := d__law_told) rfl
  refine ⟨⟨oc, od, _, dV, kV, doc, pm, an, cdv, ct, osl, lk, hcd, ?_⟩, kp, g__law_told kn, sc_told, rfl, .inl rfl⟩
  have hd : dV = .none := by
    rcases hdv with ⟨_, e⟩ | ⟨e, _⟩
    · exact e
    · exact absurd rfl e
  subst hd
  exact .all fun us hl => match us, hl with | [_], _ => rfl
theorem toldH (kn : Kn K mg base) {X : Cx} (hK : X.K = K) (hm : X.mg = mg) (hb : X.base = base) (cdv : Value) (s : Shared) (H : Hp) :
    HdsOk (cxOf C8.CX0 X.prog X.w X.K X.mg X.base toldNg "_law_told" (defScope s__law_told) (He.ga K "_law_told") cdv X.A X.stack s H C8.E0).nox
      ((match defBody s__law_told with | [.Try _ hs _ _ _] => hs | _ => []) ) (hdsL (toldL K)) := by
  have hmg : ∀ x, X.mg x = mg x := fun x => by rw [hm]
  exact (.cons ⟨rfl, by decide, .inl ((hmg _).trans (g_BadSize kn))⟩ (fun a oe cls d pn _ _ => pss_one (ps_ret pe_str))
    (.cons ⟨rfl, by decide, .inl ((hmg _).trans (g_BadCard kn))⟩ (fun a oe cls d pn _ _ => pss_one (ps_ret pe_str))
    (.cons ⟨rfl, by decide, .inl ((hmg _).trans (g_BadPlan kn))⟩ (fun a oe cls d pn _ _ => pss_one (ps_ret pe_str))
    (.cons ⟨rfl, by decide, .inl ((hmg _).trans (g_NoSuch kn))⟩ (fun a oe cls d pn _ _ => pss_one (ps_ret pe_str))
    (.cons ⟨rfl, by decide, .inl ((hmg _).trans (g_NoRoom kn))⟩ (fun a oe cls d pn _ _ => pss_one (ps_ret pe_str))
    (.cons ⟨rfl, by decide, .inl ((hmg _).trans (g_NoWay kn))⟩ (fun a oe cls d pn _ _ => pss_one (ps_ret pe_str))
    (.cons ⟨rfl, by decide, .inl ((hmg _).trans (g_BadText kn))⟩ (fun a oe cls d pn _ _ => pss_one (ps_ret pe_str))
    (.cons ⟨rfl, by decide, .inl ((hmg _).trans (g_BadDeed kn))⟩ (fun a oe cls d pn _ _ => pss_one (ps_ret pe_str))
    .nil))))))))
theorem tabB (kn : Kn K mg base) (i : Nat) {p : He.Defn} (h : tf[i]? = some p) : TabB base mg (He.cT K p).1 (He.cT K p).2 := kn.tb p (List.mem_of_getElem? h)
theorem memT (i : Nat) {p : He.Defn × PySem.Str} (h : tbN[i]? = some p := by rfl) : ((He.cT K p.1).2, p.2) ∈ tblL K := List.mem_map.mpr ⟨p, List.mem_of_getElem? h, rfl⟩
theorem uniqT (kn : Kn K mg base) (i : Nat) {p : He.Defn × PySem.Str} (h : tbN[i]? = some p := by rfl) : ∀ q ∈ tblL K, q.1 = (He.cT K p.1).2 → q.2 = p.2 := by
  intro q hq e
  have nd : (tbN.map fun p => (He.cT K p.1).2).Nodup := of_decide_eq_true kn.ap
  obtain ⟨q', hq', rfl⟩ := List.mem_map.mp hq
  obtain ⟨j, hj, ej⟩ := List.mem_iff_getElem.mp hq'
  have hi := (List.getElem?_eq_some_iff.mp h)
  obtain ⟨hi1, hi2⟩ := hi
  have e2 : (He.cT K tbN[i].1).2 = (He.cT K tbN[j].1).2 := by
    rw [hi2, ej]; exact e.symm
  have pw := List.pairwise_iff_getElem.mp nd
  rcases Nat.lt_trichotomy i j with z | z | z
  · exact absurd (by rw [List.getElem_map, List.getElem_map]; exact e2) (pw i j (by rw [List.length_map]; exact hi1) (by rw [List.length_map]; exact hj) z)
  · subst z
    rw [← ej, hi2]
  · exact absurd (by rw [List.getElem_map, List.getElem_map]; exact e2.symm) (pw j i (by rw [List.length_map]; exact hj) (by rw [List.length_map]; exact hi1) z)

end
def isi_str (n : String) : Option Bool := kitB n "str"
theorem isi_str_ok {K : PySem.W.Frag} : ∀ n b, isi_str n = some b → PySem.W.kitOne K (.type n) (.type "str") = some b := fun n b h => kit_ty h
def isi_int (n : String) : Option Bool := kitB n "int"
theorem isi_int_ok {K : PySem.W.Frag} : ∀ n b, isi_int n = some b → PySem.W.kitOne K (.type n) (.type "int") = some b := fun n b h => kit_ty h
theorem boot_str : bootBuiltins "str" = some (.type "str") := by kernel_rfl
theorem boot_int : bootBuiltins "int" = some (.type "int") := by kernel_rfl
abbrev fuelN : Nat := 4096
end CardH
end
section
set_option maxHeartbeats 0
namespace CardH
open PySem PySem.Spec PyProof.Rows L2 LamX

section
variable {P : Program} {w : World} {K : PySem.W.Frag} {mg : PySem.Str → Option Value} {base : Heap}
def N_check_card : List PySem.Str := ["card"]
def D_check_card : DS := (dIfS (dOr (dNot (dTest (dUn (vIsi "str" isi_str) (dVar 0)))) (dOr (dTB (dBin vNe (dFn oLen (daCons (dVar 0) daNil)) (dC (.int 2)))) (dOr (dTB (dBin vNotInV (dIx (dVar 0) (dC (.int 0))) (dC c_RANKS))) (dTB (dBin vNotInV (dIx (dVar 0) (dC (.int 1))) (dC c_SUITS))))))
    (dRaise (dxC 0))
    dNext)
def M_check_card : FT := runF 1 D_check_card
theorem sc_check_card : FnScope N_check_card ["card"] (defScope s_check_card) := ⟨rfl, rfl, rfl, by decide +kernel, rfl, by decide +kernel, by decide +kernel⟩
theorem F_check_card (kn : Kn K mg base) : DFn P w base (ktD K mg) 1 (He.ga K "check_card") 1 M_check_card := by
  refine DFn.ofD (kt := ktD K mg) (pp := ("check_card", none)) (kn.c.def_ 0 (d := d_check_card) rfl) sc_check_card (fun _ _ _ _ _ _ _ us hl => match us, hl with | [_], _ => rfl) D_check_card (fun A outer s H E W0 hr => ?_)
  have nd : N_check_card.Nodup := sc_check_card.nd
  exact (sss_one (ss_if (st_w (sw_or (st_not (st_val (sx_isi "str" isi_str isi_str_ok (sx_var 0) boot_str (hm := m_isinstance kn) (hmt := m_str kn)))) (sw_or (st_cmp (ops_ne (room_hu hr).1) (sx_fn fn_len (sa_cons (sx_var 0) sa_nil) (hm := m_len kn)) sx_int) (sw_or (st_cmp (ops_notIn (room_hu hr).2.1) (sx_ix (room_hu hr).2.2 (sx_var 0) sx_int) (sx_glob (g_RANKS kn))) (sw_or1 (st_cmp (ops_notIn (room_hu hr).2.1) (sx_ix (room_hu hr).2.2 (sx_var 0) sx_int) (sx_glob (g_SUITS kn))))))))
    (sss_one (ss_raise rfl (smk_own 0 (ex_BadCard kn rfl rfl))))
    sss_nil))
def N_rank_of : List PySem.Str := ["card"]
def D_rank_of : DS := (dSeq (dExpr (dCall 1 M_check_card (daCons (dVar 0) daNil)))
    (dRet (dBin vAdd (dBm tStr oSIx (dC c_RANKS) (daCons (dIx (dVar 0) (dC (.int 0))) daNil)) (dC (.int 1)))))
def M_rank_of : FT := runF 1 D_rank_of
theorem sc_rank_of : FnScope N_rank_of ["card"] (defScope s_rank_of) := ⟨rfl, rfl, rfl, by decide +kernel, rfl, by decide +kernel, by decide +kernel⟩
theorem F_rank_of (kn : Kn K mg base) : DFn P w base (ktD K mg) 2 (He.ga K "rank_of") 1 M_rank_of := by
  refine DFn.ofD (kt := ktD K mg) (pp := ("rank_of", none)) (kn.c.def_ 1 (d := d_rank_of) rfl) sc_rank_of (fun _ _ _ _ _ _ _ us hl => match us, hl with | [_], _ => rfl) D_rank_of (fun A outer s H E W0 hr => ?_)
  have nd : N_rank_of.Nodup := sc_rank_of.nd
  exact (sss_cons (ss_expr (sx_call (F_check_card kn) (hr.mono (by decide)) (g_check_card kn) rfl rfl (sa_cons (sx_var 0) sa_nil)))
    (sss_one (ss_ret (sx_bin ops_add (sx_bm rc_str bm_sidx PySem.F.plainAttrs_str PySem.F.slot_str_index PySem.F.type_str_index (sx_glob (g_RANKS kn)) (sa_cons (sx_ix (room_hu hr).2.2 (sx_var 0) sx_int) sa_nil)) sx_int))))
def N_suit_of : List PySem.Str := ["card"]
def D_suit_of : DS := (dSeq (dExpr (dCall 1 M_check_card (daCons (dVar 0) daNil)))
    (dRet (dIx (dVar 0) (dC (.int 1)))))
def M_suit_of : FT := runF 1 D_suit_of
theorem sc_suit_of : FnScope N_suit_of ["card"] (defScope s_suit_of) := ⟨rfl, rfl, rfl, by decide +kernel, rfl, by decide +kernel, by decide +kernel⟩
theorem F_suit_of (kn : Kn K mg base) : DFn P w base (ktD K mg) 2 (He.ga K "suit_of") 1 M_suit_of := by
  refine DFn.ofD (kt := ktD K mg) (pp := ("suit_of", none)) (kn.c.def_ 2 (d := d_suit_of) rfl) sc_suit_of (fun _ _ _ _ _ _ _ us hl => match us, hl with | [_], _ => rfl) D_suit_of (fun A outer s H E W0 hr => ?_)
  have nd : N_suit_of.Nodup := sc_suit_of.nd
  exact (sss_cons (ss_expr (sx_call (F_check_card kn) (hr.mono (by decide)) (g_check_card kn) rfl rfl (sa_cons (sx_var 0) sa_nil)))
    (sss_one (ss_ret (sx_ix (room_hu hr).2.2 (sx_var 0) sx_int))))
def N_is_red : List PySem.Str := ["card"]
def D_is_red : DS := (dRet (dBin vInV (dCall 1 M_suit_of (daCons (dVar 0) daNil)) (dC (.str "dh"))))
def M_is_red : FT := runF 1 D_is_red
theorem sc_is_red : FnScope N_is_red ["card"] (defScope s_is_red) := ⟨rfl, rfl, rfl, by decide +kernel, rfl, by decide +kernel, by decide +kernel⟩
theorem F_is_red (kn : Kn K mg base) : DFn P w base (ktD K mg) 3 (He.ga K "is_red") 1 M_is_red := by
  refine DFn.ofD (kt := ktD K mg) (pp := ("is_red", none)) (kn.c.def_ 3 (d := d_is_red) rfl) sc_is_red (fun _ _ _ _ _ _ _ us hl => match us, hl with | [_], _ => rfl) D_is_red (fun A outer s H E W0 hr => ?_)
  have nd : N_is_red.Nodup := sc_is_red.nd
  exact (sss_one (ss_ret (sx_cmp (ops_in (room_hu hr).2.1) (sx_call (F_suit_of kn) (hr.mono (by decide)) (g_suit_of kn) rfl rfl (sa_cons (sx_var 0) sa_nil)) sx_str)))
def N_card_of : List PySem.Str := ["number", "sign"]
def D_card_of : DS := (dSeq (dIfS (dOr (dNot (dTB (dChain vLe vLe (dC (.int 1)) (dVar 0) (dC (.int 13))))) (dTB (dBin vNotInV (dVar 1) (dTup (daCons (dC (.str "c")) (daCons (dC (.str "d")) (daCons (dC (.str "h")) (daCons (dC (.str "s")) daNil))))))))
    (dRaise (dxC 2))
    dNext)
    (dRet (dBin vAdd (dIx (dC c_RANKS) (dBin vSub (dVar 0) (dC (.int 1)))) (dVar 1))))
def M_card_of : FT := runF 2 D_card_of
theorem sc_card_of : FnScope N_card_of ["number", "sign"] (defScope s_card_of) := ⟨rfl, rfl, rfl, by decide +kernel, rfl, by decide +kernel, by decide +kernel⟩
theorem F_card_of (kn : Kn K mg base) : DFn P w base (ktD K mg) 1 (He.ga K "card_of") 2 M_card_of := by
  refine DFn.ofD (kt := ktD K mg) (pp := ("card_of", none)) (kn.c.def_ 4 (d := d_card_of) rfl) sc_card_of (fun _ _ _ _ _ _ _ us hl => match us, hl with | [_, _], _ => rfl) D_card_of (fun A outer s H E W0 hr => ?_)
  have nd : N_card_of.Nodup := sc_card_of.nd
  exact (sss_cons (ss_if (st_w (sw_or (st_not (st_chain (ops_le (room_hu hr).1) (ops_le (room_hu hr).1) sx_int (sx_var 0) sx_int)) (sw_or1 (st_cmp (ops_notIn (room_hu hr).2.1) (sx_var 1) (sx_tup (sa_cons sx_str (sa_cons sx_str (sa_cons sx_str (sa_cons sx_str sa_nil)))))))))
    (sss_one (ss_raise rfl (smk_own 2 (ex_NoSuch kn rfl rfl))))
    sss_nil)
    (sss_one (ss_ret (sx_bin ops_add (sx_ix (room_hu hr).2.2 (sx_glob (g_RANKS kn)) (sx_bin ops_sub (sx_var 0) sx_int)) (sx_var 1)))))
def N_whole_pack : List PySem.Str := ["ranks", "found", "sign", "number"]
def D_whole_pack : DS := (dSeq (dIfS (dNot (dTB (dChain vLe vLe (dC (.int 1)) (dVar 0) (dC (.int 13)))))
    (dRaise (dxC 1))
    dNext)
    (dSeq (dAsg (dTup daNil) (gSet 1))
    (dSeq (dFor (diVal (dC c_SUITS)) (gSet 2)
    (dAsg (dBin vAdd (dVar 1) (dFn oTuple (daCons (dLc [3] (diRng rng2 (daCons (dC (.int 1)) (daCons (dBin vAdd (dVar 0) (dC (.int 1))) daNil))) (gSet 3) dYes (dCall 2 M_card_of (daCons (dVar 3) (daCons (dVar 2) daNil)))) daNil))) (gSet 1)))
    (dRet (dVar 1)))))
def M_whole_pack : FT := runF 4 D_whole_pack
theorem sc_whole_pack : FnScope N_whole_pack ["ranks"] (defScope s_whole_pack) := ⟨rfl, rfl, rfl, by decide +kernel, rfl, by decide +kernel, by decide +kernel⟩
theorem F_whole_pack (kn : Kn K mg base) : DFn P w base (ktD K mg) 2 (He.ga K "whole_pack") 1 M_whole_pack := by
  refine DFn.ofD (kt := ktD K mg) (pp := ("whole_pack", none)) (kn.c.def_ 5 (d := d_whole_pack) rfl) sc_whole_pack (fun _ _ _ _ _ _ _ us hl => match us, hl with | [_], _ => rfl) D_whole_pack (fun A outer s H E W0 hr => ?_)
  have nd : N_whole_pack.Nodup := sc_whole_pack.nd
  exact (sss_cons (ss_if (st_not (st_chain (ops_le (room_hu hr).1) (ops_le (room_hu hr).1) sx_int (sx_var 0) sx_int))
    (sss_one (ss_raise rfl (smk_own 1 (ex_BadSize kn rfl rfl))))
    sss_nil)
    (sss_cons (ss_set 1 nd (sx_tup sa_nil))
    (sss_cons (ss_for passes_cx rfl (si_val (sx_glob (g_SUITS kn))) (sg_name 2 nd)
    (sss_one (ss_set 1 nd (sx_bin ops_add (sx_var 1) (sx_ty fn_tuple (sa_cons (sx_lc (own := [("number", 3)]) rfl nd (si_r2 (sa_cons sx_int (sa_cons (sx_bin ops_add (sx_var 0) sx_int) sa_nil)) (hm := m_range kn)) (by kernel_rfl) (fun _ _ _ _ _ => (sg_name 3 nd)) (fun _ _ _ _ _ => sts_nil) (fun _ _ _ _ _ => (sx_call (F_card_of kn) (hr.mono (by decide)) (g_card_of kn) rfl rfl (sa_cons (sx_var 3) (sa_cons (sx_var 2) sa_nil))))) sa_nil) (hm := m_tuple kn))))))
    (sss_one (ss_ret (sx_var 1))))))
def N_check_cards : List PySem.Str := ["cards", "seen", "card"]
def D_check_cards : DS := (dSeq (dOwnD 1)
    (dFor (diVal (dVar 0)) (gSet 2)
    (dSeq (dExpr (dCall 1 M_check_card (daCons (dVar 2) daNil)))
    (dSeq (dIfS (dTB (dBin vInV (dVar 2) (dPk 1)))
    (dRaise (dxC 0))
    dNext)
    (dPutD 1 (dC (.int 1)) (dVar 2))))))
def M_check_cards : FT := runF 3 D_check_cards
theorem sc_check_cards : FnScope N_check_cards ["cards"] (defScope s_check_cards) := ⟨rfl, rfl, rfl, by decide +kernel, rfl, by decide +kernel, by decide +kernel⟩
theorem F_check_cards (kn : Kn K mg base) : DFn P w base (ktD K mg) 2 (He.ga K "check_cards") 1 M_check_cards := by
  refine DFn.ofD (kt := ktD K mg) (pp := ("check_cards", none)) (kn.c.def_ 6 (d := d_check_cards) rfl) sc_check_cards (fun _ _ _ _ _ _ _ us hl => match us, hl with | [_], _ => rfl) D_check_cards (fun A outer s H E W0 hr => ?_)
  have nd : N_check_cards.Nodup := sc_check_cards.nd
  exact (sss_cons (ss_ownD 1 nd)
    (sss_one (ss_for passes_cx rfl (si_val (sx_var 0)) (sg_name 2 nd)
    (sss_cons (ss_expr (sx_call (F_check_card kn) (hr.mono (by decide)) (g_check_card kn) rfl rfl (sa_cons (sx_var 2) sa_nil)))
    (sss_cons (ss_if (st_cmp (ops_in (room_hu hr).2.1) (sx_var 2) (sx_peek 1))
    (sss_one (ss_raise rfl (smk_own 0 (ex_BadCard kn rfl rfl))))
    sss_nil)
    (sss_one (ss_putD 1 rfl (room_hu hr).2.2 sx_int (sx_var 2))))))))
def N_order_of : List PySem.Str := ["card"]
def D_order_of : DS := (dRet (dTup (daCons (dCall 1 M_suit_of (daCons (dVar 0) daNil)) (daCons (dCall 1 M_rank_of (daCons (dVar 0) daNil)) daNil))))
def M_order_of : FT := runF 1 D_order_of
theorem sc_order_of : FnScope N_order_of ["card"] (defScope s_order_of) := ⟨rfl, rfl, rfl, by decide +kernel, rfl, by decide +kernel, by decide +kernel⟩
theorem F_order_of (kn : Kn K mg base) : DFn P w base (ktD K mg) 3 (He.ga K "order_of") 1 M_order_of := by
  refine DFn.ofD (kt := ktD K mg) (pp := ("order_of", none)) (kn.c.def_ 7 (d := d_order_of) rfl) sc_order_of (fun _ _ _ _ _ _ _ us hl => match us, hl with | [_], _ => rfl) D_order_of (fun A outer s H E W0 hr => ?_)
  have nd : N_order_of.Nodup := sc_order_of.nd
  exact (sss_one (ss_ret (sx_tup (sa_cons (sx_call (F_suit_of kn) (hr.mono (by decide)) (g_suit_of kn) rfl rfl (sa_cons (sx_var 0) sa_nil)) (sa_cons (sx_call (F_rank_of kn) (hr.mono (by decide)) (g_rank_of kn) rfl rfl (sa_cons (sx_var 0) sa_nil)) sa_nil)))))
def N_Pack___init__ : List PySem.Str := ["self", "cards"]
def D_Pack___init__ : DS := (dSeq (dExpr (dCall 1 M_check_cards (daCons (dVar 1) daNil)))
    (dSetF 0 0 (dFn oTuple (daCons (dVar 1) daNil)) (dVar 0)))
def M_Pack___init__ : FT := runF 2 D_Pack___init__
theorem sc_Pack___init__ : FnScope N_Pack___init__ ["self", "cards"] (defScope s_Pack___init__) := ⟨rfl, rfl, rfl, by decide +kernel, rfl, by decide +kernel, by decide +kernel⟩
theorem F_Pack___init__ (kn : Kn K mg base) : DFn P w base (ktD K mg) 3 (He.ma K (He.ga K "Pack") "__init__") 2 M_Pack___init__ := by
  refine DFn.ofD (kt := ktD K mg) (pp := ("Pack", some "__init__")) (kn.c.def_ 8 (d := d_Pack___init__) rfl) sc_Pack___init__ (fun _ _ _ _ _ _ _ us hl => match us, hl with | [_, _], _ => rfl) D_Pack___init__ (fun A outer s H E W0 hr => ?_)
  have nd : N_Pack___init__.Nodup := sc_Pack___init__.nd
  exact (sss_cons (ss_expr (sx_call (F_check_cards kn) (hr.mono (by decide)) (g_check_cards kn) rfl rfl (sa_cons (sx_var 1) sa_nil)))
    (sss_one (ss_setF 0 0 ndN rfl (na_Pack_cards kn) (sx_ty fn_tuple (sa_cons (sx_var 1) sa_nil) (hm := m_tuple kn)) (sx_var 0))))
def N_Pack_draw : List PySem.Str := ["self", "many", "found"]
def D_Pack_draw : DS := (dSeq (dIfS (dNot (dTB (dChain vLe vLe (dC (.int 0)) (dVar 1) (dFn oLen (daCons (dFld 0 (dVar 0)) daNil)))))
    (dRaise (dxC 1))
    dNext)
    (dSeq (dAsg (dSl (dFld 0 (dVar 0)) doNone (doSome (dVar 1))) (gSet 2))
    (dSeq (dSetF 0 0 (dSl (dFld 0 (dVar 0)) (doSome (dVar 1)) doNone) (dVar 0))
    (dRet (dVar 2)))))
def M_Pack_draw : FT := runF 3 D_Pack_draw
theorem sc_Pack_draw : FnScope N_Pack_draw ["self", "many"] (defScope s_Pack_draw) := ⟨rfl, rfl, rfl, by decide +kernel, rfl, by decide +kernel, by decide +kernel⟩
theorem F_Pack_draw (kn : Kn K mg base) : DFn P w base (ktD K mg) 1 (He.ma K (He.ga K "Pack") "draw") 2 M_Pack_draw := by
  refine DFn.ofD (kt := ktD K mg) (pp := ("Pack", some "draw")) (kn.c.def_ 9 (d := d_Pack_draw) rfl) sc_Pack_draw (fun _ _ _ _ _ _ _ us hl => match us, hl with | [_, _], _ => rfl) D_Pack_draw (fun A outer s H E W0 hr => ?_)
  have nd : N_Pack_draw.Nodup := sc_Pack_draw.nd
  exact (sss_cons (ss_if (st_not (st_chain (ops_le (room_hu hr).1) (ops_le (room_hu hr).1) sx_int (sx_var 1) (sx_fn fn_len (sa_cons (sx_fld 0 ndN (sx_var 0)) sa_nil) (hm := m_len kn))))
    (sss_one (ss_raise rfl (smk_own 1 (ex_BadSize kn rfl rfl))))
    sss_nil)
    (sss_cons (ss_set 2 nd (sx_sl (sx_fld 0 ndN (sx_var 0)) so_none (so_some (sx_var 1))))
    (sss_cons (ss_setF 0 0 ndN rfl (na_Pack_cards kn) (sx_sl (sx_fld 0 ndN (sx_var 0)) (so_some (sx_var 1)) so_none) (sx_var 0))
    (sss_one (ss_ret (sx_var 2))))))
def N_Pack_bottom : List PySem.Str := ["self", "found"]
def D_Pack_bottom : DS := (dSeq (dIfS (dTB (dBin vEq (dFld 0 (dVar 0)) (dTup daNil)))
    (dRaise (dxC 1))
    dNext)
    (dSeq (dAsg (dIx (dFld 0 (dVar 0)) (dUn vNeg (dC (.int 1)))) (gSet 1))
    (dSeq (dSetF 0 0 (dSl (dFld 0 (dVar 0)) doNone (doSome (dUn vNeg (dC (.int 1))))) (dVar 0))
    (dRet (dVar 1)))))
def M_Pack_bottom : FT := runF 2 D_Pack_bottom
theorem sc_Pack_bottom : FnScope N_Pack_bottom ["self"] (defScope s_Pack_bottom) := ⟨rfl, rfl, rfl, by decide +kernel, rfl, by decide +kernel, by decide +kernel⟩
theorem F_Pack_bottom (kn : Kn K mg base) : DFn P w base (ktD K mg) 1 (He.ma K (He.ga K "Pack") "bottom") 1 M_Pack_bottom := by
  refine DFn.ofD (kt := ktD K mg) (pp := ("Pack", some "bottom")) (kn.c.def_ 10 (d := d_Pack_bottom) rfl) sc_Pack_bottom (fun _ _ _ _ _ _ _ us hl => match us, hl with | [_], _ => rfl) D_Pack_bottom (fun A outer s H E W0 hr => ?_)
  have nd : N_Pack_bottom.Nodup := sc_Pack_bottom.nd
  exact (sss_cons (ss_if (st_cmp (ops_eq (room_hu hr).1) (sx_fld 0 ndN (sx_var 0)) (sx_tup sa_nil))
    (sss_one (ss_raise rfl (smk_own 1 (ex_BadSize kn rfl rfl))))
    sss_nil)
    (sss_cons (ss_set 1 nd (sx_ix (room_hu hr).2.2 (sx_fld 0 ndN (sx_var 0)) (sx_neg sx_int)))
    (sss_cons (ss_setF 0 0 ndN rfl (na_Pack_cards kn) (sx_sl (sx_fld 0 ndN (sx_var 0)) so_none (so_some (sx_neg sx_int))) (sx_var 0))
    (sss_one (ss_ret (sx_var 1))))))
def N_Pack_put_under : List PySem.Str := ["self", "card"]
def D_Pack_put_under : DS := (dSeq (dExpr (dCall 1 M_check_cards (daCons (dBin vAdd (dFld 0 (dVar 0)) (dTup (daCons (dVar 1) daNil))) daNil)))
    (dSetF 0 0 (dBin vAdd (dFld 0 (dVar 0)) (dTup (daCons (dVar 1) daNil))) (dVar 0)))
def M_Pack_put_under : FT := runF 2 D_Pack_put_under
theorem sc_Pack_put_under : FnScope N_Pack_put_under ["self", "card"] (defScope s_Pack_put_under) := ⟨rfl, rfl, rfl, by decide +kernel, rfl, by decide +kernel, by decide +kernel⟩
theorem F_Pack_put_under (kn : Kn K mg base) : DFn P w base (ktD K mg) 3 (He.ma K (He.ga K "Pack") "put_under") 2 M_Pack_put_under := by
  refine DFn.ofD (kt := ktD K mg) (pp := ("Pack", some "put_under")) (kn.c.def_ 11 (d := d_Pack_put_under) rfl) sc_Pack_put_under (fun _ _ _ _ _ _ _ us hl => match us, hl with | [_, _], _ => rfl) D_Pack_put_under (fun A outer s H E W0 hr => ?_)
  have nd : N_Pack_put_under.Nodup := sc_Pack_put_under.nd
  exact (sss_cons (ss_expr (sx_call (F_check_cards kn) (hr.mono (by decide)) (g_check_cards kn) rfl rfl (sa_cons (sx_bin ops_add (sx_fld 0 ndN (sx_var 0)) (sx_tup (sa_cons (sx_var 1) sa_nil))) sa_nil)))
    (sss_one (ss_setF 0 0 ndN rfl (na_Pack_cards kn) (sx_bin ops_add (sx_fld 0 ndN (sx_var 0)) (sx_tup (sa_cons (sx_var 1) sa_nil))) (sx_var 0))))
def N_Pack_put_on : List PySem.Str := ["self", "card"]
def D_Pack_put_on : DS := (dSeq (dExpr (dCall 1 M_check_cards (daCons (dBin vAdd (dTup (daCons (dVar 1) daNil)) (dFld 0 (dVar 0))) daNil)))
    (dSetF 0 0 (dBin vAdd (dTup (daCons (dVar 1) daNil)) (dFld 0 (dVar 0))) (dVar 0)))
def M_Pack_put_on : FT := runF 2 D_Pack_put_on
theorem sc_Pack_put_on : FnScope N_Pack_put_on ["self", "card"] (defScope s_Pack_put_on) := ⟨rfl, rfl, rfl, by decide +kernel, rfl, by decide +kernel, by decide +kernel⟩
theorem F_Pack_put_on (kn : Kn K mg base) : DFn P w base (ktD K mg) 3 (He.ma K (He.ga K "Pack") "put_on") 2 M_Pack_put_on := by
  refine DFn.ofD (kt := ktD K mg) (pp := ("Pack", some "put_on")) (kn.c.def_ 12 (d := d_Pack_put_on) rfl) sc_Pack_put_on (fun _ _ _ _ _ _ _ us hl => match us, hl with | [_, _], _ => rfl) D_Pack_put_on (fun A outer s H E W0 hr => ?_)
  have nd : N_Pack_put_on.Nodup := sc_Pack_put_on.nd
  exact (sss_cons (ss_expr (sx_call (F_check_cards kn) (hr.mono (by decide)) (g_check_cards kn) rfl rfl (sa_cons (sx_bin ops_add (sx_tup (sa_cons (sx_var 1) sa_nil)) (sx_fld 0 ndN (sx_var 0))) sa_nil)))
    (sss_one (ss_setF 0 0 ndN rfl (na_Pack_cards kn) (sx_bin ops_add (sx_tup (sa_cons (sx_var 1) sa_nil)) (sx_fld 0 ndN (sx_var 0))) (sx_var 0))))
def N_Pack_cut : List PySem.Str := ["self", "many"]
def D_Pack_cut : DS := (dSeq (dIfS (dNot (dTB (dChain vLt vLt (dC (.int 0)) (dVar 1) (dFn oLen (daCons (dFld 0 (dVar 0)) daNil)))))
    (dRaise (dxC 1))
    dNext)
    (dSetF 0 0 (dBin vAdd (dSl (dFld 0 (dVar 0)) (doSome (dVar 1)) doNone) (dSl (dFld 0 (dVar 0)) doNone (doSome (dVar 1)))) (dVar 0)))
def M_Pack_cut : FT := runF 2 D_Pack_cut
theorem sc_Pack_cut : FnScope N_Pack_cut ["self", "many"] (defScope s_Pack_cut) := ⟨rfl, rfl, rfl, by decide +kernel, rfl, by decide +kernel, by decide +kernel⟩
theorem F_Pack_cut (kn : Kn K mg base) : DFn P w base (ktD K mg) 1 (He.ma K (He.ga K "Pack") "cut") 2 M_Pack_cut := by
  refine DFn.ofD (kt := ktD K mg) (pp := ("Pack", some "cut")) (kn.c.def_ 13 (d := d_Pack_cut) rfl) sc_Pack_cut (fun _ _ _ _ _ _ _ us hl => match us, hl with | [_, _], _ => rfl) D_Pack_cut (fun A outer s H E W0 hr => ?_)
  have nd : N_Pack_cut.Nodup := sc_Pack_cut.nd
  exact (sss_cons (ss_if (st_not (st_chain (ops_lt (room_hu hr).1) (ops_lt (room_hu hr).1) sx_int (sx_var 1) (sx_fn fn_len (sa_cons (sx_fld 0 ndN (sx_var 0)) sa_nil) (hm := m_len kn))))
    (sss_one (ss_raise rfl (smk_own 1 (ex_BadSize kn rfl rfl))))
    sss_nil)
    (sss_one (ss_setF 0 0 ndN rfl (na_Pack_cards kn) (sx_bin ops_add (sx_sl (sx_fld 0 ndN (sx_var 0)) (so_some (sx_var 1)) so_none) (sx_sl (sx_fld 0 ndN (sx_var 0)) so_none (so_some (sx_var 1)))) (sx_var 0))))
def N_Pack_place_of : List PySem.Str := ["self", "card"]
def D_Pack_place_of : DS := (dSeq (dExpr (dCall 1 M_check_card (daCons (dVar 1) daNil)))
    (dSeq (dIfS (dTB (dBin vNotInV (dVar 1) (dFld 0 (dVar 0))))
    (dRaise (dxC 2))
    dNext)
    (dRet (dBm tTup oTIx (dFld 0 (dVar 0)) (daCons (dVar 1) daNil)))))
def M_Pack_place_of : FT := runF 2 D_Pack_place_of
theorem sc_Pack_place_of : FnScope N_Pack_place_of ["self", "card"] (defScope s_Pack_place_of) := ⟨rfl, rfl, rfl, by decide +kernel, rfl, by decide +kernel, by decide +kernel⟩
theorem F_Pack_place_of (kn : Kn K mg base) : DFn P w base (ktD K mg) 2 (He.ma K (He.ga K "Pack") "place_of") 2 M_Pack_place_of := by
  refine DFn.ofD (kt := ktD K mg) (pp := ("Pack", some "place_of")) (kn.c.def_ 14 (d := d_Pack_place_of) rfl) sc_Pack_place_of (fun _ _ _ _ _ _ _ us hl => match us, hl with | [_, _], _ => rfl) D_Pack_place_of (fun A outer s H E W0 hr => ?_)
  have nd : N_Pack_place_of.Nodup := sc_Pack_place_of.nd
  exact (sss_cons (ss_expr (sx_call (F_check_card kn) (hr.mono (by decide)) (g_check_card kn) rfl rfl (sa_cons (sx_var 1) sa_nil)))
    (sss_cons (ss_if (st_cmp (ops_notIn (room_hu hr).2.1) (sx_var 1) (sx_fld 0 ndN (sx_var 0)))
    (sss_one (ss_raise rfl (smk_own 2 (ex_NoSuch kn rfl rfl))))
    sss_nil)
    (sss_one (ss_ret (sx_bm rc_tup bm_tidx PySem.F.plainAttrs_tuple PySem.F.slot_tuple_index PySem.F.type_tuple_index (sx_fld 0 ndN (sx_var 0)) (sa_cons (sx_var 1) sa_nil))))))
def N_Pack_take_out : List PySem.Str := ["self", "card", "found"]
def D_Pack_take_out : DS := (dSeq (dAsg (dMeth 0 2 M_Pack_place_of (dVar 0) (daCons (dVar 1) daNil)) (gSet 2))
    (dSeq (dSetF 0 0 (dBin vAdd (dSl (dFld 0 (dVar 0)) doNone (doSome (dVar 2))) (dSl (dFld 0 (dVar 0)) (doSome (dBin vAdd (dVar 2) (dC (.int 1)))) doNone)) (dVar 0))
    (dRet (dVar 2))))
def M_Pack_take_out : FT := runF 3 D_Pack_take_out
theorem sc_Pack_take_out : FnScope N_Pack_take_out ["self", "card"] (defScope s_Pack_take_out) := ⟨rfl, rfl, rfl, by decide +kernel, rfl, by decide +kernel, by decide +kernel⟩
theorem F_Pack_take_out (kn : Kn K mg base) : DFn P w base (ktD K mg) 3 (He.ma K (He.ga K "Pack") "take_out") 2 M_Pack_take_out := by
  refine DFn.ofD (kt := ktD K mg) (pp := ("Pack", some "take_out")) (kn.c.def_ 15 (d := d_Pack_take_out) rfl) sc_Pack_take_out (fun _ _ _ _ _ _ _ us hl => match us, hl with | [_, _], _ => rfl) D_Pack_take_out (fun A outer s H E W0 hr => ?_)
  have nd : N_Pack_take_out.Nodup := sc_Pack_take_out.nd
  exact (sss_cons (ss_set 2 nd (sx_meth 0 (mt_Pack_place_of kn) (F_Pack_place_of kn) (hr.mono (by decide)) rfl rfl (sx_var 0) (sa_cons (sx_var 1) sa_nil)))
    (sss_cons (ss_setF 0 0 ndN rfl (na_Pack_cards kn) (sx_bin ops_add (sx_sl (sx_fld 0 ndN (sx_var 0)) so_none (so_some (sx_var 2))) (sx_sl (sx_fld 0 ndN (sx_var 0)) (so_some (sx_bin ops_add (sx_var 2) sx_int)) so_none)) (sx_var 0))
    (sss_one (ss_ret (sx_var 2)))))
def N_Pack_missing : List PySem.Str := ["self", "ranks", "card"]
def D_Pack_missing : DS := (dRet (dFn oTuple (daCons (dLc [2] (diVal (dCall 1 M_whole_pack (daCons (dVar 1) daNil))) (gSet 2) (dTB (dBin vNotInV (dVar 2) (dFld 0 (dVar 0)))) (dVar 2)) daNil)))
def M_Pack_missing : FT := runF 3 D_Pack_missing
theorem sc_Pack_missing : FnScope N_Pack_missing ["self", "ranks"] (defScope s_Pack_missing) := ⟨rfl, rfl, rfl, by decide +kernel, rfl, by decide +kernel, by decide +kernel⟩
theorem F_Pack_missing (kn : Kn K mg base) : DFn P w base (ktD K mg) 3 (He.ma K (He.ga K "Pack") "missing") 2 M_Pack_missing := by
  refine DFn.ofD (kt := ktD K mg) (pp := ("Pack", some "missing")) (kn.c.def_ 16 (d := d_Pack_missing) rfl) sc_Pack_missing (fun _ _ _ _ _ _ _ us hl => match us, hl with | [_, _], _ => rfl) D_Pack_missing (fun A outer s H E W0 hr => ?_)
  have nd : N_Pack_missing.Nodup := sc_Pack_missing.nd
  exact (sss_one (ss_ret (sx_ty fn_tuple (sa_cons (sx_lc (own := [("card", 2)]) rfl nd (si_val (sx_call (F_whole_pack kn) (hr.mono (by decide)) (g_whole_pack kn) rfl rfl (sa_cons (sx_var 1) sa_nil))) (by kernel_rfl) (fun _ _ _ _ _ => (sg_name 2 nd)) (fun _ _ _ _ _ => (sts_one (st_cmp (ops_notIn (room_hu hr).2.1) (sx_var 2) (sx_fld 0 ndN (sx_var 0))))) (fun _ _ _ _ _ => (sx_var 2))) sa_nil) (hm := m_tuple kn))))
def N_Pack_turned : List PySem.Str := ["self"]
def D_Pack_turned : DS := (dRet (dMake 0 2 M_Pack___init__ (daCons (dTupRev (dFld 0 (dVar 0))) daNil)))
def M_Pack_turned : FT := runF 1 D_Pack_turned
theorem sc_Pack_turned : FnScope N_Pack_turned ["self"] (defScope s_Pack_turned) := ⟨rfl, rfl, rfl, by decide +kernel, rfl, by decide +kernel, by decide +kernel⟩
theorem F_Pack_turned (kn : Kn K mg base) : DFn P w base (ktD K mg) 5 (He.ma K (He.ga K "Pack") "turned") 1 M_Pack_turned := by
  refine DFn.ofD (kt := ktD K mg) (pp := ("Pack", some "turned")) (kn.c.def_ 17 (d := d_Pack_turned) rfl) sc_Pack_turned (fun _ _ _ _ _ _ _ us hl => match us, hl with | [_], _ => rfl) D_Pack_turned (fun A outer s H E W0 hr => ?_)
  have nd : N_Pack_turned.Nodup := sc_Pack_turned.nd
  exact (sss_one (ss_ret (sx_make 0 (mk_Pack kn) (cls_Pack kn) (F_Pack___init__ kn) (hr.mono (by decide)) (g_Pack kn) rfl rfl (sa_cons (sx_tupRev rfl (sx_fld 0 ndN (sx_var 0)) (hm := m_tuple kn) (hm2 := m_reversed kn)) sa_nil))))
def N_Pack_shown : List PySem.Str := ["self"]
def D_Pack_shown : DS := (dRet (dFld 0 (dVar 0)))
def M_Pack_shown : FT := runF 1 D_Pack_shown
theorem sc_Pack_shown : FnScope N_Pack_shown ["self"] (defScope s_Pack_shown) := ⟨rfl, rfl, rfl, by decide +kernel, rfl, by decide +kernel, by decide +kernel⟩
theorem F_Pack_shown (kn : Kn K mg base) : DFn P w base (ktD K mg) 1 (He.ma K (He.ga K "Pack") "shown") 1 M_Pack_shown := by
  refine DFn.ofD (kt := ktD K mg) (pp := ("Pack", some "shown")) (kn.c.def_ 18 (d := d_Pack_shown) rfl) sc_Pack_shown (fun _ _ _ _ _ _ _ us hl => match us, hl with | [_], _ => rfl) D_Pack_shown (fun A outer s H E W0 hr => ?_)
  have nd : N_Pack_shown.Nodup := sc_Pack_shown.nd
  exact (sss_one (ss_ret (sx_fld 0 ndN (sx_var 0))))
def N_riffled : List PySem.Str := ["one", "other", "runs", "left", "right", "found", "number", "many"]
def D_riffled : DS := (dSeq (dPar3 3 4 5 (daCons (dFn oList (daCons (dVar 0) daNil)) (daCons (dFn oList (daCons (dVar 1) daNil)) (daCons (dLstO daNil) daNil))))
    (dSeq (dFor (diRng enOfT (daCons (dVar 2) daNil)) (gUn 2 (gsCons (gSet 6) (gsCons (gSet 7) gsNil)))
    (dSeq (dIfS (dTB (dBin vLt (dVar 7) (dC (.int 0))))
    (dRaise (dxC 1))
    dNext)
    (dIfS (dTB (dBin vEq (dBin vMod (dVar 6) (dC (.int 2))) (dC (.int 0))))
    (dSeq (dAugO 5 (dSl (dVar 3) doNone (doSome (dVar 7))))
    (dAsg (dSl (dVar 3) (doSome (dVar 7)) doNone) (gSet 3)))
    (dSeq (dAugO 5 (dSl (dVar 4) doNone (doSome (dVar 7))))
    (dAsg (dSl (dVar 4) (doSome (dVar 7)) doNone) (gSet 4))))))
    (dRet (dFn oTuple (daCons (dBin vAdd (dCat (dVar 5) (dVar 3)) (dVar 4)) daNil)))))
def M_riffled : FT := runF 8 D_riffled
theorem sc_riffled : FnScope N_riffled ["one", "other", "runs"] (defScope s_riffled) := ⟨rfl, rfl, rfl, by decide +kernel, rfl, by decide +kernel, by decide +kernel⟩
theorem F_riffled (kn : Kn K mg base) : DFn P w base (ktD K mg) 1 (He.ga K "riffled") 3 M_riffled := by
  refine DFn.ofD (kt := ktD K mg) (pp := ("riffled", none)) (kn.c.def_ 19 (d := d_riffled) rfl) sc_riffled (fun _ _ _ _ _ _ _ us hl => match us, hl with | [_, _, _], _ => rfl) D_riffled (fun A outer s H E W0 hr => ?_)
  have nd : N_riffled.Nodup := sc_riffled.nd
  exact (sss_cons (ss_par3 3 4 5 rfl nd (sa_cons (sx_ty fn_list (sa_cons (sx_var 0) sa_nil) (hm := m_list kn)) (sa_cons (sx_ty fn_list (sa_cons (sx_var 1) sa_nil) (hm := m_list kn)) (sa_cons (sx_lstO sa_nil) sa_nil))))
    (sss_cons (ss_for passes_cx rfl (si_enT (sa_cons (sx_var 2) sa_nil) (hm := m_enumerate kn)) (sg_tup rfl (sgs_cons (sg_name 6 nd) (sgs_cons (sg_name 7 nd) sgs_nil)))
    (sss_cons (ss_if (st_cmp (ops_lt (room_hu hr).1) (sx_var 7) sx_int)
    (sss_one (ss_raise rfl (smk_own 1 (ex_BadSize kn rfl rfl))))
    sss_nil)
    (sss_one (ss_if (st_cmp (ops_eq (room_hu hr).1) (sx_bin ops_mod (sx_var 6) sx_int) sx_int)
    (sss_cons (ss_augO 5 nd rfl (sx_sl (sx_var 3) so_none (so_some (sx_var 7))))
    (sss_one (ss_set 3 nd (sx_sl (sx_var 3) (so_some (sx_var 7)) so_none))))
    (sss_cons (ss_augO 5 nd rfl (sx_sl (sx_var 4) so_none (so_some (sx_var 7))))
    (sss_one (ss_set 4 nd (sx_sl (sx_var 4) (so_some (sx_var 7)) so_none))))))))
    (sss_one (ss_ret (sx_ty fn_tuple (sa_cons (sx_bin ops_add (sx_cat (sx_var 5) (sx_var 3)) (sx_var 4)) sa_nil) (hm := m_tuple kn))))))
def N_rising_rows : List PySem.Str := ["cards", "k"]
def D_rising_rows : DS := (dSeq (dIfS (dTB (dBin vEq (dFn oLen (daCons (dVar 0) daNil)) (dC (.int 0))))
    (dRet (dC (.int 0)))
    dNext)
    (dRet (dBin vAdd (dC (.int 1)) (dSumG [1] (diRng rng2 (daCons (dC (.int 1)) (daCons (dFn oLen (daCons (dVar 0) daNil)) daNil))) (gSet 1) (dTB (dBin vLt (dCall 1 M_order_of (daCons (dIx (dVar 0) (dVar 1)) daNil)) (dCall 1 M_order_of (daCons (dIx (dVar 0) (dBin vSub (dVar 1) (dC (.int 1)))) daNil)))) (dC (.int 1))))))
def M_rising_rows : FT := runF 2 D_rising_rows
theorem sc_rising_rows : FnScope N_rising_rows ["cards"] (defScope s_rising_rows) := ⟨rfl, rfl, rfl, by decide +kernel, rfl, by decide +kernel, by decide +kernel⟩
theorem F_rising_rows (kn : Kn K mg base) : DFn P w base (ktD K mg) 7 (He.ga K "rising_rows") 1 M_rising_rows := by
  refine DFn.ofD (kt := ktD K mg) (pp := ("rising_rows", none)) (kn.c.def_ 20 (d := d_rising_rows) rfl) sc_rising_rows (fun _ _ _ _ _ _ _ us hl => match us, hl with | [_], _ => rfl) D_rising_rows (fun A outer s H E W0 hr => ?_)
  have nd : N_rising_rows.Nodup := sc_rising_rows.nd
  exact (sss_cons (ss_if (st_cmp (ops_eq (room_hu hr).1) (sx_fn fn_len (sa_cons (sx_var 0) sa_nil) (hm := m_len kn)) sx_int)
    (sss_one (ss_ret sx_int))
    sss_nil)
    (sss_one (ss_ret (sx_bin ops_add sx_int (sx_gsum (k := 3) (own := [("k", 1)]) rfl (gxOk nd (tabB kn 0 rfl) rfl (memT 0) (uniqT kn 0) (hr.mono (by decide)) (by kernel_rfl)) (si_r2 (sa_cons sx_int (sa_cons (sx_fn fn_len (sa_cons (sx_var 0) sa_nil) (hm := m_len kn)) sa_nil)) (hm := m_range kn)) (fun A s H code fp pn hr3 => (sg_name 1 nd)) (fun A s H code fp pn hr3 => (sts_one (st_cmp (ops_lt (room_hu hr3).1) (sx_call (F_order_of kn) (hr3.mono (by decide)) (g_order_of kn) rfl rfl (sa_cons (sx_ix (room_hu hr3).2.2 (sx_var 0) (sx_var 1)) sa_nil)) (sx_call (F_order_of kn) (hr3.mono (by decide)) (g_order_of kn) rfl rfl (sa_cons (sx_ix (room_hu hr3).2.2 (sx_var 0) (sx_bin ops_sub (sx_var 1) sx_int)) sa_nil))))) (fun A s H code fp pn hr3 => sx_int) (m_sum kn))))))
def N_by_colour : List PySem.Str := ["cards", "card"]
def D_by_colour : DS := (dRet (dTup (daCons (dFn oTuple (daCons (dLc [1] (diVal (dVar 0)) (gSet 1) (dTest (dCall 1 M_is_red (daCons (dVar 1) daNil))) (dVar 1)) daNil)) (daCons (dFn oTuple (daCons (dLc [1] (diVal (dVar 0)) (gSet 1) (dNot (dTest (dCall 1 M_is_red (daCons (dVar 1) daNil)))) (dVar 1)) daNil)) daNil))))
def M_by_colour : FT := runF 2 D_by_colour
theorem sc_by_colour : FnScope N_by_colour ["cards"] (defScope s_by_colour) := ⟨rfl, rfl, rfl, by decide +kernel, rfl, by decide +kernel, by decide +kernel⟩
theorem F_by_colour (kn : Kn K mg base) : DFn P w base (ktD K mg) 4 (He.ga K "by_colour") 1 M_by_colour := by
  refine DFn.ofD (kt := ktD K mg) (pp := ("by_colour", none)) (kn.c.def_ 21 (d := d_by_colour) rfl) sc_by_colour (fun _ _ _ _ _ _ _ us hl => match us, hl with | [_], _ => rfl) D_by_colour (fun A outer s H E W0 hr => ?_)
  have nd : N_by_colour.Nodup := sc_by_colour.nd
  exact (sss_one (ss_ret (sx_tup (sa_cons (sx_ty fn_tuple (sa_cons (sx_lc (own := [("card", 1)]) rfl nd (si_val (sx_var 0)) (by kernel_rfl) (fun _ _ _ _ _ => (sg_name 1 nd)) (fun _ _ _ _ _ => (sts_one (st_val (sx_call (F_is_red kn) (hr.mono (by decide)) (g_is_red kn) rfl rfl (sa_cons (sx_var 1) sa_nil))))) (fun _ _ _ _ _ => (sx_var 1))) sa_nil) (hm := m_tuple kn)) (sa_cons (sx_ty fn_tuple (sa_cons (sx_lc (own := [("card", 1)]) rfl nd (si_val (sx_var 0)) (by kernel_rfl) (fun _ _ _ _ _ => (sg_name 1 nd)) (fun _ _ _ _ _ => (sts_one (st_not (st_val (sx_call (F_is_red kn) (hr.mono (by decide)) (g_is_red kn) rfl rfl (sa_cons (sx_var 1) sa_nil)))))) (fun _ _ _ _ _ => (sx_var 1))) sa_nil) (hm := m_tuple kn)) sa_nil)))))
def N_moved_card : List PySem.Str := ["cards", "place", "goal", "rows", "card"]
def D_moved_card : DS := (dSeq (dIfS (dOr (dNot (dTB (dChain vLe vLt (dC (.int 0)) (dVar 1) (dFn oLen (daCons (dVar 0) daNil))))) (dNot (dTB (dChain vLe vLt (dC (.int 0)) (dVar 2) (dFn oLen (daCons (dVar 0) daNil))))))
    (dRaise (dxC 2))
    dNext)
    (dSeq (dAsg (dListO (dVar 0)) (gSet 3))
    (dSeq (dAsg (dBmW oPopAt (dVar 3) (daCons (dVar 1) daNil)) (gSet 4))
    (dSeq (dExpr (dBmW oInsert (dVar 3) (daCons (dVar 2) (daCons (dVar 4) daNil))))
    (dRet (dFn oTuple (daCons (dVar 3) daNil)))))))
def M_moved_card : FT := runF 5 D_moved_card
theorem sc_moved_card : FnScope N_moved_card ["cards", "place", "goal"] (defScope s_moved_card) := ⟨rfl, rfl, rfl, by decide +kernel, rfl, by decide +kernel, by decide +kernel⟩
theorem F_moved_card (kn : Kn K mg base) : DFn P w base (ktD K mg) 1 (He.ga K "moved_card") 3 M_moved_card := by
  refine DFn.ofD (kt := ktD K mg) (pp := ("moved_card", none)) (kn.c.def_ 22 (d := d_moved_card) rfl) sc_moved_card (fun _ _ _ _ _ _ _ us hl => match us, hl with | [_, _, _], _ => rfl) D_moved_card (fun A outer s H E W0 hr => ?_)
  have nd : N_moved_card.Nodup := sc_moved_card.nd
  exact (sss_cons (ss_if (st_w (sw_or (st_not (st_chain (ops_le (room_hu hr).1) (ops_lt (room_hu hr).1) sx_int (sx_var 1) (sx_fn fn_len (sa_cons (sx_var 0) sa_nil) (hm := m_len kn)))) (sw_or1 (st_not (st_chain (ops_le (room_hu hr).1) (ops_lt (room_hu hr).1) sx_int (sx_var 2) (sx_fn fn_len (sa_cons (sx_var 0) sa_nil) (hm := m_len kn)))))))
    (sss_one (ss_raise rfl (smk_own 2 (ex_NoSuch kn rfl rfl))))
    sss_nil)
    (sss_cons (ss_set 3 nd (sx_listO (sx_var 0) (hm := m_list kn)))
    (sss_cons (ss_set 4 nd (sx_bmW bmw_popAt PySem.F.slot_list_pop PySem.F.type_list_pop (sx_var 3) (sa_cons (sx_var 1) sa_nil) rfl))
    (sss_cons (ss_expr (sx_bmW bmw_insert PySem.F.slot_list_insert PySem.F.type_list_insert (sx_var 3) (sa_cons (sx_var 2) (sa_cons (sx_var 4) sa_nil)) rfl))
    (sss_one (ss_ret (sx_ty fn_tuple (sa_cons (sx_var 3) sa_nil) (hm := m_tuple kn))))))))
def T2_0__law_flat : DS := (dAsg (dBin vAdd (dVar 1) (dVar 2)) (gSet 1))
def T1_2__law_flat : DS := (dRet (dVar 1))
def T1_1__law_flat : DS := (dSeq (dFor (diVal (dVar 0)) (gSet 2)
    T2_0__law_flat)
    T1_2__law_flat)
def N__law_flat : List PySem.Str := ["rows", "found", "row"]
def D__law_flat : DS := (dSeq (dAsg (dLst daNil) (gSet 1))
    T1_1__law_flat)
def M__law_flat : FT := runF 3 D__law_flat
theorem sc__law_flat : FnScope N__law_flat ["rows"] (defScope s__law_flat) := ⟨rfl, rfl, rfl, by decide +kernel, rfl, by decide +kernel, by decide +kernel⟩
theorem F__law_flat (kn : Kn K mg base) : DFn P w base (ktD K mg) 1 (He.ga K "_law_flat") 1 M__law_flat := by
  refine DFn.ofD (kt := ktD K mg) (pp := ("_law_flat", none)) (kn.c.def_ 23 (d := d__law_flat) rfl) sc__law_flat (fun _ _ _ _ _ _ _ us hl => match us, hl with | [_], _ => rfl) D__law_flat (fun A outer s H E W0 hr => ?_)
  have nd : N__law_flat.Nodup := sc__law_flat.nd
  exact (sss_cons (ss_set 1 nd (sx_lst sa_nil))
    (sss_cons (ss_for passes_cx rfl (si_val (sx_var 0)) (sg_name 2 nd)
    (sss_one (ss_set 1 nd (sx_bin ops_add (sx_var 1) (sx_var 2)))))
    (sss_one (ss_ret (sx_var 1)))))
def N__law_dice : List PySem.Str := ["cell"]
def D__law_dice : DS := (dSeq (dIfS (dTB (dChain vLt vLt (dBin vSub (dC (.int 0)) (dC (.int 10))) (dVar 0) (dC (.int 10))))
    (dRetO (daCons (dFn oAbs (daCons (dVar 0) daNil)) (daCons (dC (.int 0)) (daCons (dC (.int 2)) daNil))))
    dNext)
    (dRetO (daCons (dVar 0) (daCons (dBin vAdd (dC (.int 1)) (dBin vMod (dFn oInt (daCons (dVar 0) daNil)) (dC (.int 1009)))) (daCons (dFn oInt (daCons (dBin vGe (dVar 0) (dBin vPow (dC (.int 10)) (dC (.int 18)))) daNil)) daNil)))))
def M__law_dice : FT := runF 1 D__law_dice
theorem sc__law_dice : FnScope N__law_dice ["cell"] (defScope s__law_dice) := ⟨rfl, rfl, rfl, by decide +kernel, rfl, by decide +kernel, by decide +kernel⟩
theorem F__law_dice (kn : Kn K mg base) : DFn P w base (ktD K mg) 1 (He.ga K "_law_dice") 1 M__law_dice := by
  refine DFn.ofD (kt := ktD K mg) (pp := ("_law_dice", none)) (kn.c.def_ 24 (d := d__law_dice) rfl) sc__law_dice (fun _ _ _ _ _ _ _ us hl => match us, hl with | [_], _ => rfl) D__law_dice (fun A outer s H E W0 hr => ?_)
  have nd : N__law_dice.Nodup := sc__law_dice.nd
  exact (sss_cons (ss_if (st_chain (ops_lt (room_hu hr).1) (ops_lt (room_hu hr).1) (sx_bin ops_sub sx_int sx_int) (sx_var 0) sx_int)
    (sss_one (ss_retO (sa_cons (sx_fn fn_abs (sa_cons (sx_var 0) sa_nil) (hm := m_abs kn)) (sa_cons sx_int (sa_cons sx_int sa_nil)))))
    sss_nil)
    (sss_one (ss_retO (sa_cons (sx_var 0) (sa_cons (sx_bin ops_add sx_int (sx_bin ops_mod (sx_ty fn_int (sa_cons (sx_var 0) sa_nil) (hm := m_int kn)) sx_int)) (sa_cons (sx_ty fn_int (sa_cons (sx_cmp (ops_ge (room_hu hr).1) (sx_var 0) (sx_bin ops_pow sx_int sx_int)) sa_nil) (hm := m_int kn)) sa_nil))))))
def N__law_roll : List PySem.Str := ["dice", "many", "found"]
def D__law_roll : DS := (dSeq (dIfS (dOr (dTB (dBin vEq (dIx (dVar 0) (dC (.int 2))) (dC (.int 2)))) (dAnd (dTB (dBin vEq (dIx (dVar 0) (dC (.int 2))) (dC (.int 1)))) (dTB (dBin vGt (dIx (dVar 0) (dC (.int 0))) (dC (.int 0))))))
    (dSeq (dAsg (dBin vMod (dFn oInt (daCons (dIx (dVar 0) (dC (.int 0))) daNil)) (dVar 1)) (gSet 2))
    (dSeq (dSetO (dBin vFdiv (dIx (dVar 0) (dC (.int 0))) (dVar 1)) (dVar 0) (dC (.int 0)))
    (dRet (dVar 2))))
    dNext)
    (dSeq (dSetO (dC (.int 0)) (dVar 0) (dC (.int 2)))
    (dSeq (dSetO (dBin vMod (dFn oInt (daCons (dBin vAdd (dBin vAdd (dBin vMul (dIx (dVar 0) (dC (.int 0))) (dC (.int 48271))) (dBin vMul (dIx (dVar 0) (dC (.int 1))) (dC (.int 69621)))) (dC (.int 11))) daNil)) (dC (.int 2147483647))) (dVar 0) (dC (.int 0)))
    (dSeq (dSetO (dBin vAdd (dIx (dVar 0) (dC (.int 1))) (dC (.int 1))) (dVar 0) (dC (.int 1)))
    (dRet (dBin vMod (dFn oInt (daCons (dBin vAdd (dBin vFdiv (dIx (dVar 0) (dC (.int 0))) (dC (.int 7))) (dIx (dVar 0) (dC (.int 0)))) daNil)) (dVar 1)))))))
def M__law_roll : FT := runF 3 D__law_roll
theorem sc__law_roll : FnScope N__law_roll ["dice", "many"] (defScope s__law_roll) := ⟨rfl, rfl, rfl, by decide +kernel, rfl, by decide +kernel, by decide +kernel⟩
theorem F__law_roll (kn : Kn K mg base) : DFn P w base (ktD K mg) 1 (He.ga K "_law_roll") 2 M__law_roll := by
  refine DFn.ofD (kt := ktD K mg) (pp := ("_law_roll", none)) (kn.c.def_ 25 (d := d__law_roll) rfl) sc__law_roll (fun _ _ _ _ _ _ _ us hl => match us, hl with | [_, _], _ => rfl) D__law_roll (fun A outer s H E W0 hr => ?_)
  have nd : N__law_roll.Nodup := sc__law_roll.nd
  exact (sss_cons (ss_if (st_w (sw_or (st_cmp (ops_eq (room_hu hr).1) (sx_ix (room_hu hr).2.2 (sx_var 0) sx_int) sx_int) (sw_or1 (st_w (sw_and (st_cmp (ops_eq (room_hu hr).1) (sx_ix (room_hu hr).2.2 (sx_var 0) sx_int) sx_int) (sw_and1 (st_cmp (ops_gt (room_hu hr).1) (sx_ix (room_hu hr).2.2 (sx_var 0) sx_int) sx_int)))))))
    (sss_cons (ss_set 2 nd (sx_bin ops_mod (sx_ty fn_int (sa_cons (sx_ix (room_hu hr).2.2 (sx_var 0) sx_int) sa_nil) (hm := m_int kn)) (sx_var 1)))
    (sss_cons (ss_setO rfl (sx_bin ops_fdiv (sx_ix (room_hu hr).2.2 (sx_var 0) sx_int) (sx_var 1)) (sx_var 0) sx_int)
    (sss_one (ss_ret (sx_var 2)))))
    sss_nil)
    (sss_cons (ss_setO rfl sx_int (sx_var 0) sx_int)
    (sss_cons (ss_setO rfl (sx_bin ops_mod (sx_ty fn_int (sa_cons (sx_bin ops_add (sx_bin ops_add (sx_bin ops_mul (sx_ix (room_hu hr).2.2 (sx_var 0) sx_int) sx_int) (sx_bin ops_mul (sx_ix (room_hu hr).2.2 (sx_var 0) sx_int) sx_int)) sx_int) sa_nil) (hm := m_int kn)) sx_int) (sx_var 0) sx_int)
    (sss_cons (ss_setO rfl (sx_bin ops_add (sx_ix (room_hu hr).2.2 (sx_var 0) sx_int) sx_int) (sx_var 0) sx_int)
    (sss_one (ss_ret (sx_bin ops_mod (sx_ty fn_int (sa_cons (sx_bin ops_add (sx_bin ops_fdiv (sx_ix (room_hu hr).2.2 (sx_var 0) sx_int) sx_int) (sx_ix (room_hu hr).2.2 (sx_var 0) sx_int)) sa_nil) (hm := m_int kn)) (sx_var 1))))))))
def N__law_rounds : List PySem.Str := ["script", "most", "cells", "cell"]
def D__law_rounds : DS := (dSeq (dAsg (dSl (dVar 0) doNone (doSome (dVar 1))) (gSet 2))
    (dSeq (dIfS (dTB (dBin vEq (dVar 2) (dLst daNil)))
    (dAsg (dLst (daCons (dC (.int 0)) daNil)) (gSet 2))
    dNext)
    (dRet (dLc [3] (diVal (dVar 2)) (gSet 3) dYes (dCall 1 M__law_dice (daCons (dVar 3) daNil))))))
def M__law_rounds : FT := runF 4 D__law_rounds
theorem sc__law_rounds : FnScope N__law_rounds ["script", "most"] (defScope s__law_rounds) := ⟨rfl, rfl, rfl, by decide +kernel, rfl, by decide +kernel, by decide +kernel⟩
theorem F__law_rounds (kn : Kn K mg base) : DFn P w base (ktD K mg) 2 (He.ga K "_law_rounds") 2 M__law_rounds := by
  refine DFn.ofD (kt := ktD K mg) (pp := ("_law_rounds", none)) (kn.c.def_ 26 (d := d__law_rounds) rfl) sc__law_rounds (fun _ _ _ _ _ _ _ us hl => match us, hl with | [_, _], _ => rfl) D__law_rounds (fun A outer s H E W0 hr => ?_)
  have nd : N__law_rounds.Nodup := sc__law_rounds.nd
  exact (sss_cons (ss_set 2 nd (sx_sl (sx_var 0) so_none (so_some (sx_var 1))))
    (sss_cons (ss_if (st_cmp (ops_eq (room_hu hr).1) (sx_var 2) (sx_lst sa_nil))
    (sss_one (ss_set 2 nd (sx_lst (sa_cons sx_int sa_nil))))
    sss_nil)
    (sss_one (ss_ret (sx_lc (own := [("cell", 3)]) rfl nd (si_val (sx_var 2)) (by kernel_rfl) (fun _ _ _ _ _ => (sg_name 3 nd)) (fun _ _ _ _ _ => sts_nil) (fun _ _ _ _ _ => (sx_call (F__law_dice kn) (hr.mono (by decide)) (g__law_dice kn) rfl rfl (sa_cons (sx_var 3) sa_nil))))))))
def N__law_cards : List PySem.Str := ["dice", "many", "ranks", "sign", "k", "left", "found", "card", "rank", "one"]
def D__law_cards : DS := (dSeq (dPar 5 6 (daCons (dLst daNil) (daCons (dLst daNil) daNil)))
    (dSeq (dFor (diVal (dC (.str "cdhs"))) (gSet 3)
    (dAsg (dBin vAdd (dVar 5) (dLc [8] (diVal (dSl (dC (.str "123456789tjqk")) doNone (doSome (dVar 2)))) (gSet 8) dYes (dBin vAdd (dVar 8) (dVar 3)))) (gSet 5)))
    (dSeq (dFor (diRng rng1 (daCons (dVar 1) daNil)) (gSet 4)
    (dSeq (dAsg (dIx (dVar 5) (dCall 2 M__law_roll (daCons (dVar 0) (daCons (dFn oLen (daCons (dVar 5) daNil)) daNil)))) (gSet 7))
    (dPar 5 6 (daCons (dLc [9] (diVal (dVar 5)) (gSet 9) (dTB (dBin vNe (dVar 9) (dVar 7))) (dVar 9)) (daCons (dBin vAdd (dVar 6) (dLst (daCons (dVar 7) daNil))) daNil)))))
    (dRet (dVar 6)))))
def M__law_cards : FT := runF 10 D__law_cards
theorem sc__law_cards : FnScope N__law_cards ["dice", "many", "ranks"] (defScope s__law_cards) := ⟨rfl, rfl, rfl, by decide +kernel, rfl, by decide +kernel, by decide +kernel⟩
theorem F__law_cards (kn : Kn K mg base) : DFn P w base (ktD K mg) 2 (He.ga K "_law_cards") 3 M__law_cards := by
  refine DFn.ofD (kt := ktD K mg) (pp := ("_law_cards", none)) (kn.c.def_ 28 (d := d__law_cards) rfl) sc__law_cards (fun _ _ _ _ _ _ _ us hl => match us, hl with | [_, _, _], _ => rfl) D__law_cards (fun A outer s H E W0 hr => ?_)
  have nd : N__law_cards.Nodup := sc__law_cards.nd
  exact (sss_cons (ss_par 5 6 rfl nd (sa_cons (sx_lst sa_nil) (sa_cons (sx_lst sa_nil) sa_nil)))
    (sss_cons (ss_for passes_cx rfl (si_val sx_str) (sg_name 3 nd)
    (sss_one (ss_set 5 nd (sx_bin ops_add (sx_var 5) (sx_lc (own := [("rank", 8)]) rfl nd (si_val (sx_sl sx_str so_none (so_some (sx_var 2)))) (by kernel_rfl) (fun _ _ _ _ _ => (sg_name 8 nd)) (fun _ _ _ _ _ => sts_nil) (fun _ _ _ _ _ => (sx_bin ops_add (sx_var 8) (sx_var 3))))))))
    (sss_cons (ss_for passes_cx rfl (si_r1 (sa_cons (sx_var 1) sa_nil) (hm := m_range kn)) (sg_name 4 nd)
    (sss_cons (ss_set 7 nd (sx_ix (room_hu hr).2.2 (sx_var 5) (sx_call (F__law_roll kn) (hr.mono (by decide)) (g__law_roll kn) rfl rfl (sa_cons (sx_var 0) (sa_cons (sx_fn fn_len (sa_cons (sx_var 5) sa_nil) (hm := m_len kn)) sa_nil)))))
    (sss_one (ss_par 5 6 rfl nd (sa_cons (sx_lc (own := [("one", 9)]) rfl nd (si_val (sx_var 5)) (by kernel_rfl) (fun _ _ _ _ _ => (sg_name 9 nd)) (fun _ _ _ _ _ => (sts_one (st_cmp (ops_ne (room_hu hr).1) (sx_var 9) (sx_var 7)))) (fun _ _ _ _ _ => (sx_var 9))) (sa_cons (sx_bin ops_add (sx_var 6) (sx_lst (sa_cons (sx_var 7) sa_nil))) sa_nil))))))
    (sss_one (ss_ret (sx_var 6))))))
def N__law_key : List PySem.Str := ["card"]
def D__law_key : DS := (dRet (dTup (daCons (dSl (dVar 0) (doSome (dC (.int 1))) doNone) (daCons (dBin vAdd (dBm tStr oSIx (dC (.str "123456789tjqk")) (daCons (dSl (dVar 0) doNone (doSome (dC (.int 1)))) daNil)) (dC (.int 1))) daNil))))
def M__law_key : FT := runF 1 D__law_key
theorem sc__law_key : FnScope N__law_key ["card"] (defScope s__law_key) := ⟨rfl, rfl, rfl, by decide +kernel, rfl, by decide +kernel, by decide +kernel⟩
theorem F__law_key (kn : Kn K mg base) : DFn P w base (ktD K mg) 1 (He.ga K "_law_key") 1 M__law_key := by
  refine DFn.ofD (kt := ktD K mg) (pp := ("_law_key", none)) (kn.c.def_ 29 (d := d__law_key) rfl) sc__law_key (fun _ _ _ _ _ _ _ us hl => match us, hl with | [_], _ => rfl) D__law_key (fun A outer s H E W0 hr => ?_)
  have nd : N__law_key.Nodup := sc__law_key.nd
  exact (sss_one (ss_ret (sx_tup (sa_cons (sx_sl (sx_var 0) (so_some sx_int) so_none) (sa_cons (sx_bin ops_add (sx_bm rc_str bm_sidx PySem.F.plainAttrs_str PySem.F.slot_str_index PySem.F.type_str_index sx_str (sa_cons (sx_sl (sx_var 0) so_none (so_some sx_int)) sa_nil)) sx_int) sa_nil)))))
def T1_6__law_cases1 : DS := (dRet (dC (.bl true)))
def T1_5__law_cases1 : DS := (dSeq (dIfS (dTB (dBin vNe (dTold toldF (dCall 1 M_suit_of (daCons (dC (.str "1x")) daNil))) (dC (.str "card"))))
    (dRet (dC (.bl false)))
    dNext)
    T1_6__law_cases1)
def T1_4__law_cases1 : DS := (dSeq (dIfS (dTB (dBin vNe (dTold toldF (dCall 3 M_riffled (daCons (dLst daNil) (daCons (dLst daNil) (daCons (dLst (daCons (dBin vSub (dC (.int 0)) (dC (.int 1))) daNil)) daNil))))) (dC (.str "size"))))
    (dRet (dC (.bl false)))
    dNext)
    T1_5__law_cases1)
def T1_3__law_cases1 : DS := (dSeq (dIfS (dTB (dBin vNe (dTold toldF (dCall 1 M_whole_pack (daCons (dC (.int 0)) daNil))) (dC (.str "size"))))
    (dRet (dC (.bl false)))
    dNext)
    T1_4__law_cases1)
def T1_2__law_cases1 : DS := (dSeq (dIfS (dTB (dBin vNe (dTold toldF (dCall 2 M_card_of (daCons (dC (.int 0)) (daCons (dC (.str "c")) daNil)))) (dC (.str "no such"))))
    (dRet (dC (.bl false)))
    dNext)
    T1_3__law_cases1)
def T1_1__law_cases1 : DS := (dSeq (dIfS (dTB (dBin vNe (dTold toldF (dCall 1 M_check_cards (daCons (dLst (daCons (dC (.str "1c")) (daCons (dC (.str "1c")) daNil))) daNil))) (dC (.str "card"))))
    (dRet (dC (.bl false)))
    dNext)
    T1_2__law_cases1)
def N__law_cases1 : List PySem.Str := []
def D__law_cases1 : DS := (dSeq (dIfS (dTB (dBin vNe (dTold toldF (dCall 1 M_rank_of (daCons (dC (.str "xx")) daNil))) (dC (.str "card"))))
    (dRet (dC (.bl false)))
    dNext)
    T1_1__law_cases1)
def M__law_cases1 : FT := runF 0 D__law_cases1
theorem sc__law_cases1 : FnScope N__law_cases1 [] (defScope s__law_cases1) := ⟨rfl, rfl, rfl, by decide +kernel, rfl, by decide +kernel, by decide +kernel⟩
theorem F__law_cases1 (kn : Kn K mg base) : DFn P w base (ktD K mg) 5 (He.ga K "_law_cases1") 0 M__law_cases1 := by
  refine DFn.ofD (kt := ktD K mg) (pp := ("_law_cases1", none)) (kn.c.def_ 30 (d := d__law_cases1) rfl) sc__law_cases1 (fun _ _ _ _ _ _ _ us hl => match us, hl with | [], _ => rfl) D__law_cases1 (fun A outer s H E W0 hr => ?_)
  have nd : N__law_cases1.Nodup := sc__law_cases1.nd
  exact (sss_cons (ss_if (st_cmp (ops_ne (room_hu hr).1) (sx_told (k := 2) rfl (toldD kn) (by intro cdv s H; exact toldH kn rfl rfl rfl cdv s H) (toldF_ok kn) (tabB kn 1 rfl) rfl (memT 1) (uniqT kn 1) (hr.mono (by decide)) (by kernel_rfl) (fun A outer s H E f c' hr2 => (sx_call (F_rank_of kn) (hr2.mono (by decide)) (g_rank_of kn) rfl rfl (sa_cons sx_str sa_nil)))) sx_str)
    (sss_one (ss_ret sx_bl))
    sss_nil)
    (sss_cons (ss_if (st_cmp (ops_ne (room_hu hr).1) (sx_told (k := 2) rfl (toldD kn) (by intro cdv s H; exact toldH kn rfl rfl rfl cdv s H) (toldF_ok kn) (tabB kn 1 rfl) rfl (memT 1) (uniqT kn 1) (hr.mono (by decide)) (by kernel_rfl) (fun A outer s H E f c' hr2 => (sx_call (F_check_cards kn) (hr2.mono (by decide)) (g_check_cards kn) rfl rfl (sa_cons (sx_lst (sa_cons sx_str (sa_cons sx_str sa_nil))) sa_nil)))) sx_str)
    (sss_one (ss_ret sx_bl))
    sss_nil)
    (sss_cons (ss_if (st_cmp (ops_ne (room_hu hr).1) (sx_told (k := 1) rfl (toldD kn) (by intro cdv s H; exact toldH kn rfl rfl rfl cdv s H) (toldF_ok kn) (tabB kn 1 rfl) rfl (memT 1) (uniqT kn 1) (hr.mono (by decide)) (by kernel_rfl) (fun A outer s H E f c' hr2 => (sx_call (F_card_of kn) (hr2.mono (by decide)) (g_card_of kn) rfl rfl (sa_cons sx_int (sa_cons sx_str sa_nil))))) sx_str)
    (sss_one (ss_ret sx_bl))
    sss_nil)
    (sss_cons (ss_if (st_cmp (ops_ne (room_hu hr).1) (sx_told (k := 2) rfl (toldD kn) (by intro cdv s H; exact toldH kn rfl rfl rfl cdv s H) (toldF_ok kn) (tabB kn 1 rfl) rfl (memT 1) (uniqT kn 1) (hr.mono (by decide)) (by kernel_rfl) (fun A outer s H E f c' hr2 => (sx_call (F_whole_pack kn) (hr2.mono (by decide)) (g_whole_pack kn) rfl rfl (sa_cons sx_int sa_nil)))) sx_str)
    (sss_one (ss_ret sx_bl))
    sss_nil)
    (sss_cons (ss_if (st_cmp (ops_ne (room_hu hr).1) (sx_told (k := 1) rfl (toldD kn) (by intro cdv s H; exact toldH kn rfl rfl rfl cdv s H) (toldF_ok kn) (tabB kn 1 rfl) rfl (memT 1) (uniqT kn 1) (hr.mono (by decide)) (by kernel_rfl) (fun A outer s H E f c' hr2 => (sx_call (F_riffled kn) (hr2.mono (by decide)) (g_riffled kn) rfl rfl (sa_cons (sx_lst sa_nil) (sa_cons (sx_lst sa_nil) (sa_cons (sx_lst (sa_cons (sx_bin ops_sub sx_int sx_int) sa_nil)) sa_nil)))))) sx_str)
    (sss_one (ss_ret sx_bl))
    sss_nil)
    (sss_cons (ss_if (st_cmp (ops_ne (room_hu hr).1) (sx_told (k := 2) rfl (toldD kn) (by intro cdv s H; exact toldH kn rfl rfl rfl cdv s H) (toldF_ok kn) (tabB kn 1 rfl) rfl (memT 1) (uniqT kn 1) (hr.mono (by decide)) (by kernel_rfl) (fun A outer s H E f c' hr2 => (sx_call (F_suit_of kn) (hr2.mono (by decide)) (g_suit_of kn) rfl rfl (sa_cons sx_str sa_nil)))) sx_str)
    (sss_one (ss_ret sx_bl))
    sss_nil)
    (sss_one (ss_ret sx_bl))))))))
def C1__law_rest1 : DE := (dLc [17] (diVal (dVar 2)) (gSet 17) (dTB (dBin vNotInV (dVar 17) (dVar 4))) (dVar 17))
def C2__law_rest1 : DE := (dLc [6] (diRng rng1 (daCons (dFn oLen (daCons (dVar 4) daNil)) daNil)) (gSet 6) dYes (dIx (dVar 4) (dBin vSub (dBin vSub (dFn oLen (daCons (dVar 4) daNil)) (dC (.int 1))) (dVar 6))))
def C3__law_rest1 : DE := (dLc [6] (diRng rng1 (daCons (dCall 2 M__law_roll (daCons (dVar 0) (daCons (dC (.int 6)) daNil))) daNil)) (gSet 6) dYes (dCall 2 M__law_roll (daCons (dVar 0) (daCons (dC (.int 4)) daNil))))
def T4_0__law_rest1 : DS := (dIfS (dTB (dBin vEq (dBin vMod (dVar 6) (dC (.int 2))) (dC (.int 0))))
    (dPar 12 13 (daCons (dBin vAdd (dVar 12) (dSl (dVar 13) doNone (doSome (dIx (dVar 11) (dVar 6))))) (daCons (dSl (dVar 13) (doSome (dIx (dVar 11) (dVar 6))) doNone) daNil)))
    (dPar 12 14 (daCons (dBin vAdd (dVar 12) (dSl (dVar 14) doNone (doSome (dIx (dVar 11) (dVar 6))))) (daCons (dSl (dVar 14) (doSome (dIx (dVar 11) (dVar 6))) doNone) daNil))))
def C4__law_rest1 : DE := (dLc [6] (diRng rng2 (daCons (dC (.int 1)) (daCons (dFn oLen (daCons (dVar 3) daNil)) daNil))) (gSet 6) (dTB (dBin vLt (dCall 1 M__law_key (daCons (dIx (dVar 3) (dVar 6)) daNil)) (dCall 1 M__law_key (daCons (dIx (dVar 3) (dBin vSub (dVar 6) (dC (.int 1)))) daNil)))) (dVar 6))
def C5__law_rest1 : DE := (dLc [18] (diVal (dCall 1 M_by_colour (daCons (dVar 3) daNil))) (gSet 18) dYes (dFn oList (daCons (dVar 18) daNil)))
def C6__law_rest1 : DE := (dLc [17] (diVal (dVar 3)) (gSet 17) (dTB (dBin vInV (dSl (dVar 17) (doSome (dC (.int 1))) doNone) (dC (.str "cs")))) (dVar 17))
def C7__law_rest1 : DE := (dLc [17] (diVal (dVar 3)) (gSet 17) (dTB (dBin vInV (dSl (dVar 17) (doSome (dC (.int 1))) doNone) (dC (.str "dh")))) (dVar 17))
def T1_14__law_rest1 : DS := (dRet (dC (.bl true)))
def T1_13__law_rest1 : DS := (dSeq (dIfS (dNot (dTest (dCall 0 M__law_cases1 daNil)))
    (dRet (dC (.bl false)))
    dNext)
    T1_14__law_rest1)
def T1_12__law_rest1 : DS := (dSeq (dIfS (dTB (dBin vNe (dTold toldF (dFn oList (daCons (dCall 3 M_moved_card (daCons (dVar 3) (daCons (dVar 15) (daCons (dVar 16) daNil)))) daNil))) (dVar 9)))
    (dRet (dC (.bl false)))
    dNext)
    T1_13__law_rest1)
def T1_11__law_rest1 : DS := (dSeq (dAsg (dIf (dTB (dBin vLt (dFn oMax2 (daCons (dVar 15) (daCons (dVar 16) daNil))) (dFn oLen (daCons (dVar 3) daNil)))) (dBin vAdd (dBin vAdd (dSl (dVar 8) doNone (doSome (dVar 16))) (dSl (dVar 3) (doSome (dVar 15)) (doSome (dBin vAdd (dVar 15) (dC (.int 1)))))) (dSl (dVar 8) (doSome (dVar 16)) doNone)) (dC (.str "no such"))) (gSet 9))
    T1_12__law_rest1)
def T1_10__law_rest1 : DS := (dSeq (dAsg (dBin vAdd (dSl (dVar 3) doNone (doSome (dVar 15))) (dSl (dVar 3) (doSome (dBin vAdd (dVar 15) (dC (.int 1)))) doNone)) (gSet 8))
    T1_11__law_rest1)
def T1_9__law_rest1 : DS := (dSeq (dAsg (dTup (daCons (dCall 2 M__law_roll (daCons (dVar 0) (daCons (dC (.int 10)) daNil))) (daCons (dCall 2 M__law_roll (daCons (dVar 0) (daCons (dC (.int 10)) daNil))) daNil))) (gUn 2 (gsCons (gSet 15) (gsCons (gSet 16) gsNil))))
    T1_10__law_rest1)
def T1_8__law_rest1 : DS := (dSeq (dIfS (dTB (dBin vNe C5__law_rest1 (dLst (daCons C7__law_rest1 (daCons C6__law_rest1 daNil)))))
    (dRet (dC (.bl false)))
    dNext)
    T1_9__law_rest1)
def T1_7__law_rest1 : DS := (dSeq (dIfS (dTB (dBin vNe (dCall 1 M_rising_rows (daCons (dVar 3) daNil)) (dBin vAdd (dFn oLen (daCons (dVar 7) daNil)) (dFn oInt (daCons (dBin vNe (dVar 3) (dLst daNil)) daNil)))))
    (dRet (dC (.bl false)))
    dNext)
    T1_8__law_rest1)
def T1_6__law_rest1 : DS := (dSeq (dAsg C4__law_rest1 (gSet 7))
    T1_7__law_rest1)
def T1_5__law_rest1 : DS := (dSeq (dIfS (dTB (dBin vNe (dFn oList (daCons (dCall 3 M_riffled (daCons (dSl (dVar 3) doNone (doSome (dVar 10))) (daCons (dSl (dVar 3) (doSome (dVar 10)) doNone) (daCons (dVar 11) daNil)))) daNil)) (dBin vAdd (dBin vAdd (dVar 12) (dVar 13)) (dVar 14))))
    (dRet (dC (.bl false)))
    dNext)
    T1_6__law_rest1)
def T1_4__law_rest1 : DS := (dSeq (dFor (diRng rng1 (daCons (dFn oLen (daCons (dVar 11) daNil)) daNil)) (gSet 6)
    T4_0__law_rest1)
    T1_5__law_rest1)
def T1_3__law_rest1 : DS := (dSeq (dPar 13 14 (daCons (dSl (dVar 3) doNone (doSome (dVar 10))) (daCons (dSl (dVar 3) (doSome (dVar 10)) doNone) daNil)))
    T1_4__law_rest1)
def T1_2__law_rest1 : DS := (dSeq (dPar3 10 11 12 (daCons (dBin vFdiv (dFn oLen (daCons (dVar 3) daNil)) (dC (.int 2))) (daCons C3__law_rest1 (daCons (dLst daNil) daNil))))
    T1_3__law_rest1)
def T1_1__law_rest1 : DS := (dSeq (dIfS (dTB (dBin vNe (dFn oList (daCons (dFld 0 (dMeth 0 1 M_Pack_turned (dVar 5) daNil)) daNil)) C2__law_rest1))
    (dRet (dC (.bl false)))
    dNext)
    T1_2__law_rest1)
def N__law_rest1 : List PySem.Str := ["dice", "ranks", "whole", "cards", "rows", "pack", "k", "falls", "rest", "due", "half", "runs", "found", "left", "right", "place", "goal", "card", "row"]
def D__law_rest1 : DS := (dSeq (dIfS (dTB (dBin vNe (dFn oList (daCons (dMeth 0 2 M_Pack_missing (dVar 5) (daCons (dVar 1) daNil)) daNil)) C1__law_rest1))
    (dRet (dC (.bl false)))
    dNext)
    T1_1__law_rest1)
def M__law_rest1 : FT := runF 19 D__law_rest1
theorem sc__law_rest1 : FnScope N__law_rest1 ["dice", "ranks", "whole", "cards", "rows", "pack"] (defScope s__law_rest1) := ⟨rfl, rfl, rfl, by decide +kernel, rfl, by decide +kernel, by decide +kernel⟩
theorem F__law_rest1 (kn : Kn K mg base) : DFn P w base (ktD K mg) 8 (He.ga K "_law_rest1") 6 M__law_rest1 := by
  refine DFn.ofD (kt := ktD K mg) (pp := ("_law_rest1", none)) (kn.c.def_ 31 (d := d__law_rest1) rfl) sc__law_rest1 (fun _ _ _ _ _ _ _ us hl => match us, hl with | [_, _, _, _, _, _], _ => rfl) D__law_rest1 (fun A outer s H E W0 hr => ?_)
  have nd : N__law_rest1.Nodup := sc__law_rest1.nd
  exact (sss_cons (ss_if (st_cmp (ops_ne (room_hu hr).1) (sx_ty fn_list (sa_cons (sx_meth 0 (mt_Pack_missing kn) (F_Pack_missing kn) (hr.mono (by decide)) rfl rfl (sx_var 5) (sa_cons (sx_var 1) sa_nil)) sa_nil) (hm := m_list kn)) (sx_lc (own := [("card", 17)]) rfl nd (si_val (sx_var 2)) (by kernel_rfl) (fun _ _ _ _ _ => (sg_name 17 nd)) (fun _ _ _ _ _ => (sts_one (st_cmp (ops_notIn (room_hu hr).2.1) (sx_var 17) (sx_var 4)))) (fun _ _ _ _ _ => (sx_var 17))))
    (sss_one (ss_ret sx_bl))
    sss_nil)
    (sss_cons (ss_if (st_cmp (ops_ne (room_hu hr).1) (sx_ty fn_list (sa_cons (sx_fld 0 ndN (sx_meth0 0 (mt_Pack_turned kn) (F_Pack_turned kn) (hr.mono (by decide)) rfl rfl (sx_var 5))) sa_nil) (hm := m_list kn)) (sx_lc (own := [("k", 6)]) rfl nd (si_r1 (sa_cons (sx_fn fn_len (sa_cons (sx_var 4) sa_nil) (hm := m_len kn)) sa_nil) (hm := m_range kn)) (by kernel_rfl) (fun _ _ _ _ _ => (sg_name 6 nd)) (fun _ _ _ _ _ => sts_nil) (fun _ _ _ _ _ => (sx_ix (room_hu hr).2.2 (sx_var 4) (sx_bin ops_sub (sx_bin ops_sub (sx_fn fn_len (sa_cons (sx_var 4) sa_nil) (hm := m_len kn)) sx_int) (sx_var 6))))))
    (sss_one (ss_ret sx_bl))
    sss_nil)
    (sss_cons (ss_par3 10 11 12 rfl nd (sa_cons (sx_bin ops_fdiv (sx_fn fn_len (sa_cons (sx_var 3) sa_nil) (hm := m_len kn)) sx_int) (sa_cons (sx_lc (own := [("k", 6)]) rfl nd (si_r1 (sa_cons (sx_call (F__law_roll kn) (hr.mono (by decide)) (g__law_roll kn) rfl rfl (sa_cons (sx_var 0) (sa_cons sx_int sa_nil))) sa_nil) (hm := m_range kn)) (by kernel_rfl) (fun _ _ _ _ _ => (sg_name 6 nd)) (fun _ _ _ _ _ => sts_nil) (fun _ _ _ _ _ => (sx_call (F__law_roll kn) (hr.mono (by decide)) (g__law_roll kn) rfl rfl (sa_cons (sx_var 0) (sa_cons sx_int sa_nil))))) (sa_cons (sx_lst sa_nil) sa_nil))))
    (sss_cons (ss_par 13 14 rfl nd (sa_cons (sx_sl (sx_var 3) so_none (so_some (sx_var 10))) (sa_cons (sx_sl (sx_var 3) (so_some (sx_var 10)) so_none) sa_nil)))
    (sss_cons (ss_for passes_cx rfl (si_r1 (sa_cons (sx_fn fn_len (sa_cons (sx_var 11) sa_nil) (hm := m_len kn)) sa_nil) (hm := m_range kn)) (sg_name 6 nd)
    (sss_one (ss_if (st_cmp (ops_eq (room_hu hr).1) (sx_bin ops_mod (sx_var 6) sx_int) sx_int)
    (sss_one (ss_par 12 13 rfl nd (sa_cons (sx_bin ops_add (sx_var 12) (sx_sl (sx_var 13) so_none (so_some (sx_ix (room_hu hr).2.2 (sx_var 11) (sx_var 6))))) (sa_cons (sx_sl (sx_var 13) (so_some (sx_ix (room_hu hr).2.2 (sx_var 11) (sx_var 6))) so_none) sa_nil))))
    (sss_one (ss_par 12 14 rfl nd (sa_cons (sx_bin ops_add (sx_var 12) (sx_sl (sx_var 14) so_none (so_some (sx_ix (room_hu hr).2.2 (sx_var 11) (sx_var 6))))) (sa_cons (sx_sl (sx_var 14) (so_some (sx_ix (room_hu hr).2.2 (sx_var 11) (sx_var 6))) so_none) sa_nil)))))))
    (sss_cons (ss_if (st_cmp (ops_ne (room_hu hr).1) (sx_ty fn_list (sa_cons (sx_call (F_riffled kn) (hr.mono (by decide)) (g_riffled kn) rfl rfl (sa_cons (sx_sl (sx_var 3) so_none (so_some (sx_var 10))) (sa_cons (sx_sl (sx_var 3) (so_some (sx_var 10)) so_none) (sa_cons (sx_var 11) sa_nil)))) sa_nil) (hm := m_list kn)) (sx_bin ops_add (sx_bin ops_add (sx_var 12) (sx_var 13)) (sx_var 14)))
    (sss_one (ss_ret sx_bl))
    sss_nil)
    (sss_cons (ss_setLc 7 (own := [("k", 6)]) rfl nd (si_r2 (sa_cons sx_int (sa_cons (sx_fn fn_len (sa_cons (sx_var 3) sa_nil) (hm := m_len kn)) sa_nil)) (hm := m_range kn)) (by kernel_rfl) (fun _ _ _ _ _ => (sg_name 6 nd)) (fun _ _ _ _ _ => (sts_one (st_cmp (ops_lt (room_hu hr).1) (sx_call (F__law_key kn) (hr.mono (by decide)) (g__law_key kn) rfl rfl (sa_cons (sx_ix (room_hu hr).2.2 (sx_var 3) (sx_var 6)) sa_nil)) (sx_call (F__law_key kn) (hr.mono (by decide)) (g__law_key kn) rfl rfl (sa_cons (sx_ix (room_hu hr).2.2 (sx_var 3) (sx_bin ops_sub (sx_var 6) sx_int)) sa_nil))))) (fun _ _ _ _ _ => (sx_var 6)))
    (sss_cons (ss_if (st_cmp (ops_ne (room_hu hr).1) (sx_call (F_rising_rows kn) (hr.mono (by decide)) (g_rising_rows kn) rfl rfl (sa_cons (sx_var 3) sa_nil)) (sx_bin ops_add (sx_fn fn_len (sa_cons (sx_var 7) sa_nil) (hm := m_len kn)) (sx_ty fn_int (sa_cons (sx_cmp (ops_ne (room_hu hr).1) (sx_var 3) (sx_lst sa_nil)) sa_nil) (hm := m_int kn))))
    (sss_one (ss_ret sx_bl))
    sss_nil)
    (sss_cons (ss_if (st_cmp (ops_ne (room_hu hr).1) (sx_lc (own := [("row", 18)]) rfl nd (si_val (sx_call (F_by_colour kn) (hr.mono (by decide)) (g_by_colour kn) rfl rfl (sa_cons (sx_var 3) sa_nil))) (by kernel_rfl) (fun _ _ _ _ _ => (sg_name 18 nd)) (fun _ _ _ _ _ => sts_nil) (fun _ _ _ _ _ => (sx_ty fn_list (sa_cons (sx_var 18) sa_nil) (hm := m_list kn)))) (sx_lst (sa_cons (sx_lc (own := [("card", 17)]) rfl nd (si_val (sx_var 3)) (by kernel_rfl) (fun _ _ _ _ _ => (sg_name 17 nd)) (fun _ _ _ _ _ => (sts_one (st_cmp (ops_in (room_hu hr).2.1) (sx_sl (sx_var 17) (so_some sx_int) so_none) sx_str))) (fun _ _ _ _ _ => (sx_var 17))) (sa_cons (sx_lc (own := [("card", 17)]) rfl nd (si_val (sx_var 3)) (by kernel_rfl) (fun _ _ _ _ _ => (sg_name 17 nd)) (fun _ _ _ _ _ => (sts_one (st_cmp (ops_in (room_hu hr).2.1) (sx_sl (sx_var 17) (so_some sx_int) so_none) sx_str))) (fun _ _ _ _ _ => (sx_var 17))) sa_nil))))
    (sss_one (ss_ret sx_bl))
    sss_nil)
    (sss_cons (ss_asg (sx_tup (sa_cons (sx_call (F__law_roll kn) (hr.mono (by decide)) (g__law_roll kn) rfl rfl (sa_cons (sx_var 0) (sa_cons sx_int sa_nil))) (sa_cons (sx_call (F__law_roll kn) (hr.mono (by decide)) (g__law_roll kn) rfl rfl (sa_cons (sx_var 0) (sa_cons sx_int sa_nil))) sa_nil))) (sg_tup rfl (sgs_cons (sg_name 15 nd) (sgs_cons (sg_name 16 nd) sgs_nil))))
    (sss_cons (ss_set 8 nd (sx_bin ops_add (sx_sl (sx_var 3) so_none (so_some (sx_var 15))) (sx_sl (sx_var 3) (so_some (sx_bin ops_add (sx_var 15) sx_int)) so_none)))
    (sss_cons (ss_set 9 nd (sx_if (st_cmp (ops_lt (room_hu hr).1) (sx_fn (fn_max2 rfl) (sa_cons (sx_var 15) (sa_cons (sx_var 16) sa_nil)) (hm := m_max kn)) (sx_fn fn_len (sa_cons (sx_var 3) sa_nil) (hm := m_len kn))) (sx_bin ops_add (sx_bin ops_add (sx_sl (sx_var 8) so_none (so_some (sx_var 16))) (sx_sl (sx_var 3) (so_some (sx_var 15)) (so_some (sx_bin ops_add (sx_var 15) sx_int)))) (sx_sl (sx_var 8) (so_some (sx_var 16)) so_none)) sx_str))
    (sss_cons (ss_if (st_cmp (ops_ne (room_hu hr).1) (sx_told (k := 1) rfl (toldD kn) (by intro cdv s H; exact toldH kn rfl rfl rfl cdv s H) (toldF_ok kn) (tabB kn 2 rfl) rfl (memT 2) (uniqT kn 2) (hr.mono (by decide)) (by kernel_rfl) (fun A outer s H E f c' hr2 => (sx_ty fn_list (sa_cons (sx_call (F_moved_card kn) (hr2.mono (by decide)) (g_moved_card kn) rfl rfl (sa_cons (sx_var 3) (sa_cons (sx_var 15) (sa_cons (sx_var 16) sa_nil)))) sa_nil) (hm := m_list kn)))) (sx_var 9))
    (sss_one (ss_ret sx_bl))
    sss_nil)
    (sss_cons (ss_if (st_not (st_val (sx_call0 (F__law_cases1 kn) (hr.mono (by decide)) (g__law_cases1 kn) rfl rfl)))
    (sss_one (ss_ret sx_bl))
    sss_nil)
    (sss_one (ss_ret sx_bl))))))))))))))))
def C1__law_rest2 : DE := (dLc [9] (diVal (dVar 3)) (gSet 9) dYes (dCall 1 M_order_of (daCons (dVar 9) daNil)))
def C2__law_rest2 : DE := (dLc [9] (diVal (dVar 3)) (gSet 9) dYes (dCall 1 M__law_key (daCons (dVar 9) daNil)))
def C3__law_rest2 : DE := (dLc [9] (diVal (dVar 3)) (gSet 9) dYes (dCall 2 M_card_of (daCons (dCall 1 M_rank_of (daCons (dVar 9) daNil)) (daCons (dCall 1 M_suit_of (daCons (dVar 9) daNil)) daNil))))
def T4_1__law_rest2 : DS := (dAsg (dIf (dTB (dBin vLe (dVar 8) (dFn oLen (daCons (dVar 5) daNil)))) (dSl (dVar 5) (doSome (dVar 8)) doNone) (dVar 5)) (gSet 5))
def T6_1__law_rest2 : DS := (dAsg (dSl (dVar 5) doNone (doSome (dFn oMax2 (daCons (dC (.int 0)) (daCons (dBin vSub (dFn oLen (daCons (dVar 5) daNil)) (dC (.int 1))) daNil))))) (gSet 5))
def T8_2__law_rest2 : DS := (dAsg (dIf (dTB (dBin vEq (dVar 10) (dC (.str "card")))) (dVar 5) (dIf (dTest (dVar 12)) (dBin vAdd (dVar 5) (dLst (daCons (dVar 9) daNil))) (dBin vAdd (dLst (daCons (dVar 9) daNil)) (dVar 5)))) (gSet 5))
def T8_1__law_rest2 : DS := (dSeq (dIfS (dTest (dVar 12))
    (dAsg (dTold toldF (dMeth 0 2 M_Pack_put_under (dVar 6) (daCons (dVar 9) daNil))) (gSet 11))
    (dAsg (dTold toldF (dMeth 0 2 M_Pack_put_on (dVar 6) (daCons (dVar 9) daNil))) (gSet 11)))
    T8_2__law_rest2)
def T12_1__law_rest2 : DS := (dAsg (dIf (dTB (dBin vIsN (dVar 10) (dC .non))) (dBin vAdd (dSl (dVar 5) (doSome (dVar 8)) doNone) (dSl (dVar 5) doNone (doSome (dVar 8)))) (dVar 5)) (gSet 5))
def C4__law_rest2 : DE := (dLc [13] (diVal (dVar 5)) (gSet 13) (dTB (dBin vNe (dVar 13) (dVar 9))) (dVar 13))
def T13_1__law_rest2 : DS := (dAsg C4__law_rest2 (gSet 5))
def T3_2__law_rest2 : DS := (dIfS (dOr (dTB (dBin vNe (dVar 11) (dVar 10))) (dTB (dBin vNe (dFn oList (daCons (dMeth 0 1 M_Pack_shown (dVar 6) daNil) daNil)) (dVar 5))))
    (dRet (dC (.bl false)))
    dNext)
def T3_1__law_rest2 : DS := (dSeq (dIfS (dTB (dBin vEq (dVar 7) (dC (.int 0))))
    (dSeq (dPar 10 11 (daCons (dIf (dTB (dBin vLe (dVar 8) (dFn oLen (daCons (dVar 5) daNil)))) (dFn oTuple (daCons (dSl (dVar 5) doNone (doSome (dVar 8))) daNil)) (dC (.str "size"))) (daCons (dTold toldF (dMeth 0 2 M_Pack_draw (dVar 6) (daCons (dVar 8) daNil))) daNil)))
    T4_1__law_rest2)
    (dIfS (dTB (dBin vEq (dVar 7) (dC (.int 1))))
    (dSeq (dPar 10 11 (daCons (dIf (dTB (dBin vNe (dVar 5) (dLst daNil))) (dIx (dVar 5) (dBin vSub (dFn oLen (daCons (dVar 5) daNil)) (dC (.int 1)))) (dC (.str "size"))) (daCons (dTold toldF (dMeth 0 1 M_Pack_bottom (dVar 6) daNil)) daNil)))
    T6_1__law_rest2)
    (dIfS (dTB (dBin vLt (dVar 7) (dC (.int 4))))
    (dSeq (dPar 10 12 (daCons (dIf (dTB (dBin vInV (dVar 9) (dVar 5))) (dC (.str "card")) (dC .non)) (daCons (dBin vEq (dVar 7) (dC (.int 2))) daNil)))
    T8_1__law_rest2)
    (dIfS (dTB (dBin vEq (dVar 7) (dC (.int 4))))
    (dSeq (dPar 10 11 (daCons (dIf (dTB (dChain vLt vLt (dC (.int 0)) (dVar 8) (dFn oLen (daCons (dVar 5) daNil)))) (dC .non) (dC (.str "size"))) (daCons (dTold toldF (dMeth 0 2 M_Pack_cut (dVar 6) (daCons (dVar 8) daNil))) daNil)))
    T12_1__law_rest2)
    (dSeq (dPar 10 11 (daCons (dIf (dTB (dBin vInV (dVar 9) (dVar 5))) (dBm tLst oLIx (dVar 5) (daCons (dVar 9) daNil)) (dC (.str "no such"))) (daCons (dTold toldF (dMeth 0 2 M_Pack_take_out (dVar 6) (daCons (dVar 9) daNil))) daNil)))
    T13_1__law_rest2)))))
    T3_2__law_rest2)
def T3_0__law_rest2 : DS := (dSeq (dAsg (dTup (daCons (dCall 2 M__law_roll (daCons (dVar 0) (daCons (dC (.int 7)) daNil))) (daCons (dCall 2 M__law_roll (daCons (dVar 0) (daCons (dC (.int 5)) daNil))) (daCons (dIx (dCall 3 M__law_cards (daCons (dVar 0) (daCons (dC (.int 1)) (daCons (dC (.int 3)) daNil)))) (dC (.int 0))) daNil)))) (gUn 3 (gsCons (gSet 7) (gsCons (gSet 8) (gsCons (gSet 9) gsNil)))))
    T3_1__law_rest2)
def T1_5__law_rest2 : DS := (dRet (dC (.bl true)))
def T1_4__law_rest2 : DS := (dSeq (dIfS (dNot (dTest (dCall 6 M__law_rest1 (daCons (dVar 0) (daCons (dVar 1) (daCons (dVar 2) (daCons (dVar 3) (daCons (dVar 5) (daCons (dVar 6) daNil)))))))))
    (dRet (dC (.bl false)))
    dNext)
    T1_5__law_rest2)
def T1_3__law_rest2 : DS := (dSeq (dFor (diRng rng1 (daCons (dCall 2 M__law_roll (daCons (dVar 0) (daCons (dC (.int 11)) daNil))) daNil)) (gSet 4)
    T3_0__law_rest2)
    T1_4__law_rest2)
def T1_2__law_rest2 : DS := (dSeq (dAsg (dTup (daCons (dFn oList (daCons (dVar 3) daNil)) (daCons (dMake 0 2 M_Pack___init__ (daCons (dVar 3) daNil)) daNil))) (gUn 2 (gsCons (gSet 5) (gsCons (gSet 6) gsNil))))
    T1_3__law_rest2)
def T1_1__law_rest2 : DS := (dSeq (dIfS (dOr (dTB (dBin vNe C1__law_rest2 C2__law_rest2)) (dTB (dBin vNe C3__law_rest2 (dVar 3))))
    (dRet (dC (.bl false)))
    dNext)
    T1_2__law_rest2)
def N__law_rest2 : List PySem.Str := ["dice", "ranks", "whole", "cards", "step", "rows", "pack", "sort", "many", "card", "due", "told", "under", "one"]
def D__law_rest2 : DS := (dSeq (dAsg (dCall 3 M__law_cards (daCons (dVar 0) (daCons (dCall 2 M__law_roll (daCons (dVar 0) (daCons (dC (.int 10)) daNil))) (daCons (dC (.int 13)) daNil)))) (gSet 3))
    T1_1__law_rest2)
def M__law_rest2 : FT := runF 14 D__law_rest2
theorem sc__law_rest2 : FnScope N__law_rest2 ["dice", "ranks", "whole"] (defScope s__law_rest2) := ⟨rfl, rfl, rfl, by decide +kernel, rfl, by decide +kernel, by decide +kernel⟩
theorem F__law_rest2 (kn : Kn K mg base) : DFn P w base (ktD K mg) 9 (He.ga K "_law_rest2") 3 M__law_rest2 := by
  refine DFn.ofD (kt := ktD K mg) (pp := ("_law_rest2", none)) (kn.c.def_ 32 (d := d__law_rest2) rfl) sc__law_rest2 (fun _ _ _ _ _ _ _ us hl => match us, hl with | [_, _, _], _ => rfl) D__law_rest2 (fun A outer s H E W0 hr => ?_)
  have nd : N__law_rest2.Nodup := sc__law_rest2.nd
  exact (sss_cons (ss_set 3 nd (sx_call (F__law_cards kn) (hr.mono (by decide)) (g__law_cards kn) rfl rfl (sa_cons (sx_var 0) (sa_cons (sx_call (F__law_roll kn) (hr.mono (by decide)) (g__law_roll kn) rfl rfl (sa_cons (sx_var 0) (sa_cons sx_int sa_nil))) (sa_cons sx_int sa_nil)))))
    (sss_cons (ss_if (st_w (sw_or (st_cmp (ops_ne (room_hu hr).1) (sx_lc (own := [("card", 9)]) rfl nd (si_val (sx_var 3)) (by kernel_rfl) (fun _ _ _ _ _ => (sg_name 9 nd)) (fun _ _ _ _ _ => sts_nil) (fun _ _ _ _ _ => (sx_call (F_order_of kn) (hr.mono (by decide)) (g_order_of kn) rfl rfl (sa_cons (sx_var 9) sa_nil)))) (sx_lc (own := [("card", 9)]) rfl nd (si_val (sx_var 3)) (by kernel_rfl) (fun _ _ _ _ _ => (sg_name 9 nd)) (fun _ _ _ _ _ => sts_nil) (fun _ _ _ _ _ => (sx_call (F__law_key kn) (hr.mono (by decide)) (g__law_key kn) rfl rfl (sa_cons (sx_var 9) sa_nil))))) (sw_or1 (st_cmp (ops_ne (room_hu hr).1) (sx_lc (own := [("card", 9)]) rfl nd (si_val (sx_var 3)) (by kernel_rfl) (fun _ _ _ _ _ => (sg_name 9 nd)) (fun _ _ _ _ _ => sts_nil) (fun _ _ _ _ _ => (sx_call (F_card_of kn) (hr.mono (by decide)) (g_card_of kn) rfl rfl (sa_cons (sx_call (F_rank_of kn) (hr.mono (by decide)) (g_rank_of kn) rfl rfl (sa_cons (sx_var 9) sa_nil)) (sa_cons (sx_call (F_suit_of kn) (hr.mono (by decide)) (g_suit_of kn) rfl rfl (sa_cons (sx_var 9) sa_nil)) sa_nil))))) (sx_var 3)))))
    (sss_one (ss_ret sx_bl))
    sss_nil)
    (sss_cons (ss_asg (sx_tup (sa_cons (sx_ty fn_list (sa_cons (sx_var 3) sa_nil) (hm := m_list kn)) (sa_cons (sx_make 0 (mk_Pack kn) (cls_Pack kn) (F_Pack___init__ kn) (hr.mono (by decide)) (g_Pack kn) rfl rfl (sa_cons (sx_var 3) sa_nil)) sa_nil))) (sg_tup rfl (sgs_cons (sg_name 5 nd) (sgs_cons (sg_name 6 nd) sgs_nil))))
    (sss_cons (ss_for passes_cx rfl (si_r1 (sa_cons (sx_call (F__law_roll kn) (hr.mono (by decide)) (g__law_roll kn) rfl rfl (sa_cons (sx_var 0) (sa_cons sx_int sa_nil))) sa_nil) (hm := m_range kn)) (sg_name 4 nd)
    (sss_cons (ss_asg (sx_tup (sa_cons (sx_call (F__law_roll kn) (hr.mono (by decide)) (g__law_roll kn) rfl rfl (sa_cons (sx_var 0) (sa_cons sx_int sa_nil))) (sa_cons (sx_call (F__law_roll kn) (hr.mono (by decide)) (g__law_roll kn) rfl rfl (sa_cons (sx_var 0) (sa_cons sx_int sa_nil))) (sa_cons (sx_ix (room_hu hr).2.2 (sx_call (F__law_cards kn) (hr.mono (by decide)) (g__law_cards kn) rfl rfl (sa_cons (sx_var 0) (sa_cons sx_int (sa_cons sx_int sa_nil)))) sx_int) sa_nil)))) (sg_tup rfl (sgs_cons (sg_name 7 nd) (sgs_cons (sg_name 8 nd) (sgs_cons (sg_name 9 nd) sgs_nil)))))
    (sss_cons (ss_if (st_cmp (ops_eq (room_hu hr).1) (sx_var 7) sx_int)
    (sss_cons (ss_par 10 11 rfl nd (sa_cons (sx_if (st_cmp (ops_le (room_hu hr).1) (sx_var 8) (sx_fn fn_len (sa_cons (sx_var 5) sa_nil) (hm := m_len kn))) (sx_ty fn_tuple (sa_cons (sx_sl (sx_var 5) so_none (so_some (sx_var 8))) sa_nil) (hm := m_tuple kn)) sx_str) (sa_cons (sx_told (k := 1) rfl (toldD kn) (by intro cdv s H; exact toldH kn rfl rfl rfl cdv s H) (toldF_ok kn) (tabB kn 3 rfl) rfl (memT 3) (uniqT kn 3) (hr.mono (by decide)) (by kernel_rfl) (fun A outer s H E f c' hr2 => (sx_meth 0 (mt_Pack_draw kn) (F_Pack_draw kn) (hr2.mono (by decide)) rfl rfl (sx_var 6) (sa_cons (sx_var 8) sa_nil)))) sa_nil)))
    (sss_one (ss_set 5 nd (sx_if (st_cmp (ops_le (room_hu hr).1) (sx_var 8) (sx_fn fn_len (sa_cons (sx_var 5) sa_nil) (hm := m_len kn))) (sx_sl (sx_var 5) (so_some (sx_var 8)) so_none) (sx_var 5)))))
    (sss_one (ss_if (st_cmp (ops_eq (room_hu hr).1) (sx_var 7) sx_int)
    (sss_cons (ss_par 10 11 rfl nd (sa_cons (sx_if (st_cmp (ops_ne (room_hu hr).1) (sx_var 5) (sx_lst sa_nil)) (sx_ix (room_hu hr).2.2 (sx_var 5) (sx_bin ops_sub (sx_fn fn_len (sa_cons (sx_var 5) sa_nil) (hm := m_len kn)) sx_int)) sx_str) (sa_cons (sx_told (k := 1) rfl (toldD kn) (by intro cdv s H; exact toldH kn rfl rfl rfl cdv s H) (toldF_ok kn) (tabB kn 3 rfl) rfl (memT 3) (uniqT kn 3) (hr.mono (by decide)) (by kernel_rfl) (fun A outer s H E f c' hr2 => (sx_meth0 0 (mt_Pack_bottom kn) (F_Pack_bottom kn) (hr2.mono (by decide)) rfl rfl (sx_var 6)))) sa_nil)))
    (sss_one (ss_set 5 nd (sx_sl (sx_var 5) so_none (so_some (sx_fn (fn_max2 rfl) (sa_cons sx_int (sa_cons (sx_bin ops_sub (sx_fn fn_len (sa_cons (sx_var 5) sa_nil) (hm := m_len kn)) sx_int) sa_nil)) (hm := m_max kn)))))))
    (sss_one (ss_if (st_cmp (ops_lt (room_hu hr).1) (sx_var 7) sx_int)
    (sss_cons (ss_par 10 12 rfl nd (sa_cons (sx_if (st_cmp (ops_in (room_hu hr).2.1) (sx_var 9) (sx_var 5)) sx_str sx_non) (sa_cons (sx_cmp (ops_eq (room_hu hr).1) (sx_var 7) sx_int) sa_nil)))
    (sss_cons (ss_if (st_val (sx_var 12))
    (sss_one (ss_set 11 nd (sx_told (k := 3) rfl (toldD kn) (by intro cdv s H; exact toldH kn rfl rfl rfl cdv s H) (toldF_ok kn) (tabB kn 3 rfl) rfl (memT 3) (uniqT kn 3) (hr.mono (by decide)) (by kernel_rfl) (fun A outer s H E f c' hr2 => (sx_meth 0 (mt_Pack_put_under kn) (F_Pack_put_under kn) (hr2.mono (by decide)) rfl rfl (sx_var 6) (sa_cons (sx_var 9) sa_nil))))))
    (sss_one (ss_set 11 nd (sx_told (k := 3) rfl (toldD kn) (by intro cdv s H; exact toldH kn rfl rfl rfl cdv s H) (toldF_ok kn) (tabB kn 3 rfl) rfl (memT 3) (uniqT kn 3) (hr.mono (by decide)) (by kernel_rfl) (fun A outer s H E f c' hr2 => (sx_meth 0 (mt_Pack_put_on kn) (F_Pack_put_on kn) (hr2.mono (by decide)) rfl rfl (sx_var 6) (sa_cons (sx_var 9) sa_nil)))))))
    (sss_one (ss_set 5 nd (sx_if (st_cmp (ops_eq (room_hu hr).1) (sx_var 10) sx_str) (sx_var 5) (sx_if (st_val (sx_var 12)) (sx_bin ops_add (sx_var 5) (sx_lst (sa_cons (sx_var 9) sa_nil))) (sx_bin ops_add (sx_lst (sa_cons (sx_var 9) sa_nil)) (sx_var 5))))))))
    (sss_one (ss_if (st_cmp (ops_eq (room_hu hr).1) (sx_var 7) sx_int)
    (sss_cons (ss_par 10 11 rfl nd (sa_cons (sx_if (st_chain (ops_lt (room_hu hr).1) (ops_lt (room_hu hr).1) sx_int (sx_var 8) (sx_fn fn_len (sa_cons (sx_var 5) sa_nil) (hm := m_len kn))) sx_non sx_str) (sa_cons (sx_told (k := 1) rfl (toldD kn) (by intro cdv s H; exact toldH kn rfl rfl rfl cdv s H) (toldF_ok kn) (tabB kn 3 rfl) rfl (memT 3) (uniqT kn 3) (hr.mono (by decide)) (by kernel_rfl) (fun A outer s H E f c' hr2 => (sx_meth 0 (mt_Pack_cut kn) (F_Pack_cut kn) (hr2.mono (by decide)) rfl rfl (sx_var 6) (sa_cons (sx_var 8) sa_nil)))) sa_nil)))
    (sss_one (ss_set 5 nd (sx_if (st_cmp ops_isN (sx_var 10) sx_non) (sx_bin ops_add (sx_sl (sx_var 5) (so_some (sx_var 8)) so_none) (sx_sl (sx_var 5) so_none (so_some (sx_var 8)))) (sx_var 5)))))
    (sss_cons (ss_par 10 11 rfl nd (sa_cons (sx_if (st_cmp (ops_in (room_hu hr).2.1) (sx_var 9) (sx_var 5)) (sx_bm rc_lst bm_lidx PySem.F.plainAttrs_list PySem.F.slot_list_index PySem.F.type_list_index (sx_var 5) (sa_cons (sx_var 9) sa_nil)) sx_str) (sa_cons (sx_told (k := 3) rfl (toldD kn) (by intro cdv s H; exact toldH kn rfl rfl rfl cdv s H) (toldF_ok kn) (tabB kn 3 rfl) rfl (memT 3) (uniqT kn 3) (hr.mono (by decide)) (by kernel_rfl) (fun A outer s H E f c' hr2 => (sx_meth 0 (mt_Pack_take_out kn) (F_Pack_take_out kn) (hr2.mono (by decide)) rfl rfl (sx_var 6) (sa_cons (sx_var 9) sa_nil)))) sa_nil)))
    (sss_one (ss_setLc 5 (own := [("one", 13)]) rfl nd (si_val (sx_var 5)) (by kernel_rfl) (fun _ _ _ _ _ => (sg_name 13 nd)) (fun _ _ _ _ _ => (sts_one (st_cmp (ops_ne (room_hu hr).1) (sx_var 13) (sx_var 9)))) (fun _ _ _ _ _ => (sx_var 13))))))))))))
    (sss_one (ss_if (st_w (sw_or (st_cmp (ops_ne (room_hu hr).1) (sx_var 11) (sx_var 10)) (sw_or1 (st_cmp (ops_ne (room_hu hr).1) (sx_ty fn_list (sa_cons (sx_meth0 0 (mt_Pack_shown kn) (F_Pack_shown kn) (hr.mono (by decide)) rfl rfl (sx_var 6)) sa_nil) (hm := m_list kn)) (sx_var 5)))))
    (sss_one (ss_ret sx_bl))
    sss_nil)))))
    (sss_cons (ss_if (st_not (st_val (sx_call (F__law_rest1 kn) (hr.mono (by decide)) (g__law_rest1 kn) rfl rfl (sa_cons (sx_var 0) (sa_cons (sx_var 1) (sa_cons (sx_var 2) (sa_cons (sx_var 3) (sa_cons (sx_var 5) (sa_cons (sx_var 6) sa_nil)))))))))
    (sss_one (ss_ret sx_bl))
    sss_nil)
    (sss_one (ss_ret sx_bl)))))))
def C1_law : DE := (dLc [5] (diVal (dSl (dC (.str "123456789tjqk")) doNone (doSome (dVar 2)))) (gSet 5) dYes (dBin vAdd (dVar 5) (dVar 4)))
def C2_law : DE := (dLc [4] (diVal (dC (.str "cdhs"))) (gSet 4) dYes C1_law)
def C3_law : DE := (dLc [6] (diVal (dVar 3)) (gSet 6) dYes (dCall 1 M_rank_of (daCons (dVar 6) daNil)))
def C4_law : DE := (dLc [6] (diVal (dVar 3)) (gSet 6) dYes (dIx (dCall 1 M__law_key (daCons (dVar 6) daNil)) (dC (.int 1))))
def C5_law : DE := (dLc [6] (diVal (dVar 3)) (gSet 6) dYes (dCall 1 M_suit_of (daCons (dVar 6) daNil)))
def C6_law : DE := (dLc [6] (diVal (dVar 3)) (gSet 6) dYes (dSl (dVar 6) (doSome (dC (.int 1))) doNone))
def C7_law : DE := (dLc [6] (diVal (dVar 3)) (gSet 6) dYes (dCall 1 M_is_red (daCons (dVar 6) daNil)))
def C8_law : DE := (dLc [6] (diVal (dVar 3)) (gSet 6) dYes (dBin vInV (dSl (dVar 6) (doSome (dC (.int 1))) doNone) (dC (.str "dh"))))
def T2_4_law : DS := (dIfS (dNot (dTest (dCall 3 M__law_rest2 (daCons (dVar 1) (daCons (dVar 2) (daCons (dVar 3) daNil))))))
    (dRet (dC (.bl false)))
    dNext)
def T2_3_law : DS := (dSeq (dIfS (dOr (dTB (dBin vNe C5_law C6_law)) (dTB (dBin vNe C7_law C8_law)))
    (dRet (dC (.bl false)))
    dNext)
    T2_4_law)
def T2_2_law : DS := (dSeq (dIfS (dOr (dTB (dBin vNe (dFn oList (daCons (dCall 1 M_whole_pack (daCons (dVar 2) daNil)) daNil)) (dVar 3))) (dTB (dBin vNe C3_law C4_law)))
    (dRet (dC (.bl false)))
    dNext)
    T2_3_law)
def T2_1_law : DS := (dSeq (dAsg (dCall 1 M__law_flat (daCons C2_law daNil)) (gSet 3))
    T2_2_law)
def T2_0_law : DS := (dSeq (dAsg (dBin vAdd (dC (.int 1)) (dCall 2 M__law_roll (daCons (dVar 1) (daCons (dC (.int 13)) daNil)))) (gSet 2))
    T2_1_law)
def T1_1_law : DS := (dRet (dC (.bl true)))
def N_law : List PySem.Str := ["script", "dice", "ranks", "whole", "sign", "number", "card"]
def D_law : DS := (dSeq (dFor (diVal (dCall 2 M__law_rounds (daCons (dVar 0) (daCons (dC (.int 1)) daNil)))) (gSet 1)
    T2_0_law)
    T1_1_law)
def M_law : FT := runF 7 D_law
theorem sc_law : FnScope N_law ["script"] (defScope s_law) := ⟨rfl, rfl, rfl, by decide +kernel, rfl, by decide +kernel, by decide +kernel⟩
theorem B_law (kn : Kn K mg base) (A : Around) (outer : List Env) (s : Shared) (H : Hp) (E : XK) (W0 : Wd) (hr : Room 9 (A.deeper (envOfC d_law.qual d_law.scope s.heap.objs.size (He.fAd (ktD K mg).K ("law", none)) (.ref (He.codeOf (ktD K mg).K ("law", none)))))) :
    SSs (ktD K mg) ⟨W0, false, false⟩ (cxOf (L2.CX P w) P w (ktD K mg).K (ktD K mg).mg base N_law d_law.qual d_law.scope (He.fAd (ktD K mg).K ("law", none)) (.ref (He.codeOf (ktD K mg).K ("law", none))) A outer s H E) d_law.body D_law := by
  have nd : N_law.Nodup := sc_law.nd
  exact (sss_cons (ss_for passes_cx rfl (si_val (sx_call (F__law_rounds kn) (hr.mono (by decide)) (g__law_rounds kn) rfl rfl (sa_cons (sx_var 0) (sa_cons sx_int sa_nil)))) (sg_name 1 nd)
    (sss_cons (ss_set 2 nd (sx_bin ops_add sx_int (sx_call (F__law_roll kn) (hr.mono (by decide)) (g__law_roll kn) rfl rfl (sa_cons (sx_var 1) (sa_cons sx_int sa_nil)))))
    (sss_cons (ss_set 3 nd (sx_call (F__law_flat kn) (hr.mono (by decide)) (g__law_flat kn) rfl rfl (sa_cons (sx_lc (own := [("sign", 4)]) rfl nd (si_val sx_str) (by kernel_rfl) (fun _ _ _ _ _ => (sg_name 4 nd)) (fun _ _ _ _ _ => sts_nil) (fun _ _ _ _ _ => (sx_lc (own := [("number", 5)]) rfl nd (si_val (sx_sl sx_str so_none (so_some (sx_var 2)))) (by kernel_rfl) (fun _ _ _ _ _ => (sg_name 5 nd)) (fun _ _ _ _ _ => sts_nil) (fun _ _ _ _ _ => (sx_bin ops_add (sx_var 5) (sx_var 4)))))) sa_nil)))
    (sss_cons (ss_if (st_w (sw_or (st_cmp (ops_ne (room_hu hr).1) (sx_ty fn_list (sa_cons (sx_call (F_whole_pack kn) (hr.mono (by decide)) (g_whole_pack kn) rfl rfl (sa_cons (sx_var 2) sa_nil)) sa_nil) (hm := m_list kn)) (sx_var 3)) (sw_or1 (st_cmp (ops_ne (room_hu hr).1) (sx_lc (own := [("card", 6)]) rfl nd (si_val (sx_var 3)) (by kernel_rfl) (fun _ _ _ _ _ => (sg_name 6 nd)) (fun _ _ _ _ _ => sts_nil) (fun _ _ _ _ _ => (sx_call (F_rank_of kn) (hr.mono (by decide)) (g_rank_of kn) rfl rfl (sa_cons (sx_var 6) sa_nil)))) (sx_lc (own := [("card", 6)]) rfl nd (si_val (sx_var 3)) (by kernel_rfl) (fun _ _ _ _ _ => (sg_name 6 nd)) (fun _ _ _ _ _ => sts_nil) (fun _ _ _ _ _ => (sx_ix (room_hu hr).2.2 (sx_call (F__law_key kn) (hr.mono (by decide)) (g__law_key kn) rfl rfl (sa_cons (sx_var 6) sa_nil)) sx_int)))))))
    (sss_one (ss_ret sx_bl))
    sss_nil)
    (sss_cons (ss_if (st_w (sw_or (st_cmp (ops_ne (room_hu hr).1) (sx_lc (own := [("card", 6)]) rfl nd (si_val (sx_var 3)) (by kernel_rfl) (fun _ _ _ _ _ => (sg_name 6 nd)) (fun _ _ _ _ _ => sts_nil) (fun _ _ _ _ _ => (sx_call (F_suit_of kn) (hr.mono (by decide)) (g_suit_of kn) rfl rfl (sa_cons (sx_var 6) sa_nil)))) (sx_lc (own := [("card", 6)]) rfl nd (si_val (sx_var 3)) (by kernel_rfl) (fun _ _ _ _ _ => (sg_name 6 nd)) (fun _ _ _ _ _ => sts_nil) (fun _ _ _ _ _ => (sx_sl (sx_var 6) (so_some sx_int) so_none)))) (sw_or1 (st_cmp (ops_ne (room_hu hr).1) (sx_lc (own := [("card", 6)]) rfl nd (si_val (sx_var 3)) (by kernel_rfl) (fun _ _ _ _ _ => (sg_name 6 nd)) (fun _ _ _ _ _ => sts_nil) (fun _ _ _ _ _ => (sx_call (F_is_red kn) (hr.mono (by decide)) (g_is_red kn) rfl rfl (sa_cons (sx_var 6) sa_nil)))) (sx_lc (own := [("card", 6)]) rfl nd (si_val (sx_var 3)) (by kernel_rfl) (fun _ _ _ _ _ => (sg_name 6 nd)) (fun _ _ _ _ _ => sts_nil) (fun _ _ _ _ _ => (sx_cmp (ops_in (room_hu hr).2.1) (sx_sl (sx_var 6) (so_some sx_int) so_none) sx_str)))))))
    (sss_one (ss_ret sx_bl))
    sss_nil)
    (sss_one (ss_if (st_not (st_val (sx_call (F__law_rest2 kn) (hr.mono (by decide)) (g__law_rest2 kn) rfl rfl (sa_cons (sx_var 1) (sa_cons (sx_var 2) (sa_cons (sx_var 3) sa_nil))))))
    (sss_one (ss_ret sx_bl))
    sss_nil)))))))
    (sss_one (ss_ret sx_bl)))
end
end CardH
end
section
set_option maxHeartbeats 4000000
namespace CardH
open PySem PySem.Spec PyProof.Rows L2
/-! ### the dice -/
abbrev D3 := Int × Int × Int
def dO (d : D3) : Ob := .lst [.int d.1, .int d.2.1, .int d.2.2]
def big (d : D3) : Bool := decide (d.2.2 = 2 ∨ (d.2.2 = 1 ∧ 0 < d.1))
def nxt (d : D3) : Int := (d.1 * 48271 + d.2.1 * 69621 + 11) % 2147483647
def rvI (m : Int) (d : D3) : Int := if big d = true then d.1 % m else (nxt d / 7 + nxt d) % m
def rv (m : Int) (d : D3) : Nat := (rvI m d).toNat
def rd (m : Int) (d : D3) : D3 := if big d = true then (d.1 / m, d.2.1, d.2.2) else (nxt d, d.2.1 + 1, 0)
theorem rvI_bd {m : Int} (d : D3) (h : 0 < m) : 0 ≤ rvI m d ∧ rvI m d < m := by
  unfold rvI
  split
  · exact ⟨Int.emod_nonneg _ (by omega), Int.emod_lt_of_pos _ h⟩
  · exact ⟨Int.emod_nonneg _ (by omega), Int.emod_lt_of_pos _ h⟩
theorem rv_eq {m : Int} (d : D3) (h : 0 < m) : ((rv m d : Nat) : Int) = rvI m d := by
  have := rvI_bd d h
  unfold rv
  omega
theorem rv_lt {m : Int} (d : D3) (h : 0 < m) : ((rv m d : Nat) : Int) < m := by
  rw [rv_eq d h]; exact (rvI_bd d h).2
theorem rv_ltN {m : Nat} (d : D3) (h : 0 < m) : rv (m : Int) d < m := by
  have := rv_lt (m := m) d (by omega)
  omega
theorem roll (G : Gst) (i : Nat) (d : D3) (many : Int) (hG : G[i]? = some (dO d)) (hm : 0 < many ∧ many < 4611686018427387904) :
    M__law_roll [.ref i, .int many] G = .ok (.int (rv many d : Nat)) (G.set i (dO (rd many d))) := by
  rw [rv_eq d hm.1]
  obtain ⟨a, b, c⟩ := d
  simp only [dO] at hG
  have hs : ∀ o : Ob, (G.set i o)[i]? = some o := fun o => set_get hG
  have ix0 : ixN 3 0 = some 0 := rfl
  have ix1 : ixN 3 1 = some 1 := rfl
  have ix2 : ixN 3 2 = some 2 := rfl
  have hmod : ∀ x : Int, vMod (.int x) (.int many) = some (.int (x % many)) := fun x => vMod_int _ _ hm.1
  have hdiv : ∀ x : Int, vFdiv (.int x) (.int many) = some (.int (x / many)) := fun x => vFdiv_int _ _ hm.1 hm.2
  have hp : ∀ x : Int, vMod (.int x) (.int 2147483647) = some (.int (x % 2147483647)) := fun x => vMod_int _ _ (by decide)
  have h7 : ∀ x : Int, vFdiv (.int x) (.int 7) = some (.int (x / 7)) := fun x => vFdiv_int _ _ (by decide) (by decide)
  have m1 : ∀ x : Int, vMul (.int x) (.int 48271) = some (.int (x * 48271)) := fun x => vMul_r (by decide) _
  have m2 : ∀ x : Int, vMul (.int x) (.int 69621) = some (.int (x * 69621)) := fun x => vMul_r (by decide) _
  have ir : ∀ x : Vl, vIx G (.ref i) x = match x with | .int k => atI [Vl.int a, .int b, .int c] k | _ => vIx G (.ref i) x := fun x => by
    cases x <;> simp [vIx, hG]
  unfold M__law_roll D__law_roll rvI rd big
  by_cases hc : c = 2 ∨ (c = 1 ∧ 0 < a)
  · rcases hc with rfl | ⟨rfl, ha⟩
    · simp [dSeq_ev, seqR_nx, seqR_rt, seqR_ct, seqR_bk, seqR_ex, seqR_ite, runF_ev, resR_nx, resR_rt, resR_ex, resR_ite, startE, wp_nxK, wp_rtK, wp_ctK, wp_bkK, wp_exK, wp_nxP, wp_rtP, wp_ite, R.bind_ok, R.bind_exn, sb_ok, sb_exn, opt_some, opt_ite, bind_ite, sb_ite, dC, dVar, dPk, Fv.toVl, dBin, dUn, dTest, vTru, dTB_ev, tbK_bl, dAnd, dOr, dNot, dBV, dIf, dChain_ev, chK_bl, daNil, daCons, dTup, dLst, dIx, doNone, doSome, dSl, dFn, diVal, diRng, dCall, dRet, dRetN, dExpr, dIfS_ev, dAsg, gSet, gUn, gsNil, gsCons, itemsOf, dNext, dBreak, dCont, dRaise, dxC, dxE, dTold_ev, toldR_ok, toldR_exn, toldR_ite, dMeth, dFld, List.lookup, dSetF, putN, dPar, dPar3, vNeg, vSub_int, vAdd_int, vEq_int, vNe_int, vLt_int, vGt_int, vLe_int, vGe_int, vIx_lst, vIx_tup, atI_int, vSl_tup, vSl_lst, cutL_toI, cutL_fromI, cutL_midI, cutL_all, oLen, seqOf, oInt, oAbs, oMax2, oMin2, oTuple, oList, vIsN_non, vIsN_str, vIsN_int, vIsN_tup, vIsN_lst, hmod, hdiv, dSetO, vIx, hG, ix0, ix1, ix2, dO]
    · simp [dSeq_ev, seqR_nx, seqR_rt, seqR_ct, seqR_bk, seqR_ex, seqR_ite, runF_ev, resR_nx, resR_rt, resR_ex, resR_ite, startE, wp_nxK, wp_rtK, wp_ctK, wp_bkK, wp_exK, wp_nxP, wp_rtP, wp_ite, R.bind_ok, R.bind_exn, sb_ok, sb_exn, opt_some, opt_ite, bind_ite, sb_ite, dC, dVar, dPk, Fv.toVl, dBin, dUn, dTest, vTru, dTB_ev, tbK_bl, dAnd, dOr, dNot, dBV, dIf, dChain_ev, chK_bl, daNil, daCons, dTup, dLst, dIx, doNone, doSome, dSl, dFn, diVal, diRng, dCall, dRet, dRetN, dExpr, dIfS_ev, dAsg, gSet, gUn, gsNil, gsCons, itemsOf, dNext, dBreak, dCont, dRaise, dxC, dxE, dTold_ev, toldR_ok, toldR_exn, toldR_ite, dMeth, dFld, List.lookup, dSetF, putN, dPar, dPar3, vNeg, vSub_int, vAdd_int, vEq_int, vNe_int, vLt_int, vGt_int, vLe_int, vGe_int, vIx_lst, vIx_tup, atI_int, vSl_tup, vSl_lst, cutL_toI, cutL_fromI, cutL_midI, cutL_all, oLen, seqOf, oInt, oAbs, oMax2, oMin2, oTuple, oList, vIsN_non, vIsN_str, vIsN_int, vIsN_tup, vIsN_lst, hmod, hdiv, dSetO, vIx, hG, ix0, ix1, ix2, ha, dO]
  · have h2 : c ≠ 2 := fun e => hc (.inl e)
    have h1 : ¬ (c = 1 ∧ 0 < a) := fun e => hc (.inr e)
    by_cases e1 : c = 1
    · have ha : ¬ 0 < a := fun z => h1 ⟨e1, z⟩
      subst e1
      simp [dSeq_ev, seqR_nx, seqR_rt, seqR_ct, seqR_bk, seqR_ex, seqR_ite, runF_ev, resR_nx, resR_rt, resR_ex, resR_ite, startE, wp_nxK, wp_rtK, wp_ctK, wp_bkK, wp_exK, wp_nxP, wp_rtP, wp_ite, R.bind_ok, R.bind_exn, sb_ok, sb_exn, opt_some, opt_ite, bind_ite, sb_ite, dC, dVar, dPk, Fv.toVl, dBin, dUn, dTest, vTru, dTB_ev, tbK_bl, dAnd, dOr, dNot, dBV, dIf, dChain_ev, chK_bl, daNil, daCons, dTup, dLst, dIx, doNone, doSome, dSl, dFn, diVal, diRng, dCall, dRet, dRetN, dExpr, dIfS_ev, dAsg, gSet, gUn, gsNil, gsCons, itemsOf, dNext, dBreak, dCont, dRaise, dxC, dxE, dTold_ev, toldR_ok, toldR_exn, toldR_ite, dMeth, dFld, List.lookup, dSetF, putN, dPar, dPar3, vNeg, vSub_int, vAdd_int, vEq_int, vNe_int, vLt_int, vGt_int, vLe_int, vGe_int, vIx_lst, vIx_tup, atI_int, vSl_tup, vSl_lst, cutL_toI, cutL_fromI, cutL_midI, cutL_all, oLen, seqOf, oInt, oAbs, oMax2, oMin2, oTuple, oList, vIsN_non, vIsN_str, vIsN_int, vIsN_tup, vIsN_lst, dSetO, vIx, hG, hmod, hp, h7, m1, m2, ix0, ix1, ix2, ha, hs, nxt, dO]
    · simp [dSeq_ev, seqR_nx, seqR_rt, seqR_ct, seqR_bk, seqR_ex, seqR_ite, runF_ev, resR_nx, resR_rt, resR_ex, resR_ite, startE, wp_nxK, wp_rtK, wp_ctK, wp_bkK, wp_exK, wp_nxP, wp_rtP, wp_ite, R.bind_ok, R.bind_exn, sb_ok, sb_exn, opt_some, opt_ite, bind_ite, sb_ite, dC, dVar, dPk, Fv.toVl, dBin, dUn, dTest, vTru, dTB_ev, tbK_bl, dAnd, dOr, dNot, dBV, dIf, dChain_ev, chK_bl, daNil, daCons, dTup, dLst, dIx, doNone, doSome, dSl, dFn, diVal, diRng, dCall, dRet, dRetN, dExpr, dIfS_ev, dAsg, gSet, gUn, gsNil, gsCons, itemsOf, dNext, dBreak, dCont, dRaise, dxC, dxE, dTold_ev, toldR_ok, toldR_exn, toldR_ite, dMeth, dFld, List.lookup, dSetF, putN, dPar, dPar3, vNeg, vSub_int, vAdd_int, vEq_int, vNe_int, vLt_int, vGt_int, vLe_int, vGe_int, vIx_lst, vIx_tup, atI_int, vSl_tup, vSl_lst, cutL_toI, cutL_fromI, cutL_midI, cutL_all, oLen, seqOf, oInt, oAbs, oMax2, oMin2, oTuple, oList, vIsN_non, vIsN_str, vIsN_int, vIsN_tup, vIsN_lst, dSetO, vIx, hG, hmod, hp, h7, m1, m2, ix0, ix1, ix2, h2, e1, hs, nxt, dO]
/-- a roll of the first object -/
theorem roll0 {T : Gst} {d : D3} {many : Int} (hm : 0 < many ∧ many < 4611686018427387904) : M__law_roll [.ref 0, .int many] (dO d :: T) = .ok (.int (rv many d : Nat)) (dO (rd many d) :: T) := roll _ 0 d many rfl hm
theorem dice (n : Int) (G : Gst) : ∃ d, M__law_dice [.int n] G = .ok (.ref G.length) (G ++ [dO d]) := by
  have hp : ∀ x : Int, vMod (.int x) (.int 1009) = some (.int (x % 1009)) := fun x => vMod_int _ _ (by decide)
  have hw : vPow (.int 10) (.int 18) = some (.int (10 ^ 18)) := rfl
  by_cases h : -10 < n ∧ n < 10
  · obtain ⟨h1, h2⟩ := h
    refine ⟨(if n < 0 then -n else n, 0, 2), ?_⟩
    unfold M__law_dice D__law_dice
    simp [dSeq_ev, seqR_nx, seqR_rt, seqR_ct, seqR_bk, seqR_ex, seqR_ite, runF_ev, resR_nx, resR_rt, resR_ex, resR_ite, startE, wp_nxK, wp_rtK, wp_ctK, wp_bkK, wp_exK, wp_nxP, wp_rtP, wp_ite, R.bind_ok, R.bind_exn, sb_ok, sb_exn, opt_some, opt_ite, bind_ite, sb_ite, dC, dVar, dPk, Fv.toVl, dBin, dUn, dTest, vTru, dTB_ev, tbK_bl, dAnd, dOr, dNot, dBV, dIf, dChain_ev, chK_bl, daNil, daCons, dTup, dLst, dIx, doNone, doSome, dSl, dFn, diVal, diRng, dCall, dRet, dRetN, dExpr, dIfS_ev, dAsg, gSet, gUn, gsNil, gsCons, itemsOf, dNext, dBreak, dCont, dRaise, dxC, dxE, dTold_ev, toldR_ok, toldR_exn, toldR_ite, dMeth, dFld, List.lookup, dSetF, putN, dPar, dPar3, vNeg, vSub_int, vAdd_int, vEq_int, vNe_int, vLt_int, vGt_int, vLe_int, vGe_int, vIx_lst, vIx_tup, atI_int, vSl_tup, vSl_lst, cutL_toI, cutL_fromI, cutL_midI, cutL_all, oLen, seqOf, oInt, oAbs, oMax2, oMin2, oTuple, oList, vIsN_non, vIsN_str, vIsN_int, vIsN_tup, vIsN_lst, dRetO, h1, h2, dO]
  · refine ⟨(n, 1 + n % 1009, if 10 ^ 18 ≤ n then 1 else 0), ?_⟩
    unfold M__law_dice D__law_dice
    by_cases h1 : -10 < n
    · have h2 : ¬ n < 10 := fun z => h ⟨h1, z⟩
      simp [dSeq_ev, seqR_nx, seqR_rt, seqR_ct, seqR_bk, seqR_ex, seqR_ite, runF_ev, resR_nx, resR_rt, resR_ex, resR_ite, startE, wp_nxK, wp_rtK, wp_ctK, wp_bkK, wp_exK, wp_nxP, wp_rtP, wp_ite, R.bind_ok, R.bind_exn, sb_ok, sb_exn, opt_some, opt_ite, bind_ite, sb_ite, dC, dVar, dPk, Fv.toVl, dBin, dUn, dTest, vTru, dTB_ev, tbK_bl, dAnd, dOr, dNot, dBV, dIf, dChain_ev, chK_bl, daNil, daCons, dTup, dLst, dIx, doNone, doSome, dSl, dFn, diVal, diRng, dCall, dRet, dRetN, dExpr, dIfS_ev, dAsg, gSet, gUn, gsNil, gsCons, itemsOf, dNext, dBreak, dCont, dRaise, dxC, dxE, dTold_ev, toldR_ok, toldR_exn, toldR_ite, dMeth, dFld, List.lookup, dSetF, putN, dPar, dPar3, vNeg, vSub_int, vAdd_int, vEq_int, vNe_int, vLt_int, vGt_int, vLe_int, vGe_int, vIx_lst, vIx_tup, atI_int, vSl_tup, vSl_lst, cutL_toI, cutL_fromI, cutL_midI, cutL_all, oLen, seqOf, oInt, oAbs, oMax2, oMin2, oTuple, oList, vIsN_non, vIsN_str, vIsN_int, vIsN_tup, vIsN_lst, dRetO, h1, h2, hp, hw, dO]
    · simp [dSeq_ev, seqR_nx, seqR_rt, seqR_ct, seqR_bk, seqR_ex, seqR_ite, runF_ev, resR_nx, resR_rt, resR_ex, resR_ite, startE, wp_nxK, wp_rtK, wp_ctK, wp_bkK, wp_exK, wp_nxP, wp_rtP, wp_ite, R.bind_ok, R.bind_exn, sb_ok, sb_exn, opt_some, opt_ite, bind_ite, sb_ite, dC, dVar, dPk, Fv.toVl, dBin, dUn, dTest, vTru, dTB_ev, tbK_bl, dAnd, dOr, dNot, dBV, dIf, dChain_ev, chK_bl, daNil, daCons, dTup, dLst, dIx, doNone, doSome, dSl, dFn, diVal, diRng, dCall, dRet, dRetN, dExpr, dIfS_ev, dAsg, gSet, gUn, gsNil, gsCons, itemsOf, dNext, dBreak, dCont, dRaise, dxC, dxE, dTold_ev, toldR_ok, toldR_exn, toldR_ite, dMeth, dFld, List.lookup, dSetF, putN, dPar, dPar3, vNeg, vSub_int, vAdd_int, vEq_int, vNe_int, vLt_int, vGt_int, vLe_int, vGe_int, vIx_lst, vIx_tup, atI_int, vSl_tup, vSl_lst, cutL_toI, cutL_fromI, cutL_midI, cutL_all, oLen, seqOf, oInt, oAbs, oMax2, oMin2, oTuple, oList, vIsN_non, vIsN_str, vIsN_int, vIsN_tup, vIsN_lst, dRetO, h1, hp, hw, dO]
theorem dicesL (e0 : LEnv) (h3 : 3 < e0.length) : ∀ (cells : List Int) (G : Gst), ∃ ds : List D3, ds.length = cells.length ∧
    compL (gSet 3) dYes (dCall 1 M__law_dice (daCons (dVar 3) daNil)) e0 (cells.map .int) G = .ok ((List.range' G.length cells.length).map .ref) (G ++ ds.map dO)
  | [], G => ⟨[], rfl, by simp [compL]⟩
  | n :: ns, G => by
    obtain ⟨d, e⟩ := dice n G
    obtain ⟨ds, hl, ih⟩ := dicesL e0 h3 ns (G ++ [dO d])
    refine ⟨d :: ds, by simp [hl], ?_⟩
    have hv : (e0.set 3 (some (.val (.int n))))[3]? = some (some (.val (.int n))) := by simp [h3]
    rw [List.map_cons]
    unfold compL
    simp only [gSet, dYes, R.bind_ok, dCall, daCons, daNil, dVar, hv, List.length_cons, List.length_nil, if_true, e]
    rw [ih]
    simp [List.range'_succ]
theorem rounds (ns : List Int) (m : Nat) (hm : 0 < m) (hb : m ≤ 63) : ∃ ds : List D3, 0 < ds.length ∧ ds.length ≤ m ∧
    M__law_rounds [.scr ns, .int (m : Int)] [] = .ok (.lst ((List.range ds.length).map .ref)) (ds.map dO) := by
  have key : ∀ cells : List Int, 0 < cells.length → cells.length ≤ m → (∀ ds : List D3, True) → ∃ ds : List D3, 0 < ds.length ∧ ds.length ≤ m ∧
      dLc [3] (diVal (dVar 2)) (gSet 3) dYes (dCall 1 M__law_dice (daCons (dVar 3) daNil)) [some (.val (.scr ns)), some (.val (.int m)), some (.val (.lst (cells.map .int))), none] [] = .ok (.lst ((List.range ds.length).map .ref)) (ds.map dO) := by
    intro cells h0 h1 _
    obtain ⟨ds, hl, e⟩ := dicesL (wipeE [some (.val (.scr ns)), some (.val (.int m)), some (.val (.lst (cells.map .int))), none] [3]) (by simp [wipeE]) cells []
    refine ⟨ds, by omega, by omega, ?_⟩
    have h63 : cells.length ≤ 16777216 := by omega
    unfold dLc
    simp only [diVal, dVar, List.getElem?_cons_succ, List.getElem?_cons_zero, R.bind_ok, walkOf, opt, e, noex]
    simp [hl, List.range_eq_range', h63]
  have e0 := vEq_lst0 (xs := (ns.take m).map .int) gds_int
  unfold M__law_rounds D__law_rounds
  by_cases h : ns.take m = []
  · obtain ⟨ds, h1, h2, e⟩ := key [0] (by simp) (by simp; omega) fun _ => trivial
    refine ⟨ds, h1, h2, ?_⟩
    simp at e
    simp [dSeq_ev, seqR_nx, seqR_rt, seqR_ct, seqR_bk, seqR_ex, seqR_ite, runF_ev, resR_nx, resR_rt, resR_ex, resR_ite, startE, wp_nxK, wp_rtK, wp_ctK, wp_bkK, wp_exK, wp_nxP, wp_rtP, wp_ite, R.bind_ok, R.bind_exn, sb_ok, sb_exn, opt_some, opt_ite, bind_ite, sb_ite, dC, dVar, dPk, Fv.toVl, dBin, dUn, dTest, vTru, dTB_ev, tbK_bl, dAnd, dOr, dNot, dBV, dIf, dChain_ev, chK_bl, daNil, daCons, dTup, dLst, dIx, doNone, doSome, dSl, dFn, diVal, diRng, dCall, dRet, dRetN, dExpr, dIfS_ev, dAsg, gSet, gUn, gsNil, gsCons, itemsOf, dNext, dBreak, dCont, dRaise, dxC, dxE, dTold_ev, toldR_ok, toldR_exn, toldR_ite, dMeth, dFld, List.lookup, dSetF, putN, dPar, dPar3, vNeg, vSub_int, vAdd_int, vEq_int, vNe_int, vLt_int, vGt_int, vLe_int, vGe_int, vIx_lst, vIx_tup, atI_int, vSl_tup, vSl_lst, cutL_toI, cutL_fromI, cutL_midI, cutL_all, oLen, seqOf, oInt, oAbs, oMax2, oMin2, oTuple, oList, vIsN_non, vIsN_str, vIsN_int, vIsN_tup, vIsN_lst, vSl, h, e, vEq_lst0 gds_nil]
  · obtain ⟨ds, h1, h2, e⟩ := key (ns.take m) (by cases q : ns.take m with | nil => exact absurd q h | cons _ _ => simp) (by simp; omega) fun _ => trivial
    refine ⟨ds, h1, h2, ?_⟩
    have hne : ((ns.take m).map Vl.int).isEmpty = false := by cases q : ns.take m with | nil => exact absurd q h | cons _ _ => rfl
    rw [hne] at e0
    rw [List.map_take] at e0 e
    simp [dSeq_ev, seqR_nx, seqR_rt, seqR_ct, seqR_bk, seqR_ex, seqR_ite, runF_ev, resR_nx, resR_rt, resR_ex, resR_ite, startE, wp_nxK, wp_rtK, wp_ctK, wp_bkK, wp_exK, wp_nxP, wp_rtP, wp_ite, R.bind_ok, R.bind_exn, sb_ok, sb_exn, opt_some, opt_ite, bind_ite, sb_ite, dC, dVar, dPk, Fv.toVl, dBin, dUn, dTest, vTru, dTB_ev, tbK_bl, dAnd, dOr, dNot, dBV, dIf, dChain_ev, chK_bl, daNil, daCons, dTup, dLst, dIx, doNone, doSome, dSl, dFn, diVal, diRng, dCall, dRet, dRetN, dExpr, dIfS_ev, dAsg, gSet, gUn, gsNil, gsCons, itemsOf, dNext, dBreak, dCont, dRaise, dxC, dxE, dTold_ev, toldR_ok, toldR_exn, toldR_ite, dMeth, dFld, List.lookup, dSetF, putN, dPar, dPar3, vNeg, vSub_int, vAdd_int, vEq_int, vNe_int, vLt_int, vGt_int, vLe_int, vGe_int, vIx_lst, vIx_tup, atI_int, vSl_tup, vSl_lst, cutL_toI, cutL_fromI, cutL_midI, cutL_all, oLen, seqOf, oInt, oAbs, oMax2, oMin2, oTuple, oList, vIsN_non, vIsN_str, vIsN_int, vIsN_tup, vIsN_lst, vSl, e, e0]
theorem round1 (ns : List Int) : ∃ d : D3, M__law_rounds [.scr ns, .int 1] [] = .ok (.lst [.ref 0]) [dO d] := by
  obtain ⟨ds, h1, h2, e⟩ := rounds ns 1 (by decide) (by decide)
  match ds, h1, h2 with
  | [d], _, _ => exact ⟨d, e⟩
theorem compL_rolls {g : DG} {de : DE} {e0 : LEnv} (T : Gst) (m : Nat) (hm : 0 < m) (f : Nat → Vl) : ∀ (l : List Vl) (d : D3), (∀ a ∈ l, ∃ e, g e0 a = some e ∧ ∀ d, de e (dO d :: T) = .ok (f (rv m d)) (dO (rd m d) :: T)) →
    ∃ (ks : List Nat) (d' : D3), ks.length = l.length ∧ (∀ k ∈ ks, k < m) ∧ compL g dYes de e0 l (dO d :: T) = .ok (ks.map f) (dO d' :: T)
  | [], d, h => ⟨[], d, rfl, by simp, rfl⟩
  | a :: l, d, h => by
    obtain ⟨e, h1, h2⟩ := h a (by simp)
    obtain ⟨ks, d', e1, e2, e3⟩ := compL_rolls T m hm f l (rd m d) fun b hb => h b (by simp [hb])
    refine ⟨rv m d :: ks, d', by simp [e1], by simpa [rv_ltN d hm] using e2, ?_⟩
    unfold compL
    rw [h1]
    dsimp only
    rw [show dYes e (dO d :: T) = .ok true (dO d :: T) from rfl, R.bind_ok]
    dsimp only
    rw [h2, R.bind_ok, e3, R.bind_ok]; rfl
theorem dLc_rolls {g : DG} {de : DE} {env : LEnv} {G : Gst} {vs : List Nat} {di : DI} {X : R Vl} (hX : dLc vs di g dYes de env G = X) (T : Gst) (m : Nat) (hm : 0 < m) (f : Nat → Vl) (l : List Vl) (d0 : D3) (hdi : di env G = .ok l (dO d0 :: T))
    (h : ∀ a ∈ l, ∃ e, g (wipeE env vs) a = some e ∧ ∀ d, de e (dO d :: T) = .ok (f (rv m d)) (dO (rd m d) :: T)) (hl : l.length ≤ 16777216) :
    ∃ (ks : List Nat) (d' : D3), ks.length = l.length ∧ (∀ k ∈ ks, k < m) ∧ X = .ok (.lst (ks.map f)) (dO d' :: T) := by
  subst hX
  obtain ⟨ks, d', e1, e2, e3⟩ := compL_rolls T m hm f l d0 h
  refine ⟨ks, d', e1, e2, ?_⟩
  unfold dLc
  rw [hdi, R.bind_ok, e3]
  show (if _ then _ else _) = _
  rw [if_pos (by rw [List.length_map]; omega)]
end CardH
end
section
set_option maxHeartbeats 4000000
namespace CardH
open PySem PySem.Spec PyProof.Rows L2
/-! ### cards -/
def cdS (x y : Nat) : Str := ⟨#[x, y]⟩
def rankL : List Nat := [49, 50, 51, 52, 53, 54, 55, 56, 57, 116, 106, 113, 107]
def suitL : List Nat := [99, 100, 104, 115]
def deckR (r : Nat) : List Str := suitL.flatMap fun y => (rankL.take r).map fun x => cdS x y
def isCd (c : Str) : Prop := ∃ x ∈ rankL, ∃ y ∈ suitL, c = cdS x y
theorem deckR_cd {r : Nat} {c : Str} (h : c ∈ deckR r) : isCd c := by
  obtain ⟨y, hy, h⟩ := List.mem_flatMap.mp h
  obtain ⟨x, hx, rfl⟩ := List.mem_map.mp h
  exact ⟨x, List.mem_of_mem_take hx, y, hy, rfl⟩
theorem cdS_inj {x y x' y' : Nat} (h : cdS x y = cdS x' y') : x = x' ∧ y = y' := by
  unfold cdS at h
  injection h with h
  have := congrArg Array.toList h
  simp at this
  exact this
theorem deckR_nodup : ∀ r, r ≤ 13 → (deckR r).Nodup ∧ (deckR r).length = 4 * r := by
  have h : ((List.range 14).all fun r => decide ((deckR r).Nodup ∧ (deckR r).length = 4 * r)) = true := by decide +kernel
  intro r hr
  have := List.all_eq_true.mp h r (List.mem_range.mpr (by omega))
  exact of_decide_eq_true this
theorem check1 (G : Gst) {c : Str} (h : isCd c) : M_check_card [.str c] G = .ok .non G := by
  obtain ⟨x, hx, y, hy, rfl⟩ := h
  have hi : vIsi "str" isi_str (.str (cdS x y)) = some (.bl true) := by
    unfold vIsi
    rfl
  have l2 : (cdS x y).length = 2 := rfl
  have e0 : vIx G (.str (cdS x y)) (.int 0) = some (.str ⟨#[x]⟩) := by kernel_rfl
  have e1 : vIx G (.str (cdS x y)) (.int 1) = some (.str ⟨#[y]⟩) := by kernel_rfl
  have r1 : vNotInV (.str ⟨#[x]⟩) c_RANKS = some (.bl false) := by
    have : ("123456789tjqk" : Str).cps.toList = rankL := by decide +kernel
    simp [vNotInV, vIn, c_RANKS, this, hx]
  have r2 : vNotInV (.str ⟨#[y]⟩) c_SUITS = some (.bl false) := by
    have : ("cdhs" : Str).cps.toList = suitL := by decide +kernel
    simp [vNotInV, vIn, c_SUITS, this, hy]
  unfold M_check_card D_check_card
  simp [dSeq_ev, seqR_nx, seqR_rt, seqR_ct, seqR_bk, seqR_ex, seqR_ite, runF_ev, resR_nx, resR_rt, resR_ex, resR_ite, startE, wp_nxK, wp_rtK, wp_ctK, wp_bkK, wp_exK, wp_nxP, wp_rtP, wp_ite, R.bind_ok, R.bind_exn, sb_ok, sb_exn, opt_some, opt_ite, bind_ite, sb_ite, dC, dVar, dPk, Fv.toVl, dBin, dUn, dTest, vTru, dTB_ev, tbK_bl, dAnd, dOr, dNot, dBV, dIf, dChain_ev, chK_bl, daNil, daCons, dTup, dLst, dIx, doNone, doSome, dSl, dFn, diVal, diRng, dCall, dRet, dRetN, dExpr, dIfS_ev, dAsg, gSet, gUn, gsNil, gsCons, itemsOf, dNext, dBreak, dCont, dRaise, dxC, dxE, dTold_ev, toldR_ok, toldR_exn, toldR_ite, dMeth, dFld, List.lookup, dSetF, putN, dPar, dPar3, vNeg, vSub_int, vAdd_int, vEq_int, vNe_int, vLt_int, vGt_int, vLe_int, vGe_int, vIx_lst, vIx_tup, atI_int, vSl_tup, vSl_lst, cutL_toI, cutL_fromI, cutL_midI, cutL_all, oLen, seqOf, oInt, oAbs, oMax2, oMin2, oTuple, oList, vIsN_non, vIsN_str, vIsN_int, vIsN_tup, vIsN_lst, hi, l2, e0, e1, r1, r2]
abbrev seenD (seen : List Str) : Fv := .od false (seen.map fun c => (Vl.str c, Vl.int 1))
abbrev ccBody : DS := (dSeq (dExpr (dCall 1 M_check_card (daCons (dVar 2) daNil)))
    (dSeq (dIfS (dTB (dBin vInV (dVar 2) (dPk 1)))
    (dRaise (dxC 0))
    dNext)
    (dPutD 1 (dC (.int 1)) (dVar 2))))
def freshB : List Str → List Str → Bool
  | _, [] => true
  | seen, c :: r => !(seen.contains c) && freshB (seen ++ [c]) r
theorem in_seen (c : Str) (seen : List Str) : vInV (.str c) (seenD seen).toVl = some (.bl (seen.contains c)) := by
  have h : ∀ l : List Str, ((List.find? (fun kv : Vl × Vl => decide (keyOf kv.1 = some (Sum.inr c))) (l.map fun c => (Vl.str c, Vl.int 1))).map (·.2)).isSome = l.contains c := by
    intro l
    induction l with
    | nil => rfl
    | cons a l ih =>
      rw [List.map_cons, List.find?_cons, List.contains_cons]
      by_cases e : a = c
      · subst e; simp [keyOf]
      · have e' : ¬ c = a := fun z => e z.symm
        have hd : decide (keyOf (Vl.str a, Vl.int 1).1 = some (Sum.inr c)) = false := decide_eq_false fun z => e (by cases z; rfl)
        rw [hd]
        dsimp only
        rw [ih]; simp [e']
  exact congrArg (fun b => some (Vl.bl b)) (h seen)
theorem put_seen (c : Str) (seen : List Str) (h : seen.contains c = false) : dputF keyOf (seen.map fun c => (Vl.str c, Vl.int 1)) (.str c) (Sum.inr c) (.int 1) = (seen ++ [c]).map fun c => (Vl.str c, Vl.int 1) := by
  unfold dputF
  have h1 : ((seen.map fun c => (Vl.str c, Vl.int 1)).any fun kv => decide (keyOf kv.1 = some (Sum.inr c))) = false := by
    rw [List.any_eq_false]
    intro x hx
    obtain ⟨d, hd, rfl⟩ := List.mem_map.mp hx
    simp only [keyOf, Option.some.injEq, Sum.inr.injEq, decide_eq_true_eq]
    rintro rfl
    simp [hd] at h
  rw [h1]; simp
theorem ccL : ∀ (rest seen : List Str) (G : Gst) (x : Vl) (z : Option Fv), (∀ c ∈ rest, isCd c) → seen.length + rest.length ≤ 1000 →
    if freshB seen rest = true then ∃ e, forL (gSet 2) ccBody (rest.map .str) [some (.val x), some (seenD seen), z] G = .nx e G
    else ∃ e, forL (gSet 2) ccBody (rest.map .str) [some (.val x), some (seenD seen), z] G = .ex { cls := 0 } e G
  | [], seen, G, x, z, _, _ => ⟨_, rfl⟩
  | c :: r, seen, G, x, z, hd, hl => by
    have hc := check1 G (hd c (by simp))
    have ih := ccL r (seen ++ [c]) G x (some (.val (.str c))) (fun d h => hd d (by simp [h])) (by simp at hl ⊢; omega)
    have hin := in_seen c seen
    cases hs : seen.contains c with
    | true =>
      rw [hs] at hin
      have hf : freshB seen (c :: r) = false := by unfold freshB; rw [hs]; rfl
      rw [hf, if_neg Bool.false_ne_true]
      refine ⟨[some (.val x), some (seenD seen), some (.val (.str c))], ?_⟩
      simp only [List.map_cons, forL, gSet, ccBody, dSeq, dExpr, dCall, daCons, daNil, dVar, List.set_cons_succ, List.set_cons_zero, List.getElem?_cons_succ, List.getElem?_cons_zero, R.bind, List.length_cons, List.length_nil, if_true, hc, sb, dIfS, dTB, dBin, dPk, hin, opt, dRaise, dxC]
    | false =>
      rw [hs] at hin
      have hf : freshB seen (c :: r) = freshB (seen ++ [c]) r := by conv => lhs; unfold freshB
                                                                    rw [hs]; rfl
      rw [hf]
      have e : forL (gSet 2) ccBody ((c :: r).map .str) [some (.val x), some (seenD seen), z] G = forL (gSet 2) ccBody (r.map .str) [some (.val x), some (seenD (seen ++ [c])), some (.val (.str c))] G := by
        have hlt : (seen.map fun c => (Vl.str c, Vl.int 1)).length < 16777216 := by simp at hl ⊢; omega
        simp only [List.map_cons, forL, gSet, ccBody, dSeq, dExpr, dCall, daCons, daNil, dVar, List.set_cons_succ, List.set_cons_zero, List.getElem?_cons_succ, List.getElem?_cons_zero, R.bind, List.length_cons, List.length_nil, if_true, hc, sb, dIfS, dTB, dBin, dPk, hin, opt, dNext, dPutD, dC, keyOf, hlt, put_seen c seen hs]
      rw [e]
      exact ih
theorem freshB_iff : ∀ (l seen : List Str), freshB seen l = true ↔ l.Nodup ∧ ∀ x ∈ l, x ∉ seen
  | [], _ => by simp [freshB]
  | c :: r, seen => by
    unfold freshB
    rw [Bool.and_eq_true, freshB_iff r]
    simp only [List.nodup_cons, List.mem_cons, List.mem_append, Bool.not_eq_true', List.contains_eq_mem, decide_eq_false_iff_not]
    constructor
    · rintro ⟨h1, h2, h3⟩
      refine ⟨⟨fun h => ?_, h2⟩, ?_⟩
      · have := h3 c h
        simp at this
      · rintro x (rfl | hx)
        · exact h1
        · have := h3 x hx
          simp at this
          exact this.1
    · rintro ⟨⟨h1, h2⟩, h3⟩
      refine ⟨h3 c (.inl rfl), h2, fun x hx => ?_⟩
      have := h3 x (.inr hx)
      simp [this]
      rintro rfl
      exact h1 hx
/-- check_cards over good cards -/
theorem check_cardsG (v : Vl) (l : List Str) (G : Gst) (hv : walkOf v = some (l.map .str)) (hd : ∀ c ∈ l, isCd c) (hl : l.length ≤ 1000) : M_check_cards [v] G = if l.Nodup then .ok .non G else .exn { cls := 0 } G := by
  have h := ccL l [] G v none hd (by simpa using hl)
  have hf : freshB [] l = true ↔ l.Nodup := by rw [freshB_iff]; simp
  have e : M_check_cards [v] G = resR (forL (gSet 2) ccBody (l.map .str) [some (.val v), some (seenD []), none] G) := by
    show runF 3 (dSeq (dOwnD 1) (dFor (diVal (dVar 0)) (gSet 2) ccBody)) _ _ = _
    generalize ccBody = b
    simp [dSeq_ev, seqR_nx, seqR_rt, seqR_ct, seqR_bk, seqR_ex, seqR_ite, runF_ev, resR_nx, resR_rt, resR_ex, resR_ite, startE, wp_nxK, wp_rtK, wp_ctK, wp_bkK, wp_exK, wp_nxP, wp_rtP, wp_ite, R.bind_ok, R.bind_exn, sb_ok, sb_exn, opt_some, opt_ite, bind_ite, sb_ite, dC, dVar, dPk, Fv.toVl, dBin, dUn, dTest, vTru, dTB_ev, tbK_bl, dAnd, dOr, dNot, dBV, dIf, dChain_ev, chK_bl, daNil, daCons, dTup, dLst, dIx, doNone, doSome, dSl, dFn, diVal, diRng, dCall, dRet, dRetN, dExpr, dIfS_ev, dAsg, gSet, gUn, gsNil, gsCons, itemsOf, dNext, dBreak, dCont, dRaise, dxC, dxE, dTold_ev, toldR_ok, toldR_exn, toldR_ite, dMeth, dFld, List.lookup, dSetF, putN, dPar, dPar3, vNeg, vSub_int, vAdd_int, vEq_int, vNe_int, vLt_int, vGt_int, vLe_int, vGe_int, vIx_lst, vIx_tup, atI_int, vSl_tup, vSl_lst, cutL_toI, cutL_fromI, cutL_midI, cutL_all, oLen, seqOf, oInt, oAbs, oMax2, oMin2, oTuple, oList, vIsN_non, vIsN_str, vIsN_int, vIsN_tup, vIsN_lst, dOwnD, dFor, hv]; rfl
  rw [e]
  by_cases hn : l.Nodup
  · rw [if_pos (hf.mpr hn)] at h
    obtain ⟨e', h⟩ := h
    rw [h, if_pos hn]; rfl
  · rw [if_neg (fun z => hn (hf.mp z))] at h
    obtain ⟨e', h⟩ := h
    rw [h, if_neg hn]; rfl
theorem check_cards (l : List Str) (G : Gst) (hd : ∀ c ∈ l, isCd c) (hl : l.length ≤ 1000) : M_check_cards [.tup (l.map .str)] G = if l.Nodup then .ok .non G else .exn { cls := 0 } G := check_cardsG _ l G rfl hd hl
theorem check_cardsL (l : List Str) (G : Gst) (hd : ∀ c ∈ l, isCd c) (hl : l.length ≤ 1000) : M_check_cards [.lst (l.map .str)] G = if l.Nodup then .ok .non G else .exn { cls := 0 } G := check_cardsG _ l G rfl hd hl
/-! ### cards drawn -/
abbrev cardsBody : DS := (dSeq (dAsg (dIx (dVar 5) (dCall 2 M__law_roll (daCons (dVar 0) (daCons (dFn oLen (daCons (dVar 5) daNil)) daNil)))) (gSet 7))
    (dPar 5 6 (daCons (dLc [9] (diVal (dVar 5)) (gSet 9) (dTB (dBin vNe (dVar 9) (dVar 7))) (dVar 9)) (daCons (dBin vAdd (dVar 6) (dLst (daCons (dVar 7) daNil))) daNil))))
def cardsE (many r : Int) (left found : List Str) (z4 z7 z8 z9 : Option Fv) : LEnv := [some (.val (.ref 0)), some (.val (.int many)), some (.val (.int r)), some (.val (.str "s")), z4, some (.val (.lst (left.map .str))), some (.val (.lst (found.map .str))), z7, z8, z9]
theorem cards00 (m : Vl) (G : Gst) : ∀ r : Nat, r ≤ 13 → D__law_cards (startE 10 [.ref 0, m, .int r]) G = dSeq (dFor (diRng rng1 (daCons (dVar 1) daNil)) (gSet 4) cardsBody) (dRet (dVar 6)) [some (.val (.ref 0)), some (.val m), some (.val (.int r)), some (.val (.str "s")), none, some (.val (.lst ((deckR r).map .str))), some (.val (.lst (List.map Vl.str []))), none, none, none] G
  | 0, _ => by kernel_rfl
  | 1, _ => by kernel_rfl
  | 2, _ => by kernel_rfl
  | 3, _ => by kernel_rfl
  | 4, _ => by kernel_rfl
  | 5, _ => by kernel_rfl
  | 6, _ => by kernel_rfl
  | 7, _ => by kernel_rfl
  | 8, _ => by kernel_rfl
  | 9, _ => by kernel_rfl
  | 10, _ => by kernel_rfl
  | 11, _ => by kernel_rfl
  | 12, _ => by kernel_rfl
  | 13, _ => by kernel_rfl
  | n + 14, h => absurd h (by omega)
theorem cards0 (G : Gst) (many : Nat) (r : Nat) (hr : r ≤ 13) (hm : many ≤ 4611686018427387903) : M__law_cards [.ref 0, .int many, .int r] G = resR (seqR (forL (gSet 4) cardsBody (rgL 0 many) (cardsE many r (deckR r) [] none none none none) G) (dRet (dVar 6))) := by
  have hm' : rng1 [.int many] = some (rgL 0 many) := rng1_nat many (by omega)
  have e2 : M__law_cards [.ref 0, .int many, .int r] G = resR (_) := runF_ev
  have e3 : ∀ (b : DS) (e : LEnv), e[1]? = some (some (.val (.int many))) → dFor (diRng rng1 (daCons (dVar 1) daNil)) (gSet 4) b e G = forL (gSet 4) b (rgL 0 many) e G := fun b e he => by
    simp [dFor, diRng, daCons, daNil, dVar, hm', opt, he]
  rw [e2, cards00 (.int many) G r hr, dSeq_ev, e3 _ _ rfl, cardsE]
theorem filter_ne_len {α : Type} [BEq α] [LawfulBEq α] : ∀ (l : List α) (c : α), c ∈ l → l.Nodup → (l.filter (· != c)).length + 1 = l.length
  | a :: l, c, h, nd => by
    rw [List.nodup_cons] at nd
    by_cases e : a = c
    · subst e
      have : l.filter (· != a) = l := List.filter_eq_self.mpr fun b hb => by
        have : b ≠ a := fun z => nd.1 (z ▸ hb)
        simpa using this
      simp [this]
    · have hc : c ∈ l := by
        rcases List.mem_cons.mp h with z | z
        · exact absurd z.symm e
        · exact z
      have := filter_ne_len l c hc nd.2
      rw [List.filter_cons_of_pos (by simpa using e)]
      simp only [List.length_cons]
      omega
theorem cardsL (deck : List Str) (hdk : deck.Nodup) (hlen : deck.length ≤ 100) (many r : Int) (T : Gst) : ∀ (turns : List Vl) (left found : List Str) (d : D3) (z4 z7 z8 z9 : Option Fv),
    left.Nodup → (∀ c ∈ left, c ∈ deck ∧ c ∉ found) → found.Nodup → (∀ c ∈ found, c ∈ deck) → left.length + found.length = deck.length → turns.length ≤ left.length →
    ∃ left' found' d' z4' z7' z8' z9', forL (gSet 4) cardsBody turns (cardsE many r left found z4 z7 z8 z9) (dO d :: T) = .nx (cardsE many r left' found' z4' z7' z8' z9') (dO d' :: T) ∧
      found'.Nodup ∧ (∀ c ∈ found', c ∈ deck) ∧ found'.length = found.length + turns.length
  | [], left, found, d, z4, z7, z8, z9, _, _, hf, hf2, _, _ => ⟨left, found, d, z4, z7, z8, z9, rfl, hf, hf2, rfl⟩
  | t :: turns, left, found, d, z4, z7, z8, z9, hl, hl2, hf, hf2, hs, ht => by
    have hpos : 0 < left.length := by simp at ht; omega
    have hk := rv_ltN d hpos
    generalize hkk : rv (left.length : Int) d = k at hk
    have hck : left[k]? = some left[k] := by simp [hk]
    generalize left[k] = c at hck
    have hcm : c ∈ left := List.mem_of_getElem? hck
    clear hk
    have hlen1 := filter_ne_len left c hcm hl
    obtain ⟨left', found', d', z4', z7', z8', z9', e, h1, h2, h3⟩ := cardsL deck hdk hlen many r T turns (left.filter (· != c)) (found ++ [c]) (rd left.length d) (some (.val t)) (some (.val (.str c))) z8 z9
      (hl.filter _) (fun x hx => by
        obtain ⟨hx1, hx2⟩ := List.mem_filter.mp hx
        have := hl2 x hx1
        refine ⟨this.1, ?_⟩
        simp only [List.mem_append, List.mem_singleton, not_or]
        exact ⟨this.2, by simpa using hx2⟩) (by
        rw [List.nodup_append]
        refine ⟨hf, by simp, ?_⟩
        intro a ha b hb
        simp only [List.mem_singleton] at hb
        subst hb
        exact fun z => (hl2 b hcm).2 (z ▸ ha)) (fun x hx => by
        simp only [List.mem_append, List.mem_singleton] at hx
        rcases hx with hx | rfl
        · exact hf2 x hx
        · exact (hl2 x hcm).1) (by simp; omega) (by simp at ht; omega)
    refine ⟨left', found', d', z4', z7', z8', z9', ?_, h1, h2, by simp [h3]; omega⟩
    rw [← e]
    conv => lhs; unfold forL
    have hroll : M__law_roll [.ref 0, .int left.length] (dO d :: T) = .ok (.int (k : Nat)) (dO (rd left.length d) :: T) := by rw [roll0 (by omega), hkk]
    have hlc : ∀ G', dLc [9] (diVal (dVar 5)) (gSet 9) (dTB (dBin vNe (dVar 9) (dVar 7))) (dVar 9) (cardsE many r left found (some (.val t)) (some (.val (.str c))) z8 z9) G' = .ok (.lst ((left.filter (· != c)).map .str)) G' := fun G' => by
      refine dLc_tm left Vl.str (· != c) Vl.str ?_ (fun a ha => ⟨_, rfl, ?_, fun _ => ?_⟩) (by omega)
      · simp [dSeq_ev, seqR_nx, seqR_rt, seqR_ct, seqR_bk, seqR_ex, seqR_ite, runF_ev, resR_nx, resR_rt, resR_ex, resR_ite, startE, wp_nxK, wp_rtK, wp_ctK, wp_bkK, wp_exK, wp_nxP, wp_rtP, wp_ite, R.bind_ok, R.bind_exn, sb_ok, sb_exn, opt_some, opt_ite, bind_ite, sb_ite, dC, dVar, dPk, Fv.toVl, dBin, dUn, dTest, vTru, dTB_ev, tbK_bl, dAnd, dOr, dNot, dBV, dIf, dChain_ev, chK_bl, daNil, daCons, dTup, dLst, dIx, doNone, doSome, dSl, dFn, diVal, diRng, dCall, dRet, dRetN, dExpr, dIfS_ev, dAsg, gSet, gUn, gsNil, gsCons, itemsOf, dNext, dBreak, dCont, dRaise, dxC, dxE, dTold_ev, toldR_ok, toldR_exn, toldR_ite, dMeth, dFld, List.lookup, dSetF, putN, dPar, dPar3, vNeg, vSub_int, vAdd_int, vEq_int, vNe_int, vLt_int, vGt_int, vLe_int, vGe_int, vIx_lst, vIx_tup, atI_int, vSl_tup, vSl_lst, cutL_toI, cutL_fromI, cutL_midI, cutL_all, oLen, seqOf, oInt, oAbs, oMax2, oMin2, oTuple, oList, vIsN_non, vIsN_str, vIsN_int, vIsN_tup, vIsN_lst, walkOf, cardsE]
      · simp [dSeq_ev, seqR_nx, seqR_rt, seqR_ct, seqR_bk, seqR_ex, seqR_ite, runF_ev, resR_nx, resR_rt, resR_ex, resR_ite, startE, wp_nxK, wp_rtK, wp_ctK, wp_bkK, wp_exK, wp_nxP, wp_rtP, wp_ite, R.bind_ok, R.bind_exn, sb_ok, sb_exn, opt_some, opt_ite, bind_ite, sb_ite, dC, dVar, dPk, Fv.toVl, dBin, dUn, dTest, vTru, dTB_ev, tbK_bl, dAnd, dOr, dNot, dBV, dIf, dChain_ev, chK_bl, daNil, daCons, dTup, dLst, dIx, doNone, doSome, dSl, dFn, diVal, diRng, dCall, dRet, dRetN, dExpr, dIfS_ev, dAsg, gSet, gUn, gsNil, gsCons, itemsOf, dNext, dBreak, dCont, dRaise, dxC, dxE, dTold_ev, toldR_ok, toldR_exn, toldR_ite, dMeth, dFld, List.lookup, dSetF, putN, dPar, dPar3, vNeg, vSub_int, vAdd_int, vEq_int, vNe_int, vLt_int, vGt_int, vLe_int, vGe_int, vIx_lst, vIx_tup, atI_int, vSl_tup, vSl_lst, cutL_toI, cutL_fromI, cutL_midI, cutL_all, oLen, seqOf, oInt, oAbs, oMax2, oMin2, oTuple, oList, vIsN_non, vIsN_str, vIsN_int, vIsN_tup, vIsN_lst, cardsE, wipeE, vNe_str, bne]
        rw [Bool.eq_iff_iff]; simp
      · simp [dSeq_ev, seqR_nx, seqR_rt, seqR_ct, seqR_bk, seqR_ex, seqR_ite, runF_ev, resR_nx, resR_rt, resR_ex, resR_ite, startE, wp_nxK, wp_rtK, wp_ctK, wp_bkK, wp_exK, wp_nxP, wp_rtP, wp_ite, R.bind_ok, R.bind_exn, sb_ok, sb_exn, opt_some, opt_ite, bind_ite, sb_ite, dC, dVar, dPk, Fv.toVl, dBin, dUn, dTest, vTru, dTB_ev, tbK_bl, dAnd, dOr, dNot, dBV, dIf, dChain_ev, chK_bl, daNil, daCons, dTup, dLst, dIx, doNone, doSome, dSl, dFn, diVal, diRng, dCall, dRet, dRetN, dExpr, dIfS_ev, dAsg, gSet, gUn, gsNil, gsCons, itemsOf, dNext, dBreak, dCont, dRaise, dxC, dxE, dTold_ev, toldR_ok, toldR_exn, toldR_ite, dMeth, dFld, List.lookup, dSetF, putN, dPar, dPar3, vNeg, vSub_int, vAdd_int, vEq_int, vNe_int, vLt_int, vGt_int, vLe_int, vGe_int, vIx_lst, vIx_tup, atI_int, vSl_tup, vSl_lst, cutL_toI, cutL_fromI, cutL_midI, cutL_all, oLen, seqOf, oInt, oAbs, oMax2, oMin2, oTuple, oList, vIsN_non, vIsN_str, vIsN_int, vIsN_tup, vIsN_lst, cardsE, wipeE]
    simp only [cardsE] at hlc ⊢
    have hv : (left.map Vl.str)[k]? = some (.str c) := by simp [hck]
    simp (disch := first | assumption | (simp [gd_str, gd_int, gd_bl, gd_non, gd_tup, gd_lst, gds_nil, gds_cons, gds_append, gds_str, gds_int, gds_take, gds_drop, gds_ints]; done) | (simp only [List.length_append, List.length_take, List.length_drop, List.length_map, List.length_cons, List.length_nil, List.length_range] <;> omega) | omega) [dSeq_ev, seqR_nx, seqR_rt, seqR_ct, seqR_bk, seqR_ex, seqR_ite, runF_ev, resR_nx, resR_rt, resR_ex, resR_ite, startE, wp_nxK, wp_rtK, wp_ctK, wp_bkK, wp_exK, wp_nxP, wp_rtP, wp_ite, R.bind_ok, R.bind_exn, sb_ok, sb_exn, opt_some, opt_ite, bind_ite, sb_ite, dC, dVar, dPk, Fv.toVl, dBin, dUn, dTest, vTru, dTB_ev, tbK_bl, dAnd, dOr, dNot, dBV, dIf, dChain_ev, chK_bl, daNil, daCons, dTup, dLst, dIx, doNone, doSome, dSl, dFn, diVal, diRng, dCall, dRet, dRetN, dExpr, dIfS_ev, dAsg, gSet, gUn, gsNil, gsCons, itemsOf, dNext, dBreak, dCont, dRaise, dxC, dxE, dTold_ev, toldR_ok, toldR_exn, toldR_ite, dMeth, dFld, List.lookup, dSetF, putN, dPar, dPar3, vNeg, vSub_int, vAdd_int, vEq_int, vNe_int, vLt_int, vGt_int, vLe_int, vGe_int, vIx_lst, vIx_tup, atI_int, vSl_tup, vSl_lst, cutL_toI, cutL_fromI, cutL_midI, cutL_all, oLen, seqOf, oInt, oAbs, oMax2, oMin2, oTuple, oList, vIsN_non, vIsN_str, vIsN_int, vIsN_tup, vIsN_lst, hroll, hlc, vAdd_lst, hck, hv, cardsBody]
/-- cards drawn -/
theorem cards (d : D3) (T : Gst) (many r : Nat) (hr : r ≤ 13) (hm : many ≤ 4 * r) :
    ∃ (cs : List Str) (d' : D3), M__law_cards [.ref 0, .int many, .int r] (dO d :: T) = .ok (.lst (cs.map .str)) (dO d' :: T) ∧ cs.length = many ∧ cs.Nodup ∧ (∀ c ∈ cs, c ∈ deckR r) := by
  have e := cards0 (dO d :: T) many r hr (by omega)
  obtain ⟨nd, ln⟩ := deckR_nodup r hr
  obtain ⟨left', found', d', z4', z7', z8', z9', e1, h1, h2, h3⟩ := cardsL (deckR r) nd (by omega) many r T (rgL 0 many) (deckR r) [] d none none none none nd (fun c hc => ⟨hc, by simp⟩) (by simp) (by simp) (by simp) (by simp [rgL]; omega)
  refine ⟨found', d', ?_, by simp [h3, rgL], h1, h2⟩
  rw [e, e1]
  simp [dSeq_ev, seqR_nx, seqR_rt, seqR_ct, seqR_bk, seqR_ex, seqR_ite, runF_ev, resR_nx, resR_rt, resR_ex, resR_ite, startE, wp_nxK, wp_rtK, wp_ctK, wp_bkK, wp_exK, wp_nxP, wp_rtP, wp_ite, R.bind_ok, R.bind_exn, sb_ok, sb_exn, opt_some, opt_ite, bind_ite, sb_ite, dC, dVar, dPk, Fv.toVl, dBin, dUn, dTest, vTru, dTB_ev, tbK_bl, dAnd, dOr, dNot, dBV, dIf, dChain_ev, chK_bl, daNil, daCons, dTup, dLst, dIx, doNone, doSome, dSl, dFn, diVal, diRng, dCall, dRet, dRetN, dExpr, dIfS_ev, dAsg, gSet, gUn, gsNil, gsCons, itemsOf, dNext, dBreak, dCont, dRaise, dxC, dxE, dTold_ev, toldR_ok, toldR_exn, toldR_ite, dMeth, dFld, List.lookup, dSetF, putN, dPar, dPar3, vNeg, vSub_int, vAdd_int, vEq_int, vNe_int, vLt_int, vGt_int, vLe_int, vGe_int, vIx_lst, vIx_tup, atI_int, vSl_tup, vSl_lst, cutL_toI, cutL_fromI, cutL_midI, cutL_all, oLen, seqOf, oInt, oAbs, oMax2, oMin2, oTuple, oList, vIsN_non, vIsN_str, vIsN_int, vIsN_tup, vIsN_lst, cardsE]
theorem card1 (d : D3) (T : Gst) (r : Nat) (hr : r ≤ 13) (h1 : 1 ≤ r) : ∃ (c : Str) (d' : D3), M__law_cards [.ref 0, .int 1, .int r] (dO d :: T) = .ok (.lst [.str c]) (dO d' :: T) ∧ c ∈ deckR r := by
  obtain ⟨cs, d', e, hl, _, hd⟩ := cards d T 1 r hr (by omega)
  match cs, hl with
  | [c], _ => exact ⟨c, d', e, hd c (by simp)⟩
end CardH
end
section
set_option maxHeartbeats 4000000
namespace CardH
open PySem PySem.Spec PyProof.Rows L2
/-! ### a card's rank and suit -/
def rkN (x : Nat) : Nat := rankL.idxOf x + 1
def sg (x : Nat) : Str := ⟨#[x]⟩
theorem rank_ind {P : Nat → Prop} (h : P 49 ∧ P 50 ∧ P 51 ∧ P 52 ∧ P 53 ∧ P 54 ∧ P 55 ∧ P 56 ∧ P 57 ∧ P 116 ∧ P 106 ∧ P 113 ∧ P 107) : ∀ x ∈ rankL, P x := by
  intro x hx
  simp only [rankL, List.mem_cons, List.not_mem_nil, or_false] at hx
  obtain ⟨h1, h2, h3, h4, h5, h6, h7, h8, h9, h10, h11, h12, h13⟩ := h
  rcases hx with rfl | rfl | rfl | rfl | rfl | rfl | rfl | rfl | rfl | rfl | rfl | rfl | rfl <;> assumption
theorem suit_ind {P : Nat → Prop} (h : P 99 ∧ P 100 ∧ P 104 ∧ P 115) : ∀ x ∈ suitL, P x := by
  intro x hx
  simp only [suitL, List.mem_cons, List.not_mem_nil, or_false] at hx
  obtain ⟨h1, h2, h3, h4⟩ := h
  rcases hx with rfl | rfl | rfl | rfl <;> assumption
theorem sidx (G : Gst) : ∀ x ∈ rankL, oSIx G (.str "123456789tjqk") [.str (sg x)] = some (.int (rankL.idxOf x : Nat)) := by
  refine rank_ind ⟨?_, ?_, ?_, ?_, ?_, ?_, ?_, ?_, ?_, ?_, ?_, ?_, ?_⟩ <;> kernel_rfl
theorem rkN_bd : ∀ x ∈ rankL, 1 ≤ rkN x ∧ rkN x ≤ 13 := rank_ind (by decide +kernel)
section
variable (G : Gst) (x y : Nat)
theorem cd_0 : vIx G (.str (cdS x y)) (.int 0) = some (.str (sg x)) := by kernel_rfl
theorem cd_1 : vIx G (.str (cdS x y)) (.int 1) = some (.str (sg y)) := by kernel_rfl
theorem cd_from : vSl G (.str (cdS x y)) (some 1) none = some (.str (sg y)) := by kernel_rfl
theorem cd_to : vSl G (.str (cdS x y)) none (some 1) = some (.str (sg x)) := by kernel_rfl
theorem cd_add : vAdd (.str (sg x)) (.str (sg y)) = some (.str (cdS x y)) := by kernel_rfl
end
theorem law_key (G : Gst) {x y : Nat} (hx : x ∈ rankL) : M__law_key [.str (cdS x y)] G = .ok (.tup [.str (sg y), .int (rkN x : Nat)]) G := by
  unfold M__law_key D__law_key
  simp [dSeq_ev, seqR_nx, seqR_rt, seqR_ct, seqR_bk, seqR_ex, seqR_ite, runF_ev, resR_nx, resR_rt, resR_ex, resR_ite, startE, wp_nxK, wp_rtK, wp_ctK, wp_bkK, wp_exK, wp_nxP, wp_rtP, wp_ite, R.bind_ok, R.bind_exn, sb_ok, sb_exn, opt_some, opt_ite, bind_ite, sb_ite, dC, dVar, dPk, Fv.toVl, dBin, dUn, dTest, vTru, dTB_ev, tbK_bl, dAnd, dOr, dNot, dBV, dIf, dChain_ev, chK_bl, daNil, daCons, dTup, dLst, dIx, doNone, doSome, dSl, dFn, diVal, diRng, dCall, dRet, dRetN, dExpr, dIfS_ev, dAsg, gSet, gUn, gsNil, gsCons, itemsOf, dNext, dBreak, dCont, dRaise, dxC, dxE, dTold_ev, toldR_ok, toldR_exn, toldR_ite, dMeth, dFld, List.lookup, dSetF, putN, dPar, dPar3, vNeg, vSub_int, vAdd_int, vEq_int, vNe_int, vLt_int, vGt_int, vLe_int, vGe_int, vIx_lst, vIx_tup, atI_int, vSl_tup, vSl_lst, cutL_toI, cutL_fromI, cutL_midI, cutL_all, oLen, seqOf, oInt, oAbs, oMax2, oMin2, oTuple, oList, vIsN_non, vIsN_str, vIsN_int, vIsN_tup, vIsN_lst, dBm, tStr, tTup, tLst, dCat, lstOf, dListO, dLstO, dBmW, dTupRev, cd_from, cd_to, sidx _ x hx, rkN]
theorem rank_of (G : Gst) {x y : Nat} (hx : x ∈ rankL) (hy : y ∈ suitL) : M_rank_of [.str (cdS x y)] G = .ok (.int (rkN x : Nat)) G := by
  have hc := fun G => check1 G ⟨x, hx, y, hy, rfl⟩
  unfold M_rank_of D_rank_of
  simp [dSeq_ev, seqR_nx, seqR_rt, seqR_ct, seqR_bk, seqR_ex, seqR_ite, runF_ev, resR_nx, resR_rt, resR_ex, resR_ite, startE, wp_nxK, wp_rtK, wp_ctK, wp_bkK, wp_exK, wp_nxP, wp_rtP, wp_ite, R.bind_ok, R.bind_exn, sb_ok, sb_exn, opt_some, opt_ite, bind_ite, sb_ite, dC, dVar, dPk, Fv.toVl, dBin, dUn, dTest, vTru, dTB_ev, tbK_bl, dAnd, dOr, dNot, dBV, dIf, dChain_ev, chK_bl, daNil, daCons, dTup, dLst, dIx, doNone, doSome, dSl, dFn, diVal, diRng, dCall, dRet, dRetN, dExpr, dIfS_ev, dAsg, gSet, gUn, gsNil, gsCons, itemsOf, dNext, dBreak, dCont, dRaise, dxC, dxE, dTold_ev, toldR_ok, toldR_exn, toldR_ite, dMeth, dFld, List.lookup, dSetF, putN, dPar, dPar3, vNeg, vSub_int, vAdd_int, vEq_int, vNe_int, vLt_int, vGt_int, vLe_int, vGe_int, vIx_lst, vIx_tup, atI_int, vSl_tup, vSl_lst, cutL_toI, cutL_fromI, cutL_midI, cutL_all, oLen, seqOf, oInt, oAbs, oMax2, oMin2, oTuple, oList, vIsN_non, vIsN_str, vIsN_int, vIsN_tup, vIsN_lst, dBm, tStr, tTup, tLst, dCat, lstOf, dListO, dLstO, dBmW, dTupRev, hc, cd_0, sidx _ x hx, rkN, c_RANKS]
theorem suit_of (G : Gst) {x y : Nat} (hx : x ∈ rankL) (hy : y ∈ suitL) : M_suit_of [.str (cdS x y)] G = .ok (.str (sg y)) G := by
  have hc := fun G => check1 G ⟨x, hx, y, hy, rfl⟩
  unfold M_suit_of D_suit_of
  simp [dSeq_ev, seqR_nx, seqR_rt, seqR_ct, seqR_bk, seqR_ex, seqR_ite, runF_ev, resR_nx, resR_rt, resR_ex, resR_ite, startE, wp_nxK, wp_rtK, wp_ctK, wp_bkK, wp_exK, wp_nxP, wp_rtP, wp_ite, R.bind_ok, R.bind_exn, sb_ok, sb_exn, opt_some, opt_ite, bind_ite, sb_ite, dC, dVar, dPk, Fv.toVl, dBin, dUn, dTest, vTru, dTB_ev, tbK_bl, dAnd, dOr, dNot, dBV, dIf, dChain_ev, chK_bl, daNil, daCons, dTup, dLst, dIx, doNone, doSome, dSl, dFn, diVal, diRng, dCall, dRet, dRetN, dExpr, dIfS_ev, dAsg, gSet, gUn, gsNil, gsCons, itemsOf, dNext, dBreak, dCont, dRaise, dxC, dxE, dTold_ev, toldR_ok, toldR_exn, toldR_ite, dMeth, dFld, List.lookup, dSetF, putN, dPar, dPar3, vNeg, vSub_int, vAdd_int, vEq_int, vNe_int, vLt_int, vGt_int, vLe_int, vGe_int, vIx_lst, vIx_tup, atI_int, vSl_tup, vSl_lst, cutL_toI, cutL_fromI, cutL_midI, cutL_all, oLen, seqOf, oInt, oAbs, oMax2, oMin2, oTuple, oList, vIsN_non, vIsN_str, vIsN_int, vIsN_tup, vIsN_lst, dBm, tStr, tTup, tLst, dCat, lstOf, dListO, dLstO, dBmW, dTupRev, hc, cd_1]
def redB (y : Nat) : Bool := decide (y ∈ [100, 104])
theorem in_dh (y : Nat) : vInV (.str (sg y)) (.str "dh") = some (.bl (redB y)) := by kernel_rfl
theorem is_red (G : Gst) {x y : Nat} (hx : x ∈ rankL) (hy : y ∈ suitL) : M_is_red [.str (cdS x y)] G = .ok (.bl (redB y)) G := by
  unfold M_is_red D_is_red
  simp [dSeq_ev, seqR_nx, seqR_rt, seqR_ct, seqR_bk, seqR_ex, seqR_ite, runF_ev, resR_nx, resR_rt, resR_ex, resR_ite, startE, wp_nxK, wp_rtK, wp_ctK, wp_bkK, wp_exK, wp_nxP, wp_rtP, wp_ite, R.bind_ok, R.bind_exn, sb_ok, sb_exn, opt_some, opt_ite, bind_ite, sb_ite, dC, dVar, dPk, Fv.toVl, dBin, dUn, dTest, vTru, dTB_ev, tbK_bl, dAnd, dOr, dNot, dBV, dIf, dChain_ev, chK_bl, daNil, daCons, dTup, dLst, dIx, doNone, doSome, dSl, dFn, diVal, diRng, dCall, dRet, dRetN, dExpr, dIfS_ev, dAsg, gSet, gUn, gsNil, gsCons, itemsOf, dNext, dBreak, dCont, dRaise, dxC, dxE, dTold_ev, toldR_ok, toldR_exn, toldR_ite, dMeth, dFld, List.lookup, dSetF, putN, dPar, dPar3, vNeg, vSub_int, vAdd_int, vEq_int, vNe_int, vLt_int, vGt_int, vLe_int, vGe_int, vIx_lst, vIx_tup, atI_int, vSl_tup, vSl_lst, cutL_toI, cutL_fromI, cutL_midI, cutL_all, oLen, seqOf, oInt, oAbs, oMax2, oMin2, oTuple, oList, vIsN_non, vIsN_str, vIsN_int, vIsN_tup, vIsN_lst, dBm, tStr, tTup, tLst, dCat, lstOf, dListO, dLstO, dBmW, dTupRev, suit_of _ hx hy, in_dh]
end CardH
end
section
set_option maxHeartbeats 4000000
namespace CardH
open PySem PySem.Spec PyProof.Rows L2
theorem tf0 {G : Gst} : toldR toldF (.exn { cls := 0 } G) = .ok (.str "card") G := rfl
theorem tf1 {G : Gst} : toldR toldF (.exn { cls := 1 } G) = .ok (.str "size") G := rfl
theorem tf2 {G : Gst} : toldR toldF (.exn { cls := 2 } G) = .ok (.str "no such") G := rfl
theorem order_of (G : Gst) {x y : Nat} (hx : x ∈ rankL) (hy : y ∈ suitL) : M_order_of [.str (cdS x y)] G = .ok (.tup [.str (sg y), .int (rkN x : Nat)]) G := by
  unfold M_order_of D_order_of
  simp [dSeq_ev, seqR_nx, seqR_rt, seqR_ct, seqR_bk, seqR_ex, seqR_ite, runF_ev, resR_nx, resR_rt, resR_ex, resR_ite, startE, wp_nxK, wp_rtK, wp_ctK, wp_bkK, wp_exK, wp_nxP, wp_rtP, wp_ite, R.bind_ok, R.bind_exn, sb_ok, sb_exn, opt_some, opt_ite, bind_ite, sb_ite, dC, dVar, dPk, Fv.toVl, dBin, dUn, dTest, vTru, dTB_ev, tbK_bl, dAnd, dOr, dNot, dBV, dIf, dChain_ev, chK_bl, daNil, daCons, dTup, dLst, dIx, doNone, doSome, dSl, dFn, diVal, diRng, dCall, dRet, dRetN, dExpr, dIfS_ev, dAsg, gSet, gUn, gsNil, gsCons, itemsOf, dNext, dBreak, dCont, dRaise, dxC, dxE, dTold_ev, toldR_ok, toldR_exn, toldR_ite, dMeth, dFld, List.lookup, dSetF, putN, dPar, dPar3, vNeg, vSub_int, vAdd_int, vEq_int, vNe_int, vLt_int, vGt_int, vLe_int, vGe_int, vIx_lst, vIx_tup, atI_int, vSl_tup, vSl_lst, cutL_toI, cutL_fromI, cutL_midI, cutL_all, oLen, seqOf, oInt, oAbs, oMax2, oMin2, oTuple, oList, vIsN_non, vIsN_str, vIsN_int, vIsN_tup, vIsN_lst, dBm, tStr, tTup, tLst, dCat, lstOf, dListO, dLstO, dBmW, dTupRev, suit_of _ hx hy, rank_of _ hx hy]
theorem ranks_at (G : Gst) : ∀ x ∈ rankL, vIx G c_RANKS (.int ((rkN x : Nat) - 1 : Int)) = some (.str (sg x)) := by
  refine rank_ind ⟨?_, ?_, ?_, ?_, ?_, ?_, ?_, ?_, ?_, ?_, ?_, ?_, ?_⟩ <;> kernel_rfl
theorem in_suits : ∀ y ∈ suitL, vNotInV (.str (sg y)) (.tup [.str "c", .str "d", .str "h", .str "s"]) = some (.bl false) := by
  refine suit_ind ⟨?_, ?_, ?_, ?_⟩ <;> kernel_rfl
theorem card_of (G : Gst) {x y : Nat} (hx : x ∈ rankL) (hy : y ∈ suitL) : M_card_of [.int (rkN x : Nat), .str (sg y)] G = .ok (.str (cdS x y)) G := by
  obtain ⟨b1, b2⟩ := rkN_bd x hx
  have h1 : (1 : Int) ≤ (rkN x : Nat) := by omega
  have h2 : ((rkN x : Nat) : Int) ≤ 13 := by omega
  unfold M_card_of D_card_of
  simp [dSeq_ev, seqR_nx, seqR_rt, seqR_ct, seqR_bk, seqR_ex, seqR_ite, runF_ev, resR_nx, resR_rt, resR_ex, resR_ite, startE, wp_nxK, wp_rtK, wp_ctK, wp_bkK, wp_exK, wp_nxP, wp_rtP, wp_ite, R.bind_ok, R.bind_exn, sb_ok, sb_exn, opt_some, opt_ite, bind_ite, sb_ite, dC, dVar, dPk, Fv.toVl, dBin, dUn, dTest, vTru, dTB_ev, tbK_bl, dAnd, dOr, dNot, dBV, dIf, dChain_ev, chK_bl, daNil, daCons, dTup, dLst, dIx, doNone, doSome, dSl, dFn, diVal, diRng, dCall, dRet, dRetN, dExpr, dIfS_ev, dAsg, gSet, gUn, gsNil, gsCons, itemsOf, dNext, dBreak, dCont, dRaise, dxC, dxE, dTold_ev, toldR_ok, toldR_exn, toldR_ite, dMeth, dFld, List.lookup, dSetF, putN, dPar, dPar3, vNeg, vSub_int, vAdd_int, vEq_int, vNe_int, vLt_int, vGt_int, vLe_int, vGe_int, vIx_lst, vIx_tup, atI_int, vSl_tup, vSl_lst, cutL_toI, cutL_fromI, cutL_midI, cutL_all, oLen, seqOf, oInt, oAbs, oMax2, oMin2, oTuple, oList, vIsN_non, vIsN_str, vIsN_int, vIsN_tup, vIsN_lst, dBm, tStr, tTup, tLst, dCat, lstOf, dListO, dLstO, dBmW, dTupRev, h1, h2, in_suits y hy, ranks_at _ x hx, cd_add]
theorem whole_pack (G : Gst) : ∀ r : Nat, 1 ≤ r → r ≤ 13 → M_whole_pack [.int r] G = .ok (.tup ((deckR r).map .str)) G
  | 0, h, _ => absurd h (by omega)
  | 1, _, _ => by kernel_rfl
  | 2, _, _ => by kernel_rfl
  | 3, _, _ => by kernel_rfl
  | 4, _, _ => by kernel_rfl
  | 5, _, _ => by kernel_rfl
  | 6, _, _ => by kernel_rfl
  | 7, _, _ => by kernel_rfl
  | 8, _, _ => by kernel_rfl
  | 9, _, _ => by kernel_rfl
  | 10, _, _ => by kernel_rfl
  | 11, _, _ => by kernel_rfl
  | 12, _, _ => by kernel_rfl
  | 13, _, _ => by kernel_rfl
  | n + 14, _, h => absurd h (by omega)
/-! ### packs -/
abbrev packO (rows : List Str) : Ob := .ins 0 [(0, .val (.tup (rows.map .str)))]
section
variable (G : Gst) (i : Nat) (rows : List Str)
theorem pack_make (hr : ∀ c ∈ rows, isCd c) (hn : rows.Nodup) (hl : rows.length ≤ 1000) : M_Pack___init__ [.ref G.length, .lst (rows.map .str)] (G ++ [.ins 0 []]) = .ok .non (G ++ [packO rows]) := by
  have hc := fun G => check_cardsL rows G hr hl
  unfold M_Pack___init__ D_Pack___init__
  simp [dSeq_ev, seqR_nx, seqR_rt, seqR_ct, seqR_bk, seqR_ex, seqR_ite, runF_ev, resR_nx, resR_rt, resR_ex, resR_ite, startE, wp_nxK, wp_rtK, wp_ctK, wp_bkK, wp_exK, wp_nxP, wp_rtP, wp_ite, R.bind_ok, R.bind_exn, sb_ok, sb_exn, opt_some, opt_ite, bind_ite, sb_ite, dC, dVar, dPk, Fv.toVl, dBin, dUn, dTest, vTru, dTB_ev, tbK_bl, dAnd, dOr, dNot, dBV, dIf, dChain_ev, chK_bl, daNil, daCons, dTup, dLst, dIx, doNone, doSome, dSl, dFn, diVal, diRng, dCall, dRet, dRetN, dExpr, dIfS_ev, dAsg, gSet, gUn, gsNil, gsCons, itemsOf, dNext, dBreak, dCont, dRaise, dxC, dxE, dTold_ev, toldR_ok, toldR_exn, toldR_ite, dMeth, dFld, List.lookup, dSetF, putN, dPar, dPar3, vNeg, vSub_int, vAdd_int, vEq_int, vNe_int, vLt_int, vGt_int, vLe_int, vGe_int, vIx_lst, vIx_tup, atI_int, vSl_tup, vSl_lst, cutL_toI, cutL_fromI, cutL_midI, cutL_all, oLen, seqOf, oInt, oAbs, oMax2, oMin2, oTuple, oList, vIsN_non, vIsN_str, vIsN_int, vIsN_tup, vIsN_lst, dBm, tStr, tTup, tLst, dCat, lstOf, dListO, dLstO, dBmW, dTupRev, hc, hn, packO]
theorem pack_makeT (hr : ∀ c ∈ rows, isCd c) (hn : rows.Nodup) (hl : rows.length ≤ 1000) : M_Pack___init__ [.ref G.length, .tup (rows.map .str)] (G ++ [.ins 0 []]) = .ok .non (G ++ [packO rows]) := by
  have hc := fun G => check_cards rows G hr hl
  unfold M_Pack___init__ D_Pack___init__
  simp [dSeq_ev, seqR_nx, seqR_rt, seqR_ct, seqR_bk, seqR_ex, seqR_ite, runF_ev, resR_nx, resR_rt, resR_ex, resR_ite, startE, wp_nxK, wp_rtK, wp_ctK, wp_bkK, wp_exK, wp_nxP, wp_rtP, wp_ite, R.bind_ok, R.bind_exn, sb_ok, sb_exn, opt_some, opt_ite, bind_ite, sb_ite, dC, dVar, dPk, Fv.toVl, dBin, dUn, dTest, vTru, dTB_ev, tbK_bl, dAnd, dOr, dNot, dBV, dIf, dChain_ev, chK_bl, daNil, daCons, dTup, dLst, dIx, doNone, doSome, dSl, dFn, diVal, diRng, dCall, dRet, dRetN, dExpr, dIfS_ev, dAsg, gSet, gUn, gsNil, gsCons, itemsOf, dNext, dBreak, dCont, dRaise, dxC, dxE, dTold_ev, toldR_ok, toldR_exn, toldR_ite, dMeth, dFld, List.lookup, dSetF, putN, dPar, dPar3, vNeg, vSub_int, vAdd_int, vEq_int, vNe_int, vLt_int, vGt_int, vLe_int, vGe_int, vIx_lst, vIx_tup, atI_int, vSl_tup, vSl_lst, cutL_toI, cutL_fromI, cutL_midI, cutL_all, oLen, seqOf, oInt, oAbs, oMax2, oMin2, oTuple, oList, vIsN_non, vIsN_str, vIsN_int, vIsN_tup, vIsN_lst, dBm, tStr, tTup, tLst, dCat, lstOf, dListO, dLstO, dBmW, dTupRev, hc, hn, packO]
theorem pack_shown (h : G[i]? = some (packO rows)) : M_Pack_shown [.ref i] G = .ok (.tup (rows.map .str)) G := by
  unfold M_Pack_shown D_Pack_shown
  simp [dSeq_ev, seqR_nx, seqR_rt, seqR_ct, seqR_bk, seqR_ex, seqR_ite, runF_ev, resR_nx, resR_rt, resR_ex, resR_ite, startE, wp_nxK, wp_rtK, wp_ctK, wp_bkK, wp_exK, wp_nxP, wp_rtP, wp_ite, R.bind_ok, R.bind_exn, sb_ok, sb_exn, opt_some, opt_ite, bind_ite, sb_ite, dC, dVar, dPk, Fv.toVl, dBin, dUn, dTest, vTru, dTB_ev, tbK_bl, dAnd, dOr, dNot, dBV, dIf, dChain_ev, chK_bl, daNil, daCons, dTup, dLst, dIx, doNone, doSome, dSl, dFn, diVal, diRng, dCall, dRet, dRetN, dExpr, dIfS_ev, dAsg, gSet, gUn, gsNil, gsCons, itemsOf, dNext, dBreak, dCont, dRaise, dxC, dxE, dTold_ev, toldR_ok, toldR_exn, toldR_ite, dMeth, dFld, List.lookup, dSetF, putN, dPar, dPar3, vNeg, vSub_int, vAdd_int, vEq_int, vNe_int, vLt_int, vGt_int, vLe_int, vGe_int, vIx_lst, vIx_tup, atI_int, vSl_tup, vSl_lst, cutL_toI, cutL_fromI, cutL_midI, cutL_all, oLen, seqOf, oInt, oAbs, oMax2, oMin2, oTuple, oList, vIsN_non, vIsN_str, vIsN_int, vIsN_tup, vIsN_lst, dBm, tStr, tTup, tLst, dCat, lstOf, dListO, dLstO, dBmW, dTupRev, h, packO]
theorem pack_draw (m : Nat) (h : G[i]? = some (packO rows)) : M_Pack_draw [.ref i, .int m] G = if m ≤ rows.length then .ok (.tup ((rows.take m).map .str)) (G.set i (packO (rows.drop m))) else .exn { cls := 1 } G := by
  unfold M_Pack_draw D_Pack_draw
  by_cases hm : m ≤ rows.length
  · simp (disch := first | assumption | (simp [gd_str, gd_int, gd_bl, gd_non, gd_tup, gd_lst, gds_nil, gds_cons, gds_append, gds_str, gds_int, gds_take, gds_drop, gds_ints]; done) | (simp only [List.length_append, List.length_take, List.length_drop, List.length_map, List.length_cons, List.length_nil, List.length_range] <;> omega) | omega) [dSeq_ev, seqR_nx, seqR_rt, seqR_ct, seqR_bk, seqR_ex, seqR_ite, runF_ev, resR_nx, resR_rt, resR_ex, resR_ite, startE, wp_nxK, wp_rtK, wp_ctK, wp_bkK, wp_exK, wp_nxP, wp_rtP, wp_ite, R.bind_ok, R.bind_exn, sb_ok, sb_exn, opt_some, opt_ite, bind_ite, sb_ite, dC, dVar, dPk, Fv.toVl, dBin, dUn, dTest, vTru, dTB_ev, tbK_bl, dAnd, dOr, dNot, dBV, dIf, dChain_ev, chK_bl, daNil, daCons, dTup, dLst, dIx, doNone, doSome, dSl, dFn, diVal, diRng, dCall, dRet, dRetN, dExpr, dIfS_ev, dAsg, gSet, gUn, gsNil, gsCons, itemsOf, dNext, dBreak, dCont, dRaise, dxC, dxE, dTold_ev, toldR_ok, toldR_exn, toldR_ite, dMeth, dFld, List.lookup, dSetF, putN, dPar, dPar3, vNeg, vSub_int, vAdd_int, vEq_int, vNe_int, vLt_int, vGt_int, vLe_int, vGe_int, vIx_lst, vIx_tup, atI_int, vSl_tup, vSl_lst, cutL_toI, cutL_fromI, cutL_midI, cutL_all, oLen, seqOf, oInt, oAbs, oMax2, oMin2, oTuple, oList, vIsN_non, vIsN_str, vIsN_int, vIsN_tup, vIsN_lst, dBm, tStr, tTup, tLst, dCat, lstOf, dListO, dLstO, dBmW, dTupRev, h, packO, hm]
  · simp (disch := first | assumption | (simp [gd_str, gd_int, gd_bl, gd_non, gd_tup, gd_lst, gds_nil, gds_cons, gds_append, gds_str, gds_int, gds_take, gds_drop, gds_ints]; done) | (simp only [List.length_append, List.length_take, List.length_drop, List.length_map, List.length_cons, List.length_nil, List.length_range] <;> omega) | omega) [dSeq_ev, seqR_nx, seqR_rt, seqR_ct, seqR_bk, seqR_ex, seqR_ite, runF_ev, resR_nx, resR_rt, resR_ex, resR_ite, startE, wp_nxK, wp_rtK, wp_ctK, wp_bkK, wp_exK, wp_nxP, wp_rtP, wp_ite, R.bind_ok, R.bind_exn, sb_ok, sb_exn, opt_some, opt_ite, bind_ite, sb_ite, dC, dVar, dPk, Fv.toVl, dBin, dUn, dTest, vTru, dTB_ev, tbK_bl, dAnd, dOr, dNot, dBV, dIf, dChain_ev, chK_bl, daNil, daCons, dTup, dLst, dIx, doNone, doSome, dSl, dFn, diVal, diRng, dCall, dRet, dRetN, dExpr, dIfS_ev, dAsg, gSet, gUn, gsNil, gsCons, itemsOf, dNext, dBreak, dCont, dRaise, dxC, dxE, dTold_ev, toldR_ok, toldR_exn, toldR_ite, dMeth, dFld, List.lookup, dSetF, putN, dPar, dPar3, vNeg, vSub_int, vAdd_int, vEq_int, vNe_int, vLt_int, vGt_int, vLe_int, vGe_int, vIx_lst, vIx_tup, atI_int, vSl_tup, vSl_lst, cutL_toI, cutL_fromI, cutL_midI, cutL_all, oLen, seqOf, oInt, oAbs, oMax2, oMin2, oTuple, oList, vIsN_non, vIsN_str, vIsN_int, vIsN_tup, vIsN_lst, dBm, tStr, tTup, tLst, dCat, lstOf, dListO, dLstO, dBmW, dTupRev, h, packO, hm]
theorem cutL_m1 {α : Type} (xs : List α) : cutL xs none (some (-1)) = xs.take (xs.length - 1) := by
  unfold cutL HT.sIx
  simp
  omega
theorem pack_bottom (h : G[i]? = some (packO rows)) : M_Pack_bottom [.ref i] G = if hr : rows = [] then .exn { cls := 1 } G else .ok (.str (rows.getLast hr)) (G.set i (packO (rows.take (rows.length - 1)))) := by
  unfold M_Pack_bottom D_Pack_bottom
  cases rows with
  | nil => simp (disch := first | assumption | (simp [gd_str, gd_int, gd_bl, gd_non, gd_tup, gd_lst, gds_nil, gds_cons, gds_append, gds_str, gds_int, gds_take, gds_drop, gds_ints]; done) | (simp only [List.length_append, List.length_take, List.length_drop, List.length_map, List.length_cons, List.length_nil, List.length_range] <;> omega) | omega) [dSeq_ev, seqR_nx, seqR_rt, seqR_ct, seqR_bk, seqR_ex, seqR_ite, runF_ev, resR_nx, resR_rt, resR_ex, resR_ite, startE, wp_nxK, wp_rtK, wp_ctK, wp_bkK, wp_exK, wp_nxP, wp_rtP, wp_ite, R.bind_ok, R.bind_exn, sb_ok, sb_exn, opt_some, opt_ite, bind_ite, sb_ite, dC, dVar, dPk, Fv.toVl, dBin, dUn, dTest, vTru, dTB_ev, tbK_bl, dAnd, dOr, dNot, dBV, dIf, dChain_ev, chK_bl, daNil, daCons, dTup, dLst, dIx, doNone, doSome, dSl, dFn, diVal, diRng, dCall, dRet, dRetN, dExpr, dIfS_ev, dAsg, gSet, gUn, gsNil, gsCons, itemsOf, dNext, dBreak, dCont, dRaise, dxC, dxE, dTold_ev, toldR_ok, toldR_exn, toldR_ite, dMeth, dFld, List.lookup, dSetF, putN, dPar, dPar3, vNeg, vSub_int, vAdd_int, vEq_int, vNe_int, vLt_int, vGt_int, vLe_int, vGe_int, vIx_lst, vIx_tup, atI_int, vSl_tup, vSl_lst, cutL_toI, cutL_fromI, cutL_midI, cutL_all, oLen, seqOf, oInt, oAbs, oMax2, oMin2, oTuple, oList, vIsN_non, vIsN_str, vIsN_int, vIsN_tup, vIsN_lst, dBm, tStr, tTup, tLst, dCat, lstOf, dListO, dLstO, dBmW, dTupRev, h, packO, vEq_tup0, gd_str, gd_int, gd_bl, gd_non, gd_tup, gd_lst, gds_nil, gds_cons, gds_append, gds_str, gds_int, gds_take, gds_drop, gds_ints]
  | cons a l =>
    have hat : atI ((a :: l).map Vl.str) (-1) = some (.str ((a :: l).getLast (by simp))) := by
      rw [show (-1 : Int) = -((1 : Nat) : Int) from rfl, atI_neg _ 1 (by decide), if_pos (by simp), List.getElem?_map, List.length_map]
      simp [List.getLast_eq_getElem]
    rw [List.map_cons] at hat
    have hg : gds 59 (.str a :: l.map Vl.str) = true := gds_str (l := a :: l)
    simp (disch := first | assumption | (simp [gd_str, gd_int, gd_bl, gd_non, gd_tup, gd_lst, gds_nil, gds_cons, gds_append, gds_str, gds_int, gds_take, gds_drop, gds_ints]; done) | (simp only [List.length_append, List.length_take, List.length_drop, List.length_map, List.length_cons, List.length_nil, List.length_range] <;> omega) | omega) [dSeq_ev, seqR_nx, seqR_rt, seqR_ct, seqR_bk, seqR_ex, seqR_ite, runF_ev, resR_nx, resR_rt, resR_ex, resR_ite, startE, wp_nxK, wp_rtK, wp_ctK, wp_bkK, wp_exK, wp_nxP, wp_rtP, wp_ite, R.bind_ok, R.bind_exn, sb_ok, sb_exn, opt_some, opt_ite, bind_ite, sb_ite, dC, dVar, dPk, Fv.toVl, dBin, dUn, dTest, vTru, dTB_ev, tbK_bl, dAnd, dOr, dNot, dBV, dIf, dChain_ev, chK_bl, daNil, daCons, dTup, dLst, dIx, doNone, doSome, dSl, dFn, diVal, diRng, dCall, dRet, dRetN, dExpr, dIfS_ev, dAsg, gSet, gUn, gsNil, gsCons, itemsOf, dNext, dBreak, dCont, dRaise, dxC, dxE, dTold_ev, toldR_ok, toldR_exn, toldR_ite, dMeth, dFld, List.lookup, dSetF, putN, dPar, dPar3, vNeg, vSub_int, vAdd_int, vEq_int, vNe_int, vLt_int, vGt_int, vLe_int, vGe_int, vIx_lst, vIx_tup, atI_int, vSl_tup, vSl_lst, cutL_toI, cutL_fromI, cutL_midI, cutL_all, oLen, seqOf, oInt, oAbs, oMax2, oMin2, oTuple, oList, vIsN_non, vIsN_str, vIsN_int, vIsN_tup, vIsN_lst, dBm, tStr, tTup, tLst, dCat, lstOf, dListO, dLstO, dBmW, dTupRev, h, packO, vEq_tup0, hg, hat, cutL_m1, -atI_int, -cutL_toI]
theorem nodup_end {rows : List Str} {c : Str} : (rows ++ [c]).Nodup ↔ c ∉ rows ∧ rows.Nodup := by
  have := nodup_mid (a := rows) (b := []) (c := c)
  simpa using this
theorem pack_under (c : Str) (h : G[i]? = some (packO rows)) (hr : ∀ c ∈ rows, isCd c) (hn : rows.Nodup) (hl : rows.length ≤ 900) (hc : isCd c) :
    M_Pack_put_under [.ref i, .str c] G = if c ∈ rows then .exn { cls := 0 } G else .ok .non (G.set i (packO (rows ++ [c]))) := by
  have hcc := check_cards (rows ++ [c]) G (by
    intro x hx
    simp only [List.mem_append, List.mem_singleton] at hx
    rcases hx with hx | rfl
    · exact hr x hx
    · exact hc) (by simp; omega)
  simp only [nodup_end, hn, and_true, List.map_append, List.map_cons, List.map_nil] at hcc
  unfold M_Pack_put_under D_Pack_put_under
  by_cases hin : c ∈ rows
  · simp (disch := first | assumption | (simp [gd_str, gd_int, gd_bl, gd_non, gd_tup, gd_lst, gds_nil, gds_cons, gds_append, gds_str, gds_int, gds_take, gds_drop, gds_ints]; done) | (simp only [List.length_append, List.length_take, List.length_drop, List.length_map, List.length_cons, List.length_nil, List.length_range] <;> omega) | omega) [dSeq_ev, seqR_nx, seqR_rt, seqR_ct, seqR_bk, seqR_ex, seqR_ite, runF_ev, resR_nx, resR_rt, resR_ex, resR_ite, startE, wp_nxK, wp_rtK, wp_ctK, wp_bkK, wp_exK, wp_nxP, wp_rtP, wp_ite, R.bind_ok, R.bind_exn, sb_ok, sb_exn, opt_some, opt_ite, bind_ite, sb_ite, dC, dVar, dPk, Fv.toVl, dBin, dUn, dTest, vTru, dTB_ev, tbK_bl, dAnd, dOr, dNot, dBV, dIf, dChain_ev, chK_bl, daNil, daCons, dTup, dLst, dIx, doNone, doSome, dSl, dFn, diVal, diRng, dCall, dRet, dRetN, dExpr, dIfS_ev, dAsg, gSet, gUn, gsNil, gsCons, itemsOf, dNext, dBreak, dCont, dRaise, dxC, dxE, dTold_ev, toldR_ok, toldR_exn, toldR_ite, dMeth, dFld, List.lookup, dSetF, putN, dPar, dPar3, vNeg, vSub_int, vAdd_int, vEq_int, vNe_int, vLt_int, vGt_int, vLe_int, vGe_int, vIx_lst, vIx_tup, atI_int, vSl_tup, vSl_lst, cutL_toI, cutL_fromI, cutL_midI, cutL_all, oLen, seqOf, oInt, oAbs, oMax2, oMin2, oTuple, oList, vIsN_non, vIsN_str, vIsN_int, vIsN_tup, vIsN_lst, dBm, tStr, tTup, tLst, dCat, lstOf, dListO, dLstO, dBmW, dTupRev, h, packO, vAdd_tup, hcc, hin]
  · simp (disch := first | assumption | (simp [gd_str, gd_int, gd_bl, gd_non, gd_tup, gd_lst, gds_nil, gds_cons, gds_append, gds_str, gds_int, gds_take, gds_drop, gds_ints]; done) | (simp only [List.length_append, List.length_take, List.length_drop, List.length_map, List.length_cons, List.length_nil, List.length_range] <;> omega) | omega) [dSeq_ev, seqR_nx, seqR_rt, seqR_ct, seqR_bk, seqR_ex, seqR_ite, runF_ev, resR_nx, resR_rt, resR_ex, resR_ite, startE, wp_nxK, wp_rtK, wp_ctK, wp_bkK, wp_exK, wp_nxP, wp_rtP, wp_ite, R.bind_ok, R.bind_exn, sb_ok, sb_exn, opt_some, opt_ite, bind_ite, sb_ite, dC, dVar, dPk, Fv.toVl, dBin, dUn, dTest, vTru, dTB_ev, tbK_bl, dAnd, dOr, dNot, dBV, dIf, dChain_ev, chK_bl, daNil, daCons, dTup, dLst, dIx, doNone, doSome, dSl, dFn, diVal, diRng, dCall, dRet, dRetN, dExpr, dIfS_ev, dAsg, gSet, gUn, gsNil, gsCons, itemsOf, dNext, dBreak, dCont, dRaise, dxC, dxE, dTold_ev, toldR_ok, toldR_exn, toldR_ite, dMeth, dFld, List.lookup, dSetF, putN, dPar, dPar3, vNeg, vSub_int, vAdd_int, vEq_int, vNe_int, vLt_int, vGt_int, vLe_int, vGe_int, vIx_lst, vIx_tup, atI_int, vSl_tup, vSl_lst, cutL_toI, cutL_fromI, cutL_midI, cutL_all, oLen, seqOf, oInt, oAbs, oMax2, oMin2, oTuple, oList, vIsN_non, vIsN_str, vIsN_int, vIsN_tup, vIsN_lst, dBm, tStr, tTup, tLst, dCat, lstOf, dListO, dLstO, dBmW, dTupRev, h, packO, vAdd_tup, hcc, hin]
theorem pack_on (c : Str) (h : G[i]? = some (packO rows)) (hr : ∀ c ∈ rows, isCd c) (hn : rows.Nodup) (hl : rows.length ≤ 900) (hc : isCd c) :
    M_Pack_put_on [.ref i, .str c] G = if c ∈ rows then .exn { cls := 0 } G else .ok .non (G.set i (packO (c :: rows))) := by
  have hcc := check_cards (c :: rows) G (by
    intro x hx
    simp only [List.mem_cons] at hx
    rcases hx with rfl | hx
    · exact hc
    · exact hr x hx) (by simp; omega)
  simp only [List.nodup_cons, hn, and_true, List.map_cons] at hcc
  unfold M_Pack_put_on D_Pack_put_on
  by_cases hin : c ∈ rows
  · simp (disch := first | assumption | (simp [gd_str, gd_int, gd_bl, gd_non, gd_tup, gd_lst, gds_nil, gds_cons, gds_append, gds_str, gds_int, gds_take, gds_drop, gds_ints]; done) | (simp only [List.length_append, List.length_take, List.length_drop, List.length_map, List.length_cons, List.length_nil, List.length_range] <;> omega) | omega) [dSeq_ev, seqR_nx, seqR_rt, seqR_ct, seqR_bk, seqR_ex, seqR_ite, runF_ev, resR_nx, resR_rt, resR_ex, resR_ite, startE, wp_nxK, wp_rtK, wp_ctK, wp_bkK, wp_exK, wp_nxP, wp_rtP, wp_ite, R.bind_ok, R.bind_exn, sb_ok, sb_exn, opt_some, opt_ite, bind_ite, sb_ite, dC, dVar, dPk, Fv.toVl, dBin, dUn, dTest, vTru, dTB_ev, tbK_bl, dAnd, dOr, dNot, dBV, dIf, dChain_ev, chK_bl, daNil, daCons, dTup, dLst, dIx, doNone, doSome, dSl, dFn, diVal, diRng, dCall, dRet, dRetN, dExpr, dIfS_ev, dAsg, gSet, gUn, gsNil, gsCons, itemsOf, dNext, dBreak, dCont, dRaise, dxC, dxE, dTold_ev, toldR_ok, toldR_exn, toldR_ite, dMeth, dFld, List.lookup, dSetF, putN, dPar, dPar3, vNeg, vSub_int, vAdd_int, vEq_int, vNe_int, vLt_int, vGt_int, vLe_int, vGe_int, vIx_lst, vIx_tup, atI_int, vSl_tup, vSl_lst, cutL_toI, cutL_fromI, cutL_midI, cutL_all, oLen, seqOf, oInt, oAbs, oMax2, oMin2, oTuple, oList, vIsN_non, vIsN_str, vIsN_int, vIsN_tup, vIsN_lst, dBm, tStr, tTup, tLst, dCat, lstOf, dListO, dLstO, dBmW, dTupRev, h, packO, vAdd_tup, hcc, hin]
  · simp (disch := first | assumption | (simp [gd_str, gd_int, gd_bl, gd_non, gd_tup, gd_lst, gds_nil, gds_cons, gds_append, gds_str, gds_int, gds_take, gds_drop, gds_ints]; done) | (simp only [List.length_append, List.length_take, List.length_drop, List.length_map, List.length_cons, List.length_nil, List.length_range] <;> omega) | omega) [dSeq_ev, seqR_nx, seqR_rt, seqR_ct, seqR_bk, seqR_ex, seqR_ite, runF_ev, resR_nx, resR_rt, resR_ex, resR_ite, startE, wp_nxK, wp_rtK, wp_ctK, wp_bkK, wp_exK, wp_nxP, wp_rtP, wp_ite, R.bind_ok, R.bind_exn, sb_ok, sb_exn, opt_some, opt_ite, bind_ite, sb_ite, dC, dVar, dPk, Fv.toVl, dBin, dUn, dTest, vTru, dTB_ev, tbK_bl, dAnd, dOr, dNot, dBV, dIf, dChain_ev, chK_bl, daNil, daCons, dTup, dLst, dIx, doNone, doSome, dSl, dFn, diVal, diRng, dCall, dRet, dRetN, dExpr, dIfS_ev, dAsg, gSet, gUn, gsNil, gsCons, itemsOf, dNext, dBreak, dCont, dRaise, dxC, dxE, dTold_ev, toldR_ok, toldR_exn, toldR_ite, dMeth, dFld, List.lookup, dSetF, putN, dPar, dPar3, vNeg, vSub_int, vAdd_int, vEq_int, vNe_int, vLt_int, vGt_int, vLe_int, vGe_int, vIx_lst, vIx_tup, atI_int, vSl_tup, vSl_lst, cutL_toI, cutL_fromI, cutL_midI, cutL_all, oLen, seqOf, oInt, oAbs, oMax2, oMin2, oTuple, oList, vIsN_non, vIsN_str, vIsN_int, vIsN_tup, vIsN_lst, dBm, tStr, tTup, tLst, dCat, lstOf, dListO, dLstO, dBmW, dTupRev, h, packO, vAdd_tup, hcc, hin]
theorem pack_cut (m : Nat) (h : G[i]? = some (packO rows)) (hl : rows.length ≤ 1000) : M_Pack_cut [.ref i, .int m] G = if 0 < m ∧ m < rows.length then .ok .non (G.set i (packO (rows.drop m ++ rows.take m))) else .exn { cls := 1 } G := by
  unfold M_Pack_cut D_Pack_cut
  by_cases h1 : 0 < m
  · by_cases h2 : m < rows.length
    · simp (disch := first | assumption | (simp [gd_str, gd_int, gd_bl, gd_non, gd_tup, gd_lst, gds_nil, gds_cons, gds_append, gds_str, gds_int, gds_take, gds_drop, gds_ints]; done) | (simp only [List.length_append, List.length_take, List.length_drop, List.length_map, List.length_cons, List.length_nil, List.length_range] <;> omega) | omega) [dSeq_ev, seqR_nx, seqR_rt, seqR_ct, seqR_bk, seqR_ex, seqR_ite, runF_ev, resR_nx, resR_rt, resR_ex, resR_ite, startE, wp_nxK, wp_rtK, wp_ctK, wp_bkK, wp_exK, wp_nxP, wp_rtP, wp_ite, R.bind_ok, R.bind_exn, sb_ok, sb_exn, opt_some, opt_ite, bind_ite, sb_ite, dC, dVar, dPk, Fv.toVl, dBin, dUn, dTest, vTru, dTB_ev, tbK_bl, dAnd, dOr, dNot, dBV, dIf, dChain_ev, chK_bl, daNil, daCons, dTup, dLst, dIx, doNone, doSome, dSl, dFn, diVal, diRng, dCall, dRet, dRetN, dExpr, dIfS_ev, dAsg, gSet, gUn, gsNil, gsCons, itemsOf, dNext, dBreak, dCont, dRaise, dxC, dxE, dTold_ev, toldR_ok, toldR_exn, toldR_ite, dMeth, dFld, List.lookup, dSetF, putN, dPar, dPar3, vNeg, vSub_int, vAdd_int, vEq_int, vNe_int, vLt_int, vGt_int, vLe_int, vGe_int, vIx_lst, vIx_tup, atI_int, vSl_tup, vSl_lst, cutL_toI, cutL_fromI, cutL_midI, cutL_all, oLen, seqOf, oInt, oAbs, oMax2, oMin2, oTuple, oList, vIsN_non, vIsN_str, vIsN_int, vIsN_tup, vIsN_lst, dBm, tStr, tTup, tLst, dCat, lstOf, dListO, dLstO, dBmW, dTupRev, h, packO, h1, h2, vAdd_tup]
    · simp (disch := first | assumption | (simp [gd_str, gd_int, gd_bl, gd_non, gd_tup, gd_lst, gds_nil, gds_cons, gds_append, gds_str, gds_int, gds_take, gds_drop, gds_ints]; done) | (simp only [List.length_append, List.length_take, List.length_drop, List.length_map, List.length_cons, List.length_nil, List.length_range] <;> omega) | omega) [dSeq_ev, seqR_nx, seqR_rt, seqR_ct, seqR_bk, seqR_ex, seqR_ite, runF_ev, resR_nx, resR_rt, resR_ex, resR_ite, startE, wp_nxK, wp_rtK, wp_ctK, wp_bkK, wp_exK, wp_nxP, wp_rtP, wp_ite, R.bind_ok, R.bind_exn, sb_ok, sb_exn, opt_some, opt_ite, bind_ite, sb_ite, dC, dVar, dPk, Fv.toVl, dBin, dUn, dTest, vTru, dTB_ev, tbK_bl, dAnd, dOr, dNot, dBV, dIf, dChain_ev, chK_bl, daNil, daCons, dTup, dLst, dIx, doNone, doSome, dSl, dFn, diVal, diRng, dCall, dRet, dRetN, dExpr, dIfS_ev, dAsg, gSet, gUn, gsNil, gsCons, itemsOf, dNext, dBreak, dCont, dRaise, dxC, dxE, dTold_ev, toldR_ok, toldR_exn, toldR_ite, dMeth, dFld, List.lookup, dSetF, putN, dPar, dPar3, vNeg, vSub_int, vAdd_int, vEq_int, vNe_int, vLt_int, vGt_int, vLe_int, vGe_int, vIx_lst, vIx_tup, atI_int, vSl_tup, vSl_lst, cutL_toI, cutL_fromI, cutL_midI, cutL_all, oLen, seqOf, oInt, oAbs, oMax2, oMin2, oTuple, oList, vIsN_non, vIsN_str, vIsN_int, vIsN_tup, vIsN_lst, dBm, tStr, tTup, tLst, dCat, lstOf, dListO, dLstO, dBmW, dTupRev, h, packO, h1, h2, vAdd_tup]
  · simp (disch := first | assumption | (simp [gd_str, gd_int, gd_bl, gd_non, gd_tup, gd_lst, gds_nil, gds_cons, gds_append, gds_str, gds_int, gds_take, gds_drop, gds_ints]; done) | (simp only [List.length_append, List.length_take, List.length_drop, List.length_map, List.length_cons, List.length_nil, List.length_range] <;> omega) | omega) [dSeq_ev, seqR_nx, seqR_rt, seqR_ct, seqR_bk, seqR_ex, seqR_ite, runF_ev, resR_nx, resR_rt, resR_ex, resR_ite, startE, wp_nxK, wp_rtK, wp_ctK, wp_bkK, wp_exK, wp_nxP, wp_rtP, wp_ite, R.bind_ok, R.bind_exn, sb_ok, sb_exn, opt_some, opt_ite, bind_ite, sb_ite, dC, dVar, dPk, Fv.toVl, dBin, dUn, dTest, vTru, dTB_ev, tbK_bl, dAnd, dOr, dNot, dBV, dIf, dChain_ev, chK_bl, daNil, daCons, dTup, dLst, dIx, doNone, doSome, dSl, dFn, diVal, diRng, dCall, dRet, dRetN, dExpr, dIfS_ev, dAsg, gSet, gUn, gsNil, gsCons, itemsOf, dNext, dBreak, dCont, dRaise, dxC, dxE, dTold_ev, toldR_ok, toldR_exn, toldR_ite, dMeth, dFld, List.lookup, dSetF, putN, dPar, dPar3, vNeg, vSub_int, vAdd_int, vEq_int, vNe_int, vLt_int, vGt_int, vLe_int, vGe_int, vIx_lst, vIx_tup, atI_int, vSl_tup, vSl_lst, cutL_toI, cutL_fromI, cutL_midI, cutL_all, oLen, seqOf, oInt, oAbs, oMax2, oMin2, oTuple, oList, vIsN_non, vIsN_str, vIsN_int, vIsN_tup, vIsN_lst, dBm, tStr, tTup, tLst, dCat, lstOf, dListO, dLstO, dBmW, dTupRev, h, packO, h1, vAdd_tup]
theorem ixOf_mem {s : Str} : ∀ {l : List Str}, s ∈ l → ∃ j, ixOf s l = some j ∧ j < l.length
  | a :: l, h => by
    unfold ixOf
    by_cases e : a = s
    · exact ⟨0, by rw [if_pos e], by simp⟩
    · have h' : s ∈ l := by
        rcases List.mem_cons.mp h with z | z
        · exact absurd z.symm e
        · exact z
      obtain ⟨j, e1, e2⟩ := ixOf_mem h'
      exact ⟨j + 1, by rw [if_neg e, e1]; rfl, by simpa using e2⟩
theorem ixOf_filter {s : Str} : ∀ {l : List Str} {j : Nat}, l.Nodup → ixOf s l = some j → l.filter (fun x => !decide (x = s)) = l.take j ++ l.drop (j + 1)
  | [], _, _, h => by cases h
  | a :: l, j, hn, h => by
    unfold ixOf at h
    rw [List.nodup_cons] at hn
    split at h
    · cases h
      subst_vars
      rw [List.filter_cons_of_neg (by simp)]
      simp
      intro b hb e
      exact hn.1 (e ▸ hb)
    · rename_i hne
      obtain ⟨k, e, rfl⟩ := Option.map_eq_some_iff.mp h
      rw [List.filter_cons_of_pos (by simpa using hne), ixOf_filter hn.2 e]
      simp
theorem pack_place (c : Str) (h : G[i]? = some (packO rows)) (hc : isCd c) : M_Pack_place_of [.ref i, .str c] G = match ixOf c rows with
    | some j => .ok (.int (j : Nat)) G
    | none => .exn { cls := 2 } G := by
  have h1 := check1 G hc
  unfold M_Pack_place_of D_Pack_place_of
  have hnin : vNotInV (.str c) (.tup (rows.map .str)) = some (.bl (!rows.contains c)) := by
    have := vIn_strsT (l := rows) (c := c)
    unfold vInV at this
    unfold vNotInV
    obtain ⟨b, e1, e2⟩ := Option.map_eq_some_iff.mp this
    cases e2
    rw [e1]; rfl
  by_cases hin : c ∈ rows
  · obtain ⟨j, e, _⟩ := ixOf_mem hin
    simp [dSeq_ev, seqR_nx, seqR_rt, seqR_ct, seqR_bk, seqR_ex, seqR_ite, runF_ev, resR_nx, resR_rt, resR_ex, resR_ite, startE, wp_nxK, wp_rtK, wp_ctK, wp_bkK, wp_exK, wp_nxP, wp_rtP, wp_ite, R.bind_ok, R.bind_exn, sb_ok, sb_exn, opt_some, opt_ite, bind_ite, sb_ite, dC, dVar, dPk, Fv.toVl, dBin, dUn, dTest, vTru, dTB_ev, tbK_bl, dAnd, dOr, dNot, dBV, dIf, dChain_ev, chK_bl, daNil, daCons, dTup, dLst, dIx, doNone, doSome, dSl, dFn, diVal, diRng, dCall, dRet, dRetN, dExpr, dIfS_ev, dAsg, gSet, gUn, gsNil, gsCons, itemsOf, dNext, dBreak, dCont, dRaise, dxC, dxE, dTold_ev, toldR_ok, toldR_exn, toldR_ite, dMeth, dFld, List.lookup, dSetF, putN, dPar, dPar3, vNeg, vSub_int, vAdd_int, vEq_int, vNe_int, vLt_int, vGt_int, vLe_int, vGe_int, vIx_lst, vIx_tup, atI_int, vSl_tup, vSl_lst, cutL_toI, cutL_fromI, cutL_midI, cutL_all, oLen, seqOf, oInt, oAbs, oMax2, oMin2, oTuple, oList, vIsN_non, vIsN_str, vIsN_int, vIsN_tup, vIsN_lst, dBm, tStr, tTup, tLst, dCat, lstOf, dListO, dLstO, dBmW, dTupRev, h1, h, packO, hnin, hin, oTIx, strsOf_map, e]
  · have e : ixOf c rows = none := by
      cases q : ixOf c rows with
      | none => rfl
      | some j => exact absurd (List.mem_of_getElem? (ixOf_some q).1) hin
    simp [dSeq_ev, seqR_nx, seqR_rt, seqR_ct, seqR_bk, seqR_ex, seqR_ite, runF_ev, resR_nx, resR_rt, resR_ex, resR_ite, startE, wp_nxK, wp_rtK, wp_ctK, wp_bkK, wp_exK, wp_nxP, wp_rtP, wp_ite, R.bind_ok, R.bind_exn, sb_ok, sb_exn, opt_some, opt_ite, bind_ite, sb_ite, dC, dVar, dPk, Fv.toVl, dBin, dUn, dTest, vTru, dTB_ev, tbK_bl, dAnd, dOr, dNot, dBV, dIf, dChain_ev, chK_bl, daNil, daCons, dTup, dLst, dIx, doNone, doSome, dSl, dFn, diVal, diRng, dCall, dRet, dRetN, dExpr, dIfS_ev, dAsg, gSet, gUn, gsNil, gsCons, itemsOf, dNext, dBreak, dCont, dRaise, dxC, dxE, dTold_ev, toldR_ok, toldR_exn, toldR_ite, dMeth, dFld, List.lookup, dSetF, putN, dPar, dPar3, vNeg, vSub_int, vAdd_int, vEq_int, vNe_int, vLt_int, vGt_int, vLe_int, vGe_int, vIx_lst, vIx_tup, atI_int, vSl_tup, vSl_lst, cutL_toI, cutL_fromI, cutL_midI, cutL_all, oLen, seqOf, oInt, oAbs, oMax2, oMin2, oTuple, oList, vIsN_non, vIsN_str, vIsN_int, vIsN_tup, vIsN_lst, dBm, tStr, tTup, tLst, dCat, lstOf, dListO, dLstO, dBmW, dTupRev, h1, h, packO, hnin, hin, e]
theorem pack_take (c : Str) (h : G[i]? = some (packO rows)) (hc : isCd c) (hl : rows.length ≤ 1000) : M_Pack_take_out [.ref i, .str c] G = match ixOf c rows with
    | some j => .ok (.int (j : Nat)) (G.set i (packO (rows.take j ++ rows.drop (j + 1))))
    | none => .exn { cls := 2 } G := by
  have hp := pack_place G i rows c h hc
  unfold M_Pack_take_out D_Pack_take_out
  cases q : ixOf c rows with
  | none =>
    rw [q] at hp
    simp [dSeq_ev, seqR_nx, seqR_rt, seqR_ct, seqR_bk, seqR_ex, seqR_ite, runF_ev, resR_nx, resR_rt, resR_ex, resR_ite, startE, wp_nxK, wp_rtK, wp_ctK, wp_bkK, wp_exK, wp_nxP, wp_rtP, wp_ite, R.bind_ok, R.bind_exn, sb_ok, sb_exn, opt_some, opt_ite, bind_ite, sb_ite, dC, dVar, dPk, Fv.toVl, dBin, dUn, dTest, vTru, dTB_ev, tbK_bl, dAnd, dOr, dNot, dBV, dIf, dChain_ev, chK_bl, daNil, daCons, dTup, dLst, dIx, doNone, doSome, dSl, dFn, diVal, diRng, dCall, dRet, dRetN, dExpr, dIfS_ev, dAsg, gSet, gUn, gsNil, gsCons, itemsOf, dNext, dBreak, dCont, dRaise, dxC, dxE, dTold_ev, toldR_ok, toldR_exn, toldR_ite, dMeth, dFld, List.lookup, dSetF, putN, dPar, dPar3, vNeg, vSub_int, vAdd_int, vEq_int, vNe_int, vLt_int, vGt_int, vLe_int, vGe_int, vIx_lst, vIx_tup, atI_int, vSl_tup, vSl_lst, cutL_toI, cutL_fromI, cutL_midI, cutL_all, oLen, seqOf, oInt, oAbs, oMax2, oMin2, oTuple, oList, vIsN_non, vIsN_str, vIsN_int, vIsN_tup, vIsN_lst, dBm, tStr, tTup, tLst, dCat, lstOf, dListO, dLstO, dBmW, dTupRev, h, packO, hp]
  | some j =>
    rw [q] at hp
    simp (disch := first | assumption | (simp [gd_str, gd_int, gd_bl, gd_non, gd_tup, gd_lst, gds_nil, gds_cons, gds_append, gds_str, gds_int, gds_take, gds_drop, gds_ints]; done) | (simp only [List.length_append, List.length_take, List.length_drop, List.length_map, List.length_cons, List.length_nil, List.length_range] <;> omega) | omega) [dSeq_ev, seqR_nx, seqR_rt, seqR_ct, seqR_bk, seqR_ex, seqR_ite, runF_ev, resR_nx, resR_rt, resR_ex, resR_ite, startE, wp_nxK, wp_rtK, wp_ctK, wp_bkK, wp_exK, wp_nxP, wp_rtP, wp_ite, R.bind_ok, R.bind_exn, sb_ok, sb_exn, opt_some, opt_ite, bind_ite, sb_ite, dC, dVar, dPk, Fv.toVl, dBin, dUn, dTest, vTru, dTB_ev, tbK_bl, dAnd, dOr, dNot, dBV, dIf, dChain_ev, chK_bl, daNil, daCons, dTup, dLst, dIx, doNone, doSome, dSl, dFn, diVal, diRng, dCall, dRet, dRetN, dExpr, dIfS_ev, dAsg, gSet, gUn, gsNil, gsCons, itemsOf, dNext, dBreak, dCont, dRaise, dxC, dxE, dTold_ev, toldR_ok, toldR_exn, toldR_ite, dMeth, dFld, List.lookup, dSetF, putN, dPar, dPar3, vNeg, vSub_int, vAdd_int, vEq_int, vNe_int, vLt_int, vGt_int, vLe_int, vGe_int, vIx_lst, vIx_tup, atI_int, vSl_tup, vSl_lst, cutL_toI, cutL_fromI, cutL_midI, cutL_all, oLen, seqOf, oInt, oAbs, oMax2, oMin2, oTuple, oList, vIsN_non, vIsN_str, vIsN_int, vIsN_tup, vIsN_lst, dBm, tStr, tTup, tLst, dCat, lstOf, dListO, dLstO, dBmW, dTupRev, h, packO, hp, vAdd_tup]
end
end CardH
end
section
set_option maxHeartbeats 4000000
namespace CardH
open PySem PySem.Spec PyProof.Rows L2
theorem vNotIn_strsT {l : List Str} {c : Str} : vNotInV (.str c) (.tup (l.map .str)) = some (.bl (!l.contains c)) := by
  have := vIn_strsT (l := l) (c := c)
  unfold vInV at this
  unfold vNotInV
  obtain ⟨b, e1, e2⟩ := Option.map_eq_some_iff.mp this
  cases e2
  rw [e1]; rfl
theorem vNotIn_strsL {l : List Str} {c : Str} : vNotInV (.str c) (.lst (l.map .str)) = some (.bl (!l.contains c)) := by
  have := vIn_strsL (l := l) (c := c)
  unfold vInV at this
  unfold vNotInV
  obtain ⟨b, e1, e2⟩ := Option.map_eq_some_iff.mp this
  cases e2
  rw [e1]; rfl
section
variable (G : Gst) (i : Nat) (rows : List Str)
theorem pack_missing (r : Nat) (h1 : 1 ≤ r) (h2 : r ≤ 13) (h : G[i]? = some (packO rows)) : M_Pack_missing [.ref i, .int r] G = .ok (.tup (((deckR r).filter fun c => !rows.contains c).map .str)) G := by
  have hw := whole_pack G r h1 h2
  have hl := (deckR_nodup r h2).2
  unfold M_Pack_missing D_Pack_missing
  simp only [dSeq_ev, seqR_nx, seqR_rt, seqR_ct, seqR_bk, seqR_ex, seqR_ite, runF_ev, resR_nx, resR_rt, resR_ex, resR_ite, startE, wp_nxK, wp_rtK, wp_ctK, wp_bkK, wp_exK, wp_nxP, wp_rtP, wp_ite, R.bind_ok, R.bind_exn, sb_ok, sb_exn, opt_some, opt_ite, bind_ite, sb_ite, dC, dVar, dPk, Fv.toVl, dBin, dUn, dTest, vTru, dTB_ev, tbK_bl, dAnd, dOr, dNot, dBV, dIf, dChain_ev, chK_bl, daNil, daCons, dTup, dLst, dIx, doNone, doSome, dSl, dFn, diVal, diRng, dCall, dRet, dRetN, dExpr, dIfS_ev, dAsg, gSet, gUn, gsNil, gsCons, itemsOf, dNext, dBreak, dCont, dRaise, dxC, dxE, dTold_ev, toldR_ok, toldR_exn, toldR_ite, dMeth, dFld, List.lookup, dSetF, putN, dPar, dPar3, vNeg, vSub_int, vAdd_int, vEq_int, vNe_int, vLt_int, vGt_int, vLe_int, vGe_int, vIx_lst, vIx_tup, atI_int, vSl_tup, vSl_lst, cutL_toI, cutL_fromI, cutL_midI, cutL_all, oLen, seqOf, oInt, oAbs, oMax2, oMin2, oTuple, oList, vIsN_non, vIsN_str, vIsN_int, vIsN_tup, vIsN_lst, dBm, tStr, tTup, tLst, dCat, lstOf, dListO, dLstO, dBmW, dTupRev, startE, List.map_cons, List.map_nil, List.length_cons, List.length_nil, List.cons_append, List.nil_append, Nat.reduceAdd, Nat.reduceSub, List.replicate, List.getElem?_cons_succ, List.getElem?_cons_zero]
  rw [dLc_tm (deckR r) Vl.str (fun c => !rows.contains c) Vl.str (G1 := G)]
  · simp [dSeq_ev, seqR_nx, seqR_rt, seqR_ct, seqR_bk, seqR_ex, seqR_ite, runF_ev, resR_nx, resR_rt, resR_ex, resR_ite, startE, wp_nxK, wp_rtK, wp_ctK, wp_bkK, wp_exK, wp_nxP, wp_rtP, wp_ite, R.bind_ok, R.bind_exn, sb_ok, sb_exn, opt_some, opt_ite, bind_ite, sb_ite, dC, dVar, dPk, Fv.toVl, dBin, dUn, dTest, vTru, dTB_ev, tbK_bl, dAnd, dOr, dNot, dBV, dIf, dChain_ev, chK_bl, daNil, daCons, dTup, dLst, dIx, doNone, doSome, dSl, dFn, diVal, diRng, dCall, dRet, dRetN, dExpr, dIfS_ev, dAsg, gSet, gUn, gsNil, gsCons, itemsOf, dNext, dBreak, dCont, dRaise, dxC, dxE, dTold_ev, toldR_ok, toldR_exn, toldR_ite, dMeth, dFld, List.lookup, dSetF, putN, dPar, dPar3, vNeg, vSub_int, vAdd_int, vEq_int, vNe_int, vLt_int, vGt_int, vLe_int, vGe_int, vIx_lst, vIx_tup, atI_int, vSl_tup, vSl_lst, cutL_toI, cutL_fromI, cutL_midI, cutL_all, oLen, seqOf, oInt, oAbs, oMax2, oMin2, oTuple, oList, vIsN_non, vIsN_str, vIsN_int, vIsN_tup, vIsN_lst, dBm, tStr, tTup, tLst, dCat, lstOf, dListO, dLstO, dBmW, dTupRev]
  · simp [dSeq_ev, seqR_nx, seqR_rt, seqR_ct, seqR_bk, seqR_ex, seqR_ite, runF_ev, resR_nx, resR_rt, resR_ex, resR_ite, startE, wp_nxK, wp_rtK, wp_ctK, wp_bkK, wp_exK, wp_nxP, wp_rtP, wp_ite, R.bind_ok, R.bind_exn, sb_ok, sb_exn, opt_some, opt_ite, bind_ite, sb_ite, dC, dVar, dPk, Fv.toVl, dBin, dUn, dTest, vTru, dTB_ev, tbK_bl, dAnd, dOr, dNot, dBV, dIf, dChain_ev, chK_bl, daNil, daCons, dTup, dLst, dIx, doNone, doSome, dSl, dFn, diVal, diRng, dCall, dRet, dRetN, dExpr, dIfS_ev, dAsg, gSet, gUn, gsNil, gsCons, itemsOf, dNext, dBreak, dCont, dRaise, dxC, dxE, dTold_ev, toldR_ok, toldR_exn, toldR_ite, dMeth, dFld, List.lookup, dSetF, putN, dPar, dPar3, vNeg, vSub_int, vAdd_int, vEq_int, vNe_int, vLt_int, vGt_int, vLe_int, vGe_int, vIx_lst, vIx_tup, atI_int, vSl_tup, vSl_lst, cutL_toI, cutL_fromI, cutL_midI, cutL_all, oLen, seqOf, oInt, oAbs, oMax2, oMin2, oTuple, oList, vIsN_non, vIsN_str, vIsN_int, vIsN_tup, vIsN_lst, dBm, tStr, tTup, tLst, dCat, lstOf, dListO, dLstO, dBmW, dTupRev, hw, walkOf]
  · intro c hc
    refine ⟨_, rfl, ?_, fun _ => ?_⟩
    · simp [dSeq_ev, seqR_nx, seqR_rt, seqR_ct, seqR_bk, seqR_ex, seqR_ite, runF_ev, resR_nx, resR_rt, resR_ex, resR_ite, startE, wp_nxK, wp_rtK, wp_ctK, wp_bkK, wp_exK, wp_nxP, wp_rtP, wp_ite, R.bind_ok, R.bind_exn, sb_ok, sb_exn, opt_some, opt_ite, bind_ite, sb_ite, dC, dVar, dPk, Fv.toVl, dBin, dUn, dTest, vTru, dTB_ev, tbK_bl, dAnd, dOr, dNot, dBV, dIf, dChain_ev, chK_bl, daNil, daCons, dTup, dLst, dIx, doNone, doSome, dSl, dFn, diVal, diRng, dCall, dRet, dRetN, dExpr, dIfS_ev, dAsg, gSet, gUn, gsNil, gsCons, itemsOf, dNext, dBreak, dCont, dRaise, dxC, dxE, dTold_ev, toldR_ok, toldR_exn, toldR_ite, dMeth, dFld, List.lookup, dSetF, putN, dPar, dPar3, vNeg, vSub_int, vAdd_int, vEq_int, vNe_int, vLt_int, vGt_int, vLe_int, vGe_int, vIx_lst, vIx_tup, atI_int, vSl_tup, vSl_lst, cutL_toI, cutL_fromI, cutL_midI, cutL_all, oLen, seqOf, oInt, oAbs, oMax2, oMin2, oTuple, oList, vIsN_non, vIsN_str, vIsN_int, vIsN_tup, vIsN_lst, dBm, tStr, tTup, tLst, dCat, lstOf, dListO, dLstO, dBmW, dTupRev, wipeE, h, packO, vNotIn_strsT]
    · simp [dSeq_ev, seqR_nx, seqR_rt, seqR_ct, seqR_bk, seqR_ex, seqR_ite, runF_ev, resR_nx, resR_rt, resR_ex, resR_ite, startE, wp_nxK, wp_rtK, wp_ctK, wp_bkK, wp_exK, wp_nxP, wp_rtP, wp_ite, R.bind_ok, R.bind_exn, sb_ok, sb_exn, opt_some, opt_ite, bind_ite, sb_ite, dC, dVar, dPk, Fv.toVl, dBin, dUn, dTest, vTru, dTB_ev, tbK_bl, dAnd, dOr, dNot, dBV, dIf, dChain_ev, chK_bl, daNil, daCons, dTup, dLst, dIx, doNone, doSome, dSl, dFn, diVal, diRng, dCall, dRet, dRetN, dExpr, dIfS_ev, dAsg, gSet, gUn, gsNil, gsCons, itemsOf, dNext, dBreak, dCont, dRaise, dxC, dxE, dTold_ev, toldR_ok, toldR_exn, toldR_ite, dMeth, dFld, List.lookup, dSetF, putN, dPar, dPar3, vNeg, vSub_int, vAdd_int, vEq_int, vNe_int, vLt_int, vGt_int, vLe_int, vGe_int, vIx_lst, vIx_tup, atI_int, vSl_tup, vSl_lst, cutL_toI, cutL_fromI, cutL_midI, cutL_all, oLen, seqOf, oInt, oAbs, oMax2, oMin2, oTuple, oList, vIsN_non, vIsN_str, vIsN_int, vIsN_tup, vIsN_lst, dBm, tStr, tTup, tLst, dCat, lstOf, dListO, dLstO, dBmW, dTupRev, wipeE]
  · omega
theorem pack_turned (h : G[i]? = some (packO rows)) (hr : ∀ c ∈ rows, isCd c) (hn : rows.Nodup) (hl : rows.length ≤ 900) : M_Pack_turned [.ref i] G = .ok (.ref G.length) (G ++ [packO rows.reverse]) := by
  have hm := pack_makeT G rows.reverse (fun c hc => hr c (by simpa using hc)) ((List.reverse_perm rows).nodup_iff.mpr hn) (by simp; omega)
  unfold M_Pack_turned D_Pack_turned
  simp only [List.map_reverse, packO] at hm
  simp [dSeq_ev, seqR_nx, seqR_rt, seqR_ct, seqR_bk, seqR_ex, seqR_ite, runF_ev, resR_nx, resR_rt, resR_ex, resR_ite, startE, wp_nxK, wp_rtK, wp_ctK, wp_bkK, wp_exK, wp_nxP, wp_rtP, wp_ite, R.bind_ok, R.bind_exn, sb_ok, sb_exn, opt_some, opt_ite, bind_ite, sb_ite, dC, dVar, dPk, Fv.toVl, dBin, dUn, dTest, vTru, dTB_ev, tbK_bl, dAnd, dOr, dNot, dBV, dIf, dChain_ev, chK_bl, daNil, daCons, dTup, dLst, dIx, doNone, doSome, dSl, dFn, diVal, diRng, dCall, dRet, dRetN, dExpr, dIfS_ev, dAsg, gSet, gUn, gsNil, gsCons, itemsOf, dNext, dBreak, dCont, dRaise, dxC, dxE, dTold_ev, toldR_ok, toldR_exn, toldR_ite, dMeth, dFld, List.lookup, dSetF, putN, dPar, dPar3, vNeg, vSub_int, vAdd_int, vEq_int, vNe_int, vLt_int, vGt_int, vLe_int, vGe_int, vIx_lst, vIx_tup, atI_int, vSl_tup, vSl_lst, cutL_toI, cutL_fromI, cutL_midI, cutL_all, oLen, seqOf, oInt, oAbs, oMax2, oMin2, oTuple, oList, vIsN_non, vIsN_str, vIsN_int, vIsN_tup, vIsN_lst, dBm, tStr, tTup, tLst, dCat, lstOf, dListO, dLstO, dBmW, dTupRev, dMake, h, packO, hm]
end
/-! ### riffles -/
def riffS : List Nat → Nat → List Str → List Str → List Str → List Str × List Str × List Str
  | [], _, l, r, f => (l, r, f)
  | k :: ks, n, l, r, f => if n % 2 = 0 then riffS ks (n + 1) (l.drop k) r (f ++ l.take k) else riffS ks (n + 1) l (r.drop k) (f ++ r.take k)
theorem riffS_even {k : Nat} {ks : List Nat} {n : Nat} {l r f : List Str} (h : n % 2 = 0) : riffS (k :: ks) n l r f = riffS ks (n + 1) (l.drop k) r (f ++ l.take k) := by
  conv => lhs; unfold riffS
  rw [if_pos h]
theorem riffS_odd {k : Nat} {ks : List Nat} {n : Nat} {l r f : List Str} (h : ¬ n % 2 = 0) : riffS (k :: ks) n l r f = riffS ks (n + 1) l (r.drop k) (f ++ r.take k) := by
  conv => lhs; unfold riffS
  rw [if_neg h]
theorem riffS_snoc (m : Nat) : ∀ (ks : List Nat) (n : Nat) (l r f : List Str), riffS (ks ++ [m]) n l r f = riffS [m] (n + ks.length) (riffS ks n l r f).1 (riffS ks n l r f).2.1 (riffS ks n l r f).2.2
  | [], n, l, r, f => rfl
  | k :: ks, n, l, r, f => by
    have e : n + (k :: ks).length = n + 1 + ks.length := by simp; omega
    by_cases h : n % 2 = 0
    · rw [List.cons_append, riffS_even h, riffS_even h, riffS_snoc m ks, e]
    · rw [List.cons_append, riffS_odd h, riffS_odd h, riffS_snoc m ks, e]
theorem riffS_len : ∀ (ks : List Nat) (n : Nat) (l r f : List Str), (riffS ks n l r f).1.length + (riffS ks n l r f).2.1.length + (riffS ks n l r f).2.2.length = l.length + r.length + f.length
  | [], n, l, r, f => rfl
  | k :: ks, n, l, r, f => by
    unfold riffS
    split
    · rw [riffS_len ks]; simp; omega
    · rw [riffS_len ks]; simp; omega
abbrev rifB : DS := (dSeq (dIfS (dTB (dBin vLt (dVar 7) (dC (.int 0))))
    (dRaise (dxC 1))
    dNext)
    (dIfS (dTB (dBin vEq (dBin vMod (dVar 6) (dC (.int 2))) (dC (.int 0))))
    (dSeq (dAugO 5 (dSl (dVar 3) doNone (doSome (dVar 7))))
    (dAsg (dSl (dVar 3) (doSome (dVar 7)) doNone) (gSet 3)))
    (dSeq (dAugO 5 (dSl (dVar 4) doNone (doSome (dVar 7))))
    (dAsg (dSl (dVar 4) (doSome (dVar 7)) doNone) (gSet 4)))))
def rifE (v0 v1 v2 : Option Fv) (l r : List Str) (j : Nat) (z6 z7 : Option Fv) : LEnv := [v0, v1, v2, some (.val (.lst (l.map .str))), some (.val (.lst (r.map .str))), some (.val (.ref j)), z6, z7]
theorem rif_loop (v0 v1 v2 : Option Fv) (G0 : Gst) : ∀ (ks : List Nat) (n : Nat) (l r f : List Str) (z6 z7 : Option Fv), l.length + r.length + f.length ≤ 1000 →
    ∃ z6' z7', forL (gUn 2 (gsCons (gSet 6) (gsCons (gSet 7) gsNil))) rifB (enL n (ks.map fun k : Nat => .int k)) (rifE v0 v1 v2 l r G0.length z6 z7) (G0 ++ [.lst (f.map .str)]) =
      .nx (rifE v0 v1 v2 (riffS ks n l r f).1 (riffS ks n l r f).2.1 G0.length z6' z7') (G0 ++ [.lst ((riffS ks n l r f).2.2.map .str)])
  | [], n, l, r, f, z6, z7, _ => ⟨z6, z7, rfl⟩
  | k :: ks, n, l, r, f, z6, z7, hz => by
    have hmod : vMod (.int n) (.int 2) = some (.int ((n % 2 : Nat) : Int)) := by rw [vMod_int _ _ (by decide)]; simp
    have hg : (G0 ++ [Ob.lst (f.map .str)])[G0.length]? = some (.lst (f.map .str)) := by simp
    have hs : ∀ u, (G0 ++ [Ob.lst (f.map .str)]).set G0.length u = G0 ++ [u] := fun u => by simp
    have hk0 : ¬ (k : Int) < 0 := by omega
    by_cases hn : n % 2 = 0
    · have hz1 : f.length + min k l.length ≤ 16777216 := by omega
      have hn' : (n : Int) % 2 = 0 := by omega
      obtain ⟨z6', z7', ih⟩ := rif_loop v0 v1 v2 G0 ks (n + 1) (l.drop k) r (f ++ l.take k) (some (.val (.int n))) (some (.val (.int k))) (by simp; omega)
      refine ⟨z6', z7', ?_⟩
      have e : riffS (k :: ks) n l r f = riffS ks (n + 1) (l.drop k) r (f ++ l.take k) := riffS_even hn
      rw [e, ← ih, List.map_cons]
      conv => lhs; unfold enL forL
      simp (disch := first | assumption | (simp [gd_str, gd_int, gd_bl, gd_non, gd_tup, gd_lst, gds_nil, gds_cons, gds_append, gds_str, gds_int, gds_take, gds_drop, gds_ints]; done) | (simp only [List.length_append, List.length_take, List.length_drop, List.length_map, List.length_cons, List.length_nil, List.length_range] <;> omega) | omega) [dSeq_ev, seqR_nx, seqR_rt, seqR_ct, seqR_bk, seqR_ex, seqR_ite, runF_ev, resR_nx, resR_rt, resR_ex, resR_ite, startE, wp_nxK, wp_rtK, wp_ctK, wp_bkK, wp_exK, wp_nxP, wp_rtP, wp_ite, R.bind_ok, R.bind_exn, sb_ok, sb_exn, opt_some, opt_ite, bind_ite, sb_ite, dC, dVar, dPk, Fv.toVl, dBin, dUn, dTest, vTru, dTB_ev, tbK_bl, dAnd, dOr, dNot, dBV, dIf, dChain_ev, chK_bl, daNil, daCons, dTup, dLst, dIx, doNone, doSome, dSl, dFn, diVal, diRng, dCall, dRet, dRetN, dExpr, dIfS_ev, dAsg, gSet, gUn, gsNil, gsCons, itemsOf, dNext, dBreak, dCont, dRaise, dxC, dxE, dTold_ev, toldR_ok, toldR_exn, toldR_ite, dMeth, dFld, List.lookup, dSetF, putN, dPar, dPar3, vNeg, vSub_int, vAdd_int, vEq_int, vNe_int, vLt_int, vGt_int, vLe_int, vGe_int, vIx_lst, vIx_tup, atI_int, vSl_tup, vSl_lst, cutL_toI, cutL_fromI, cutL_midI, cutL_all, oLen, seqOf, oInt, oAbs, oMax2, oMin2, oTuple, oList, vIsN_non, vIsN_str, vIsN_int, vIsN_tup, vIsN_lst, dBm, tStr, tTup, tLst, dCat, lstOf, dListO, dLstO, dBmW, dTupRev, rifE, hmod, hn, hn', hk0, hz1, dAugO, hg, hs]
    · have hz1 : f.length + min k r.length ≤ 16777216 := by omega
      have hn' : ¬ (n : Int) % 2 = 0 := by omega
      obtain ⟨z6', z7', ih⟩ := rif_loop v0 v1 v2 G0 ks (n + 1) l (r.drop k) (f ++ r.take k) (some (.val (.int n))) (some (.val (.int k))) (by simp; omega)
      refine ⟨z6', z7', ?_⟩
      have e : riffS (k :: ks) n l r f = riffS ks (n + 1) l (r.drop k) (f ++ r.take k) := riffS_odd hn
      rw [e, ← ih, List.map_cons]
      conv => lhs; unfold enL forL
      simp (disch := first | assumption | (simp [gd_str, gd_int, gd_bl, gd_non, gd_tup, gd_lst, gds_nil, gds_cons, gds_append, gds_str, gds_int, gds_take, gds_drop, gds_ints]; done) | (simp only [List.length_append, List.length_take, List.length_drop, List.length_map, List.length_cons, List.length_nil, List.length_range] <;> omega) | omega) [dSeq_ev, seqR_nx, seqR_rt, seqR_ct, seqR_bk, seqR_ex, seqR_ite, runF_ev, resR_nx, resR_rt, resR_ex, resR_ite, startE, wp_nxK, wp_rtK, wp_ctK, wp_bkK, wp_exK, wp_nxP, wp_rtP, wp_ite, R.bind_ok, R.bind_exn, sb_ok, sb_exn, opt_some, opt_ite, bind_ite, sb_ite, dC, dVar, dPk, Fv.toVl, dBin, dUn, dTest, vTru, dTB_ev, tbK_bl, dAnd, dOr, dNot, dBV, dIf, dChain_ev, chK_bl, daNil, daCons, dTup, dLst, dIx, doNone, doSome, dSl, dFn, diVal, diRng, dCall, dRet, dRetN, dExpr, dIfS_ev, dAsg, gSet, gUn, gsNil, gsCons, itemsOf, dNext, dBreak, dCont, dRaise, dxC, dxE, dTold_ev, toldR_ok, toldR_exn, toldR_ite, dMeth, dFld, List.lookup, dSetF, putN, dPar, dPar3, vNeg, vSub_int, vAdd_int, vEq_int, vNe_int, vLt_int, vGt_int, vLe_int, vGe_int, vIx_lst, vIx_tup, atI_int, vSl_tup, vSl_lst, cutL_toI, cutL_fromI, cutL_midI, cutL_all, oLen, seqOf, oInt, oAbs, oMax2, oMin2, oTuple, oList, vIsN_non, vIsN_str, vIsN_int, vIsN_tup, vIsN_lst, dBm, tStr, tTup, tLst, dCat, lstOf, dListO, dLstO, dBmW, dTupRev, rifE, hmod, hn, hn', hk0, hz1, dAugO, hg, hs]
theorem riffled (G : Gst) (l r : List Str) (ks : List Nat) (hz : l.length + r.length ≤ 1000) :
    ∃ G', M_riffled [.lst (l.map .str), .lst (r.map .str), .lst (ks.map fun k : Nat => .int k)] G = .ok (.tup (((riffS ks 0 l r []).2.2 ++ (riffS ks 0 l r []).1 ++ (riffS ks 0 l r []).2.1).map .str)) (G ++ [G']) := by
  obtain ⟨z6', z7', e⟩ := rif_loop (some (.val (.lst (l.map .str)))) (some (.val (.lst (r.map .str)))) (some (.val (.lst (ks.map fun k : Nat => .int k)))) G ks 0 l r [] none none (by simpa using hz)
  have hlen := riffS_len ks 0 l r []
  generalize riffS ks 0 l r [] = q at e hlen ⊢
  obtain ⟨l', r', f'⟩ := q
  refine ⟨.lst (f'.map .str), ?_⟩
  show runF 8 (dSeq _ (dSeq (dFor _ _ rifB) _)) _ _ = _
  generalize rifB = b at e
  simp only [rifE, List.map_nil] at e
  simp at hlen
  have hA : f'.length + l'.length ≤ 16777216 := by omega
  simp (disch := first | assumption | (simp [gd_str, gd_int, gd_bl, gd_non, gd_tup, gd_lst, gds_nil, gds_cons, gds_append, gds_str, gds_int, gds_take, gds_drop, gds_ints]; done) | (simp only [List.length_append, List.length_take, List.length_drop, List.length_map, List.length_cons, List.length_nil, List.length_range] <;> omega) | omega) [dSeq_ev, seqR_nx, seqR_rt, seqR_ct, seqR_bk, seqR_ex, seqR_ite, runF_ev, resR_nx, resR_rt, resR_ex, resR_ite, startE, wp_nxK, wp_rtK, wp_ctK, wp_bkK, wp_exK, wp_nxP, wp_rtP, wp_ite, R.bind_ok, R.bind_exn, sb_ok, sb_exn, opt_some, opt_ite, bind_ite, sb_ite, dC, dVar, dPk, Fv.toVl, dBin, dUn, dTest, vTru, dTB_ev, tbK_bl, dAnd, dOr, dNot, dBV, dIf, dChain_ev, chK_bl, daNil, daCons, dTup, dLst, dIx, doNone, doSome, dSl, dFn, diVal, diRng, dCall, dRet, dRetN, dExpr, dIfS_ev, dAsg, gSet, gUn, gsNil, gsCons, itemsOf, dNext, dBreak, dCont, dRaise, dxC, dxE, dTold_ev, toldR_ok, toldR_exn, toldR_ite, dMeth, dFld, List.lookup, dSetF, putN, dPar, dPar3, vNeg, vSub_int, vAdd_int, vEq_int, vNe_int, vLt_int, vGt_int, vLe_int, vGe_int, vIx_lst, vIx_tup, atI_int, vSl_tup, vSl_lst, cutL_toI, cutL_fromI, cutL_midI, cutL_all, oLen, seqOf, oInt, oAbs, oMax2, oMin2, oTuple, oList, vIsN_non, vIsN_str, vIsN_int, vIsN_tup, vIsN_lst, dBm, tStr, tTup, tLst, dCat, lstOf, dListO, dLstO, dBmW, dTupRev, dFor, e, enOfT, List.append_assoc, hA, vAdd_lst]
end CardH
end
section
set_option maxHeartbeats 4000000
namespace CardH
open PySem PySem.Spec PyProof.Rows L2
/-- the key of a card's text -/
def keyV (c : Str) : Vl := .tup [.str (sg (c.cps.getD 1 0)), .int (rkN (c.cps.getD 0 0) : Nat)]
theorem keyV_cd (x y : Nat) : keyV (cdS x y) = .tup [.str (sg y), .int (rkN x : Nat)] := rfl
def keyD (c : Str) : PyData := .tuple [.str (sg (c.cps.getD 1 0)), .int (rkN (c.cps.getD 0 0) : Nat)]
def keyLt (a b : Str) : Bool := PySem.W.dataLt (keyD a) (keyD b)
theorem vLt_key (a b : Str) : vLt (keyV a) (keyV b) = some (.bl (keyLt a b)) := by
  show ordD _ (keyV a) (keyV b) = _
  unfold ordD
  have e : ∀ c, py (keyV c) 60 = some (keyD c) := fun c => rfl
  rw [e, e]
  dsimp only
  rw [if_pos ⟨by first | rfl | decide | simp [keyD, PySem.W.alike], rfl⟩]
  rfl
theorem order_key (G : Gst) {c : Str} (h : isCd c) : M_order_of [.str c] G = .ok (keyV c) G := by
  obtain ⟨x, hx, y, hy, rfl⟩ := h
  exact order_of G hx hy
theorem law_key' (G : Gst) {c : Str} (h : isCd c) : M__law_key [.str c] G = .ok (keyV c) G := by
  obtain ⟨x, hx, y, hy, rfl⟩ := h
  exact law_key G hx
def fallsP (cards : List Str) (j : Nat) : Bool := keyLt (cards.getD (1 + j) "") (cards.getD j "")
theorem at_strs {cards : List Str} {j : Nat} (h : j < cards.length) : (cards.map Vl.str)[j]? = some (.str (cards.getD j "")) := by
  simp [h]
theorem getD_mem {cards : List Str} {j : Nat} (h : j < cards.length) : cards.getD j "" ∈ cards := by
  rw [List.getD_eq_getElem?_getD, List.getElem?_eq_getElem h]
  simp
def falls (cards : List Str) : List Nat := (List.range (cards.length - 1)).filter (fallsP cards)
theorem rising_rows (G : Gst) (cards : List Str) (hr : ∀ c ∈ cards, isCd c) (hl : cards.length ≤ 1000) : M_rising_rows [.lst (cards.map .str)] G = .ok (.int (if cards = [] then 0 else 1 + (falls cards).length)) G := by
  unfold M_rising_rows D_rising_rows
  cases cards with
  | nil => simp [dSeq_ev, seqR_nx, seqR_rt, seqR_ct, seqR_bk, seqR_ex, seqR_ite, runF_ev, resR_nx, resR_rt, resR_ex, resR_ite, startE, wp_nxK, wp_rtK, wp_ctK, wp_bkK, wp_exK, wp_nxP, wp_rtP, wp_ite, R.bind_ok, R.bind_exn, sb_ok, sb_exn, opt_some, opt_ite, bind_ite, sb_ite, dC, dVar, dPk, Fv.toVl, dBin, dUn, dTest, vTru, dTB_ev, tbK_bl, dAnd, dOr, dNot, dBV, dIf, dChain_ev, chK_bl, daNil, daCons, dTup, dLst, dIx, doNone, doSome, dSl, dFn, diVal, diRng, dCall, dRet, dRetN, dExpr, dIfS_ev, dAsg, gSet, gUn, gsNil, gsCons, itemsOf, dNext, dBreak, dCont, dRaise, dxC, dxE, dTold_ev, toldR_ok, toldR_exn, toldR_ite, dMeth, dFld, List.lookup, dSetF, putN, dPar, dPar3, vNeg, vSub_int, vAdd_int, vEq_int, vNe_int, vLt_int, vGt_int, vLe_int, vGe_int, vIx_lst, vIx_tup, atI_int, vSl_tup, vSl_lst, cutL_toI, cutL_fromI, cutL_midI, cutL_all, oLen, seqOf, oInt, oAbs, oMax2, oMin2, oTuple, oList, vIsN_non, vIsN_str, vIsN_int, vIsN_tup, vIsN_lst, dBm, tStr, tTup, tLst, dCat, lstOf, dListO, dLstO, dBmW, dTupRev]
  | cons a l =>
    have hne : ¬ ((a :: l).length : Int) = 0 := by simp; omega
    have hr2 := rng2_int 1 ((a :: l).length : Int) (by omega)
    generalize hcs : a :: l = cs at hne hr2 hr hl
    rw [if_neg (by rw [← hcs]; simp)]
    simp only [dSeq_ev, seqR_nx, seqR_rt, seqR_ct, seqR_bk, seqR_ex, seqR_ite, runF_ev, resR_nx, resR_rt, resR_ex, resR_ite, startE, wp_nxK, wp_rtK, wp_ctK, wp_bkK, wp_exK, wp_nxP, wp_rtP, wp_ite, R.bind_ok, R.bind_exn, sb_ok, sb_exn, opt_some, opt_ite, bind_ite, sb_ite, dC, dVar, dPk, Fv.toVl, dBin, dUn, dTest, vTru, dTB_ev, tbK_bl, dAnd, dOr, dNot, dBV, dIf, dChain_ev, chK_bl, daNil, daCons, dTup, dLst, dIx, doNone, doSome, dSl, dFn, diVal, diRng, dCall, dRet, dRetN, dExpr, dIfS_ev, dAsg, gSet, gUn, gsNil, gsCons, itemsOf, dNext, dBreak, dCont, dRaise, dxC, dxE, dTold_ev, toldR_ok, toldR_exn, toldR_ite, dMeth, dFld, List.lookup, dSetF, putN, dPar, dPar3, vNeg, vSub_int, vAdd_int, vEq_int, vNe_int, vLt_int, vGt_int, vLe_int, vGe_int, vIx_lst, vIx_tup, atI_int, vSl_tup, vSl_lst, cutL_toI, cutL_fromI, cutL_midI, cutL_all, oLen, seqOf, oInt, oAbs, oMax2, oMin2, oTuple, oList, vIsN_non, vIsN_str, vIsN_int, vIsN_tup, vIsN_lst, dBm, tStr, tTup, tLst, dCat, lstOf, dListO, dLstO, dBmW, dTupRev, startE, List.map_cons, List.map_nil, List.length_cons, List.length_nil, List.cons_append, List.nil_append, Nat.reduceAdd, Nat.reduceSub, List.replicate, List.getElem?_cons_succ, List.getElem?_cons_zero, List.length_map, hne, decide_false, Bool.false_eq_true, if_false, Option.map_some]
    rw [dSumG_tmF (List.range (cs.length - 1)) (fun j : Nat => .int (1 + (j : Nat))) (fallsP cs) (fun _ => 1) (G1 := G)]
    · rw [sum_ones]
      simp [dSeq_ev, seqR_nx, seqR_rt, seqR_ct, seqR_bk, seqR_ex, seqR_ite, runF_ev, resR_nx, resR_rt, resR_ex, resR_ite, startE, wp_nxK, wp_rtK, wp_ctK, wp_bkK, wp_exK, wp_nxP, wp_rtP, wp_ite, R.bind_ok, R.bind_exn, sb_ok, sb_exn, opt_some, opt_ite, bind_ite, sb_ite, dC, dVar, dPk, Fv.toVl, dBin, dUn, dTest, vTru, dTB_ev, tbK_bl, dAnd, dOr, dNot, dBV, dIf, dChain_ev, chK_bl, daNil, daCons, dTup, dLst, dIx, doNone, doSome, dSl, dFn, diVal, diRng, dCall, dRet, dRetN, dExpr, dIfS_ev, dAsg, gSet, gUn, gsNil, gsCons, itemsOf, dNext, dBreak, dCont, dRaise, dxC, dxE, dTold_ev, toldR_ok, toldR_exn, toldR_ite, dMeth, dFld, List.lookup, dSetF, putN, dPar, dPar3, vNeg, vSub_int, vAdd_int, vEq_int, vNe_int, vLt_int, vGt_int, vLe_int, vGe_int, vIx_lst, vIx_tup, atI_int, vSl_tup, vSl_lst, cutL_toI, cutL_fromI, cutL_midI, cutL_all, oLen, seqOf, oInt, oAbs, oMax2, oMin2, oTuple, oList, vIsN_non, vIsN_str, vIsN_int, vIsN_tup, vIsN_lst, dBm, tStr, tTup, tLst, dCat, lstOf, dListO, dLstO, dBmW, dTupRev, falls]
    · have : ((cs.length : Int) - 1).toNat = cs.length - 1 := by omega
      rw [this] at hr2
      simp [dSeq_ev, seqR_nx, seqR_rt, seqR_ct, seqR_bk, seqR_ex, seqR_ite, runF_ev, resR_nx, resR_rt, resR_ex, resR_ite, startE, wp_nxK, wp_rtK, wp_ctK, wp_bkK, wp_exK, wp_nxP, wp_rtP, wp_ite, R.bind_ok, R.bind_exn, sb_ok, sb_exn, opt_some, opt_ite, bind_ite, sb_ite, dC, dVar, dPk, Fv.toVl, dBin, dUn, dTest, vTru, dTB_ev, tbK_bl, dAnd, dOr, dNot, dBV, dIf, dChain_ev, chK_bl, daNil, daCons, dTup, dLst, dIx, doNone, doSome, dSl, dFn, diVal, diRng, dCall, dRet, dRetN, dExpr, dIfS_ev, dAsg, gSet, gUn, gsNil, gsCons, itemsOf, dNext, dBreak, dCont, dRaise, dxC, dxE, dTold_ev, toldR_ok, toldR_exn, toldR_ite, dMeth, dFld, List.lookup, dSetF, putN, dPar, dPar3, vNeg, vSub_int, vAdd_int, vEq_int, vNe_int, vLt_int, vGt_int, vLe_int, vGe_int, vIx_lst, vIx_tup, atI_int, vSl_tup, vSl_lst, cutL_toI, cutL_fromI, cutL_midI, cutL_all, oLen, seqOf, oInt, oAbs, oMax2, oMin2, oTuple, oList, vIsN_non, vIsN_str, vIsN_int, vIsN_tup, vIsN_lst, dBm, tStr, tTup, tLst, dCat, lstOf, dListO, dLstO, dBmW, dTupRev, hr2, rgL]
    · intro j hj
      rw [List.mem_range] at hj
      have h1 : (cs.map Vl.str)[1 + j]? = some (.str (cs.getD (1 + j) "")) := at_strs (by omega)
      have h0 : (cs.map Vl.str)[j]? = some (.str (cs.getD j "")) := at_strs (by omega)
      have k1 := fun G => order_key G (hr _ (getD_mem (cards := cs) (j := 1 + j) (by omega)))
      have k0 := fun G => order_key G (hr _ (getD_mem (cards := cs) (j := j) (by omega)))
      have hlt := vLt_key (cs.getD (1 + j) "") (cs.getD j "")
      unfold fallsP
      generalize cs.getD (1 + j) "" = c1 at h1 k1 hlt ⊢
      generalize cs.getD j "" = c0 at h0 k0 hlt ⊢
      clear hj
      refine ⟨_, rfl, ?_, fun _ => ?_⟩
      · have e1 : ((1 : Int) + (j : Int)).toNat = 1 + j := by omega
        have e2 : ((1 : Int) + (j : Int) - 1).toNat = j := by omega
        simp (disch := first | assumption | (simp [gd_str, gd_int, gd_bl, gd_non, gd_tup, gd_lst, gds_nil, gds_cons, gds_append, gds_str, gds_int, gds_take, gds_drop, gds_ints]; done) | (simp only [List.length_append, List.length_take, List.length_drop, List.length_map, List.length_cons, List.length_nil, List.length_range] <;> omega) | omega) [dSeq_ev, seqR_nx, seqR_rt, seqR_ct, seqR_bk, seqR_ex, seqR_ite, runF_ev, resR_nx, resR_rt, resR_ex, resR_ite, startE, wp_nxK, wp_rtK, wp_ctK, wp_bkK, wp_exK, wp_nxP, wp_rtP, wp_ite, R.bind_ok, R.bind_exn, sb_ok, sb_exn, opt_some, opt_ite, bind_ite, sb_ite, dC, dVar, dPk, Fv.toVl, dBin, dUn, dTest, vTru, dTB_ev, tbK_bl, dAnd, dOr, dNot, dBV, dIf, dChain_ev, chK_bl, daNil, daCons, dTup, dLst, dIx, doNone, doSome, dSl, dFn, diVal, diRng, dCall, dRet, dRetN, dExpr, dIfS_ev, dAsg, gSet, gUn, gsNil, gsCons, itemsOf, dNext, dBreak, dCont, dRaise, dxC, dxE, dTold_ev, toldR_ok, toldR_exn, toldR_ite, dMeth, dFld, List.lookup, dSetF, putN, dPar, dPar3, vNeg, vSub_int, vAdd_int, vEq_int, vNe_int, vLt_int, vGt_int, vLe_int, vGe_int, vIx_lst, vIx_tup, atI_int, vSl_tup, vSl_lst, cutL_toI, cutL_fromI, cutL_midI, cutL_all, oLen, seqOf, oInt, oAbs, oMax2, oMin2, oTuple, oList, vIsN_non, vIsN_str, vIsN_int, vIsN_tup, vIsN_lst, dBm, tStr, tTup, tLst, dCat, lstOf, dListO, dLstO, dBmW, dTupRev, wipeE, e1, e2, h1, h0, k1, k0, hlt, -List.getElem?_map]
      · simp [dSeq_ev, seqR_nx, seqR_rt, seqR_ct, seqR_bk, seqR_ex, seqR_ite, runF_ev, resR_nx, resR_rt, resR_ex, resR_ite, startE, wp_nxK, wp_rtK, wp_ctK, wp_bkK, wp_exK, wp_nxP, wp_rtP, wp_ite, R.bind_ok, R.bind_exn, sb_ok, sb_exn, opt_some, opt_ite, bind_ite, sb_ite, dC, dVar, dPk, Fv.toVl, dBin, dUn, dTest, vTru, dTB_ev, tbK_bl, dAnd, dOr, dNot, dBV, dIf, dChain_ev, chK_bl, daNil, daCons, dTup, dLst, dIx, doNone, doSome, dSl, dFn, diVal, diRng, dCall, dRet, dRetN, dExpr, dIfS_ev, dAsg, gSet, gUn, gsNil, gsCons, itemsOf, dNext, dBreak, dCont, dRaise, dxC, dxE, dTold_ev, toldR_ok, toldR_exn, toldR_ite, dMeth, dFld, List.lookup, dSetF, putN, dPar, dPar3, vNeg, vSub_int, vAdd_int, vEq_int, vNe_int, vLt_int, vGt_int, vLe_int, vGe_int, vIx_lst, vIx_tup, atI_int, vSl_tup, vSl_lst, cutL_toI, cutL_fromI, cutL_midI, cutL_all, oLen, seqOf, oInt, oAbs, oMax2, oMin2, oTuple, oList, vIsN_non, vIsN_str, vIsN_int, vIsN_tup, vIsN_lst, dBm, tStr, tTup, tLst, dCat, lstOf, dListO, dLstO, dBmW, dTupRev]
theorem by_colour (G : Gst) (cards : List Str) (hr : ∀ c ∈ cards, isCd c) (hl : cards.length ≤ 1000) : M_by_colour [.lst (cards.map .str)] G = .ok (.tup [.tup ((cards.filter fun c => redB (c.cps.getD 1 0)).map .str), .tup ((cards.filter fun c => !redB (c.cps.getD 1 0)).map .str)]) G := by
  have hred : ∀ G, ∀ c ∈ cards, M_is_red [.str c] G = .ok (.bl (redB (c.cps.getD 1 0))) G := fun G c hc => by
    obtain ⟨x, hx, y, hy, rfl⟩ := hr c hc
    exact is_red G hx hy
  unfold M_by_colour D_by_colour
  simp only [dSeq_ev, seqR_nx, seqR_rt, seqR_ct, seqR_bk, seqR_ex, seqR_ite, runF_ev, resR_nx, resR_rt, resR_ex, resR_ite, startE, wp_nxK, wp_rtK, wp_ctK, wp_bkK, wp_exK, wp_nxP, wp_rtP, wp_ite, R.bind_ok, R.bind_exn, sb_ok, sb_exn, opt_some, opt_ite, bind_ite, sb_ite, dC, dVar, dPk, Fv.toVl, dBin, dUn, dTest, vTru, dTB_ev, tbK_bl, dAnd, dOr, dNot, dBV, dIf, dChain_ev, chK_bl, daNil, daCons, dTup, dLst, dIx, doNone, doSome, dSl, dFn, diVal, diRng, dCall, dRet, dRetN, dExpr, dIfS_ev, dAsg, gSet, gUn, gsNil, gsCons, itemsOf, dNext, dBreak, dCont, dRaise, dxC, dxE, dTold_ev, toldR_ok, toldR_exn, toldR_ite, dMeth, dFld, List.lookup, dSetF, putN, dPar, dPar3, vNeg, vSub_int, vAdd_int, vEq_int, vNe_int, vLt_int, vGt_int, vLe_int, vGe_int, vIx_lst, vIx_tup, atI_int, vSl_tup, vSl_lst, cutL_toI, cutL_fromI, cutL_midI, cutL_all, oLen, seqOf, oInt, oAbs, oMax2, oMin2, oTuple, oList, vIsN_non, vIsN_str, vIsN_int, vIsN_tup, vIsN_lst, dBm, tStr, tTup, tLst, dCat, lstOf, dListO, dLstO, dBmW, dTupRev, startE, List.map_cons, List.map_nil, List.length_cons, List.length_nil, List.cons_append, List.nil_append, Nat.reduceAdd, Nat.reduceSub, List.replicate, List.getElem?_cons_succ, List.getElem?_cons_zero]
  rw [dLc_tm cards Vl.str (fun c => redB (c.cps.getD 1 0)) Vl.str (G1 := G)]
  · simp only [dSeq_ev, seqR_nx, seqR_rt, seqR_ct, seqR_bk, seqR_ex, seqR_ite, runF_ev, resR_nx, resR_rt, resR_ex, resR_ite, startE, wp_nxK, wp_rtK, wp_ctK, wp_bkK, wp_exK, wp_nxP, wp_rtP, wp_ite, R.bind_ok, R.bind_exn, sb_ok, sb_exn, opt_some, opt_ite, bind_ite, sb_ite, dC, dVar, dPk, Fv.toVl, dBin, dUn, dTest, vTru, dTB_ev, tbK_bl, dAnd, dOr, dNot, dBV, dIf, dChain_ev, chK_bl, daNil, daCons, dTup, dLst, dIx, doNone, doSome, dSl, dFn, diVal, diRng, dCall, dRet, dRetN, dExpr, dIfS_ev, dAsg, gSet, gUn, gsNil, gsCons, itemsOf, dNext, dBreak, dCont, dRaise, dxC, dxE, dTold_ev, toldR_ok, toldR_exn, toldR_ite, dMeth, dFld, List.lookup, dSetF, putN, dPar, dPar3, vNeg, vSub_int, vAdd_int, vEq_int, vNe_int, vLt_int, vGt_int, vLe_int, vGe_int, vIx_lst, vIx_tup, atI_int, vSl_tup, vSl_lst, cutL_toI, cutL_fromI, cutL_midI, cutL_all, oLen, seqOf, oInt, oAbs, oMax2, oMin2, oTuple, oList, vIsN_non, vIsN_str, vIsN_int, vIsN_tup, vIsN_lst, dBm, tStr, tTup, tLst, dCat, lstOf, dListO, dLstO, dBmW, dTupRev, startE, List.map_cons, List.map_nil, List.length_cons, List.length_nil, List.cons_append, List.nil_append, Nat.reduceAdd, Nat.reduceSub, List.replicate, List.getElem?_cons_succ, List.getElem?_cons_zero]
    rw [dLc_tm cards Vl.str (fun c => !redB (c.cps.getD 1 0)) Vl.str (G1 := G)]
    · simp [dSeq_ev, seqR_nx, seqR_rt, seqR_ct, seqR_bk, seqR_ex, seqR_ite, runF_ev, resR_nx, resR_rt, resR_ex, resR_ite, startE, wp_nxK, wp_rtK, wp_ctK, wp_bkK, wp_exK, wp_nxP, wp_rtP, wp_ite, R.bind_ok, R.bind_exn, sb_ok, sb_exn, opt_some, opt_ite, bind_ite, sb_ite, dC, dVar, dPk, Fv.toVl, dBin, dUn, dTest, vTru, dTB_ev, tbK_bl, dAnd, dOr, dNot, dBV, dIf, dChain_ev, chK_bl, daNil, daCons, dTup, dLst, dIx, doNone, doSome, dSl, dFn, diVal, diRng, dCall, dRet, dRetN, dExpr, dIfS_ev, dAsg, gSet, gUn, gsNil, gsCons, itemsOf, dNext, dBreak, dCont, dRaise, dxC, dxE, dTold_ev, toldR_ok, toldR_exn, toldR_ite, dMeth, dFld, List.lookup, dSetF, putN, dPar, dPar3, vNeg, vSub_int, vAdd_int, vEq_int, vNe_int, vLt_int, vGt_int, vLe_int, vGe_int, vIx_lst, vIx_tup, atI_int, vSl_tup, vSl_lst, cutL_toI, cutL_fromI, cutL_midI, cutL_all, oLen, seqOf, oInt, oAbs, oMax2, oMin2, oTuple, oList, vIsN_non, vIsN_str, vIsN_int, vIsN_tup, vIsN_lst, dBm, tStr, tTup, tLst, dCat, lstOf, dListO, dLstO, dBmW, dTupRev]
    · simp [dSeq_ev, seqR_nx, seqR_rt, seqR_ct, seqR_bk, seqR_ex, seqR_ite, runF_ev, resR_nx, resR_rt, resR_ex, resR_ite, startE, wp_nxK, wp_rtK, wp_ctK, wp_bkK, wp_exK, wp_nxP, wp_rtP, wp_ite, R.bind_ok, R.bind_exn, sb_ok, sb_exn, opt_some, opt_ite, bind_ite, sb_ite, dC, dVar, dPk, Fv.toVl, dBin, dUn, dTest, vTru, dTB_ev, tbK_bl, dAnd, dOr, dNot, dBV, dIf, dChain_ev, chK_bl, daNil, daCons, dTup, dLst, dIx, doNone, doSome, dSl, dFn, diVal, diRng, dCall, dRet, dRetN, dExpr, dIfS_ev, dAsg, gSet, gUn, gsNil, gsCons, itemsOf, dNext, dBreak, dCont, dRaise, dxC, dxE, dTold_ev, toldR_ok, toldR_exn, toldR_ite, dMeth, dFld, List.lookup, dSetF, putN, dPar, dPar3, vNeg, vSub_int, vAdd_int, vEq_int, vNe_int, vLt_int, vGt_int, vLe_int, vGe_int, vIx_lst, vIx_tup, atI_int, vSl_tup, vSl_lst, cutL_toI, cutL_fromI, cutL_midI, cutL_all, oLen, seqOf, oInt, oAbs, oMax2, oMin2, oTuple, oList, vIsN_non, vIsN_str, vIsN_int, vIsN_tup, vIsN_lst, dBm, tStr, tTup, tLst, dCat, lstOf, dListO, dLstO, dBmW, dTupRev, walkOf]
    · intro c hc
      refine ⟨_, rfl, ?_, fun _ => ?_⟩
      · have := fun G => hred G c hc
        simp [dSeq_ev, seqR_nx, seqR_rt, seqR_ct, seqR_bk, seqR_ex, seqR_ite, runF_ev, resR_nx, resR_rt, resR_ex, resR_ite, startE, wp_nxK, wp_rtK, wp_ctK, wp_bkK, wp_exK, wp_nxP, wp_rtP, wp_ite, R.bind_ok, R.bind_exn, sb_ok, sb_exn, opt_some, opt_ite, bind_ite, sb_ite, dC, dVar, dPk, Fv.toVl, dBin, dUn, dTest, vTru, dTB_ev, tbK_bl, dAnd, dOr, dNot, dBV, dIf, dChain_ev, chK_bl, daNil, daCons, dTup, dLst, dIx, doNone, doSome, dSl, dFn, diVal, diRng, dCall, dRet, dRetN, dExpr, dIfS_ev, dAsg, gSet, gUn, gsNil, gsCons, itemsOf, dNext, dBreak, dCont, dRaise, dxC, dxE, dTold_ev, toldR_ok, toldR_exn, toldR_ite, dMeth, dFld, List.lookup, dSetF, putN, dPar, dPar3, vNeg, vSub_int, vAdd_int, vEq_int, vNe_int, vLt_int, vGt_int, vLe_int, vGe_int, vIx_lst, vIx_tup, atI_int, vSl_tup, vSl_lst, cutL_toI, cutL_fromI, cutL_midI, cutL_all, oLen, seqOf, oInt, oAbs, oMax2, oMin2, oTuple, oList, vIsN_non, vIsN_str, vIsN_int, vIsN_tup, vIsN_lst, dBm, tStr, tTup, tLst, dCat, lstOf, dListO, dLstO, dBmW, dTupRev, wipeE, this]
      · simp [dSeq_ev, seqR_nx, seqR_rt, seqR_ct, seqR_bk, seqR_ex, seqR_ite, runF_ev, resR_nx, resR_rt, resR_ex, resR_ite, startE, wp_nxK, wp_rtK, wp_ctK, wp_bkK, wp_exK, wp_nxP, wp_rtP, wp_ite, R.bind_ok, R.bind_exn, sb_ok, sb_exn, opt_some, opt_ite, bind_ite, sb_ite, dC, dVar, dPk, Fv.toVl, dBin, dUn, dTest, vTru, dTB_ev, tbK_bl, dAnd, dOr, dNot, dBV, dIf, dChain_ev, chK_bl, daNil, daCons, dTup, dLst, dIx, doNone, doSome, dSl, dFn, diVal, diRng, dCall, dRet, dRetN, dExpr, dIfS_ev, dAsg, gSet, gUn, gsNil, gsCons, itemsOf, dNext, dBreak, dCont, dRaise, dxC, dxE, dTold_ev, toldR_ok, toldR_exn, toldR_ite, dMeth, dFld, List.lookup, dSetF, putN, dPar, dPar3, vNeg, vSub_int, vAdd_int, vEq_int, vNe_int, vLt_int, vGt_int, vLe_int, vGe_int, vIx_lst, vIx_tup, atI_int, vSl_tup, vSl_lst, cutL_toI, cutL_fromI, cutL_midI, cutL_all, oLen, seqOf, oInt, oAbs, oMax2, oMin2, oTuple, oList, vIsN_non, vIsN_str, vIsN_int, vIsN_tup, vIsN_lst, dBm, tStr, tTup, tLst, dCat, lstOf, dListO, dLstO, dBmW, dTupRev, wipeE]
    · omega
  · simp [dSeq_ev, seqR_nx, seqR_rt, seqR_ct, seqR_bk, seqR_ex, seqR_ite, runF_ev, resR_nx, resR_rt, resR_ex, resR_ite, startE, wp_nxK, wp_rtK, wp_ctK, wp_bkK, wp_exK, wp_nxP, wp_rtP, wp_ite, R.bind_ok, R.bind_exn, sb_ok, sb_exn, opt_some, opt_ite, bind_ite, sb_ite, dC, dVar, dPk, Fv.toVl, dBin, dUn, dTest, vTru, dTB_ev, tbK_bl, dAnd, dOr, dNot, dBV, dIf, dChain_ev, chK_bl, daNil, daCons, dTup, dLst, dIx, doNone, doSome, dSl, dFn, diVal, diRng, dCall, dRet, dRetN, dExpr, dIfS_ev, dAsg, gSet, gUn, gsNil, gsCons, itemsOf, dNext, dBreak, dCont, dRaise, dxC, dxE, dTold_ev, toldR_ok, toldR_exn, toldR_ite, dMeth, dFld, List.lookup, dSetF, putN, dPar, dPar3, vNeg, vSub_int, vAdd_int, vEq_int, vNe_int, vLt_int, vGt_int, vLe_int, vGe_int, vIx_lst, vIx_tup, atI_int, vSl_tup, vSl_lst, cutL_toI, cutL_fromI, cutL_midI, cutL_all, oLen, seqOf, oInt, oAbs, oMax2, oMin2, oTuple, oList, vIsN_non, vIsN_str, vIsN_int, vIsN_tup, vIsN_lst, dBm, tStr, tTup, tLst, dCat, lstOf, dListO, dLstO, dBmW, dTupRev, walkOf]
  · intro c hc
    refine ⟨_, rfl, ?_, fun _ => ?_⟩
    · have := fun G => hred G c hc
      simp [dSeq_ev, seqR_nx, seqR_rt, seqR_ct, seqR_bk, seqR_ex, seqR_ite, runF_ev, resR_nx, resR_rt, resR_ex, resR_ite, startE, wp_nxK, wp_rtK, wp_ctK, wp_bkK, wp_exK, wp_nxP, wp_rtP, wp_ite, R.bind_ok, R.bind_exn, sb_ok, sb_exn, opt_some, opt_ite, bind_ite, sb_ite, dC, dVar, dPk, Fv.toVl, dBin, dUn, dTest, vTru, dTB_ev, tbK_bl, dAnd, dOr, dNot, dBV, dIf, dChain_ev, chK_bl, daNil, daCons, dTup, dLst, dIx, doNone, doSome, dSl, dFn, diVal, diRng, dCall, dRet, dRetN, dExpr, dIfS_ev, dAsg, gSet, gUn, gsNil, gsCons, itemsOf, dNext, dBreak, dCont, dRaise, dxC, dxE, dTold_ev, toldR_ok, toldR_exn, toldR_ite, dMeth, dFld, List.lookup, dSetF, putN, dPar, dPar3, vNeg, vSub_int, vAdd_int, vEq_int, vNe_int, vLt_int, vGt_int, vLe_int, vGe_int, vIx_lst, vIx_tup, atI_int, vSl_tup, vSl_lst, cutL_toI, cutL_fromI, cutL_midI, cutL_all, oLen, seqOf, oInt, oAbs, oMax2, oMin2, oTuple, oList, vIsN_non, vIsN_str, vIsN_int, vIsN_tup, vIsN_lst, dBm, tStr, tTup, tLst, dCat, lstOf, dListO, dLstO, dBmW, dTupRev, wipeE, this]
    · simp [dSeq_ev, seqR_nx, seqR_rt, seqR_ct, seqR_bk, seqR_ex, seqR_ite, runF_ev, resR_nx, resR_rt, resR_ex, resR_ite, startE, wp_nxK, wp_rtK, wp_ctK, wp_bkK, wp_exK, wp_nxP, wp_rtP, wp_ite, R.bind_ok, R.bind_exn, sb_ok, sb_exn, opt_some, opt_ite, bind_ite, sb_ite, dC, dVar, dPk, Fv.toVl, dBin, dUn, dTest, vTru, dTB_ev, tbK_bl, dAnd, dOr, dNot, dBV, dIf, dChain_ev, chK_bl, daNil, daCons, dTup, dLst, dIx, doNone, doSome, dSl, dFn, diVal, diRng, dCall, dRet, dRetN, dExpr, dIfS_ev, dAsg, gSet, gUn, gsNil, gsCons, itemsOf, dNext, dBreak, dCont, dRaise, dxC, dxE, dTold_ev, toldR_ok, toldR_exn, toldR_ite, dMeth, dFld, List.lookup, dSetF, putN, dPar, dPar3, vNeg, vSub_int, vAdd_int, vEq_int, vNe_int, vLt_int, vGt_int, vLe_int, vGe_int, vIx_lst, vIx_tup, atI_int, vSl_tup, vSl_lst, cutL_toI, cutL_fromI, cutL_midI, cutL_all, oLen, seqOf, oInt, oAbs, oMax2, oMin2, oTuple, oList, vIsN_non, vIsN_str, vIsN_int, vIsN_tup, vIsN_lst, dBm, tStr, tTup, tLst, dCat, lstOf, dListO, dLstO, dBmW, dTupRev, wipeE]
  · omega
theorem moved_card (G : Gst) (cards : List Str) (p q : Nat) (hl : cards.length ≤ 1000) (hp : p ≤ 1000 ∧ q ≤ 1000) :
    ∃ T, M_moved_card [.lst (cards.map .str), .int p, .int q] G = if p < cards.length ∧ q < cards.length then .ok (.tup (((cards.take p ++ cards.drop (p + 1)).take q ++ (cards.drop p).take 1 ++ (cards.take p ++ cards.drop (p + 1)).drop q).map .str)) (G ++ T) else .exn { cls := 2 } G := by
  by_cases h1 : p < cards.length
  · by_cases h2 : q < cards.length
    · simp only [h1, h2, and_self, if_true]
      have hpop : oPopAt (cards.map .str) [.int p] = some (.str (cards.getD p ""), ((cards.take p ++ cards.drop (p + 1)).map .str)) := by
        rw [oPopAt_eq (by simp; omega) (at_strs h1), List.eraseIdx_eq_take_drop_succ]
        simp
      have hdt : (cards.drop p).take 1 = [cards.getD p ""] := by
        rw [List.drop_eq_getElem_cons h1, List.getD_eq_getElem?_getD, List.getElem?_eq_getElem h1]
        rfl
      have hlen : (cards.take p ++ cards.drop (p + 1)).length ≤ 1000 := by simp; omega
      rw [hdt]
      generalize cards.getD p "" = c at hpop
      generalize cards.take p ++ cards.drop (p + 1) = rest at hpop hlen
      have hins : oInsert (rest.map .str) [.int q, .str c] = some (.non, (rest.take q ++ [c] ++ rest.drop q).map .str) := by
        rw [oInsert_eq (by simp; omega) (by omega)]
        simp
      refine ⟨[.lst ((rest.take q ++ [c] ++ rest.drop q).map .str)], ?_⟩
      unfold M_moved_card D_moved_card
      have hg0 : ∀ u, (G ++ [Ob.lst u])[G.length]? = some (.lst u) := fun u => by simp
      have hs0 : ∀ u v, (G ++ [Ob.lst u]).set G.length v = G ++ [v] := fun u v => by simp
      generalize (rest.take q ++ [c] ++ rest.drop q).map Vl.str = fin at hins
      simp [dSeq_ev, seqR_nx, seqR_rt, seqR_ct, seqR_bk, seqR_ex, seqR_ite, runF_ev, resR_nx, resR_rt, resR_ex, resR_ite, startE, wp_nxK, wp_rtK, wp_ctK, wp_bkK, wp_exK, wp_nxP, wp_rtP, wp_ite, R.bind_ok, R.bind_exn, sb_ok, sb_exn, opt_some, opt_ite, bind_ite, sb_ite, dC, dVar, dPk, Fv.toVl, dBin, dUn, dTest, vTru, dTB_ev, tbK_bl, dAnd, dOr, dNot, dBV, dIf, dChain_ev, chK_bl, daNil, daCons, dTup, dLst, dIx, doNone, doSome, dSl, dFn, diVal, diRng, dCall, dRet, dRetN, dExpr, dIfS_ev, dAsg, gSet, gUn, gsNil, gsCons, itemsOf, dNext, dBreak, dCont, dRaise, dxC, dxE, dTold_ev, toldR_ok, toldR_exn, toldR_ite, dMeth, dFld, List.lookup, dSetF, putN, dPar, dPar3, vNeg, vSub_int, vAdd_int, vEq_int, vNe_int, vLt_int, vGt_int, vLe_int, vGe_int, vIx_lst, vIx_tup, atI_int, vSl_tup, vSl_lst, cutL_toI, cutL_fromI, cutL_midI, cutL_all, oLen, seqOf, oInt, oAbs, oMax2, oMin2, oTuple, oList, vIsN_non, vIsN_str, vIsN_int, vIsN_tup, vIsN_lst, dBm, tStr, tTup, tLst, dCat, lstOf, dListO, dLstO, dBmW, dTupRev, h1, h2, hpop, hins, hg0, hs0]
    · refine ⟨[], ?_⟩
      rw [if_neg (fun z => h2 z.2)]
      unfold M_moved_card D_moved_card
      simp [dSeq_ev, seqR_nx, seqR_rt, seqR_ct, seqR_bk, seqR_ex, seqR_ite, runF_ev, resR_nx, resR_rt, resR_ex, resR_ite, startE, wp_nxK, wp_rtK, wp_ctK, wp_bkK, wp_exK, wp_nxP, wp_rtP, wp_ite, R.bind_ok, R.bind_exn, sb_ok, sb_exn, opt_some, opt_ite, bind_ite, sb_ite, dC, dVar, dPk, Fv.toVl, dBin, dUn, dTest, vTru, dTB_ev, tbK_bl, dAnd, dOr, dNot, dBV, dIf, dChain_ev, chK_bl, daNil, daCons, dTup, dLst, dIx, doNone, doSome, dSl, dFn, diVal, diRng, dCall, dRet, dRetN, dExpr, dIfS_ev, dAsg, gSet, gUn, gsNil, gsCons, itemsOf, dNext, dBreak, dCont, dRaise, dxC, dxE, dTold_ev, toldR_ok, toldR_exn, toldR_ite, dMeth, dFld, List.lookup, dSetF, putN, dPar, dPar3, vNeg, vSub_int, vAdd_int, vEq_int, vNe_int, vLt_int, vGt_int, vLe_int, vGe_int, vIx_lst, vIx_tup, atI_int, vSl_tup, vSl_lst, cutL_toI, cutL_fromI, cutL_midI, cutL_all, oLen, seqOf, oInt, oAbs, oMax2, oMin2, oTuple, oList, vIsN_non, vIsN_str, vIsN_int, vIsN_tup, vIsN_lst, dBm, tStr, tTup, tLst, dCat, lstOf, dListO, dLstO, dBmW, dTupRev, h1, h2]
  · refine ⟨[], ?_⟩
    rw [if_neg (fun z => h1 z.1)]
    unfold M_moved_card D_moved_card
    simp [dSeq_ev, seqR_nx, seqR_rt, seqR_ct, seqR_bk, seqR_ex, seqR_ite, runF_ev, resR_nx, resR_rt, resR_ex, resR_ite, startE, wp_nxK, wp_rtK, wp_ctK, wp_bkK, wp_exK, wp_nxP, wp_rtP, wp_ite, R.bind_ok, R.bind_exn, sb_ok, sb_exn, opt_some, opt_ite, bind_ite, sb_ite, dC, dVar, dPk, Fv.toVl, dBin, dUn, dTest, vTru, dTB_ev, tbK_bl, dAnd, dOr, dNot, dBV, dIf, dChain_ev, chK_bl, daNil, daCons, dTup, dLst, dIx, doNone, doSome, dSl, dFn, diVal, diRng, dCall, dRet, dRetN, dExpr, dIfS_ev, dAsg, gSet, gUn, gsNil, gsCons, itemsOf, dNext, dBreak, dCont, dRaise, dxC, dxE, dTold_ev, toldR_ok, toldR_exn, toldR_ite, dMeth, dFld, List.lookup, dSetF, putN, dPar, dPar3, vNeg, vSub_int, vAdd_int, vEq_int, vNe_int, vLt_int, vGt_int, vLe_int, vGe_int, vIx_lst, vIx_tup, atI_int, vSl_tup, vSl_lst, cutL_toI, cutL_fromI, cutL_midI, cutL_all, oLen, seqOf, oInt, oAbs, oMax2, oMin2, oTuple, oList, vIsN_non, vIsN_str, vIsN_int, vIsN_tup, vIsN_lst, dBm, tStr, tTup, tLst, dCat, lstOf, dListO, dLstO, dBmW, dTupRev, h1]
end CardH
end
section
set_option maxHeartbeats 4000000
namespace CardH
open PySem PySem.Spec PyProof.Rows L2
theorem cases1 (G : Gst) : M__law_cases1 [] G = .ok (.bl true) (G ++ [.lst []]) := by
  kernel_rfl
theorem rev_range (rows : List Str) : (List.range rows.length).map (fun k => Vl.str (rows.getD (rows.length - 1 - k) "")) = rows.reverse.map .str := by
  refine List.ext_getElem (by simp) fun i h1 h2 => ?_
  simp at h1
  have : rows.length - 1 - i < rows.length := by omega
  simp [this]
theorem in_cs : ∀ y ∈ suitL, vInV (.str (sg y)) (.str "cs") = some (.bl (!redB y)) := by
  refine suit_ind ⟨?_, ?_, ?_, ?_⟩ <;> kernel_rfl
theorem rest1 (d : D3) (r : Nat) (cards rows : List Str) (T : Gst) (h1 : 1 ≤ r) (h2 : r ≤ 13) (hc : ∀ c ∈ cards, isCd c) (hcl : cards.length ≤ 100) (hr : ∀ c ∈ rows, isCd c) (hn : rows.Nodup) (hl : rows.length ≤ 100) :
    ∃ G', M__law_rest1 [.ref 0, .int r, .lst ((deckR r).map .str), .lst (cards.map .str), .lst (rows.map .str), .ref 1] (dO d :: packO rows :: T) = .ok (.bl true) G' := by
  have hdl := (deckR_nodup r h2).2
  refine runF_true ?_
  simp only [startE, List.map_cons, List.map_nil, List.length_cons, List.length_nil, List.cons_append, List.nil_append, Nat.reduceAdd, Nat.reduceSub, List.replicate]
  unfold D__law_rest1
  refine wp_chk (G1 := dO d :: packO rows :: T) ?_ ?_
  · have hm := pack_missing (dO d :: packO rows :: T) 1 rows r h1 h2 rfl
    simp [seqR_nx, seqR_rt, seqR_ct, seqR_bk, seqR_ex, seqR_ite, runF_ev, resR_nx, resR_rt, resR_ex, resR_ite, startE, wp_nxK, wp_rtK, wp_ctK, wp_bkK, wp_exK, wp_nxP, wp_rtP, wp_ite, R.bind_ok, R.bind_exn, sb_ok, sb_exn, opt_some, opt_ite, bind_ite, sb_ite, dC, dVar, dPk, Fv.toVl, dBin, dUn, dTest, vTru, dTB_ev, tbK_bl, dAnd, dOr, dNot, dBV, dIf, dChain_ev, chK_bl, daNil, daCons, dTup, dLst, dIx, doNone, doSome, dSl, dFn, diVal, diRng, dCall, dRet, dRetN, dExpr, dIfS_ev, dAsg, gSet, gUn, gsNil, gsCons, itemsOf, dNext, dBreak, dCont, dRaise, dxC, dxE, dTold_ev, toldR_ok, toldR_exn, toldR_ite, dMeth, dFld, List.lookup, dSetF, putN, dPar, dPar3, vNeg, vSub_int, vAdd_int, vEq_int, vNe_int, vLt_int, vGt_int, vLe_int, vGe_int, vIx_lst, vIx_tup, atI_int, vSl_tup, vSl_lst, cutL_toI, cutL_fromI, cutL_midI, cutL_all, oLen, seqOf, oInt, oAbs, oMax2, oMin2, oTuple, oList, vIsN_non, vIsN_str, vIsN_int, vIsN_tup, vIsN_lst, dBm, tStr, tTup, tLst, dCat, lstOf, dListO, dLstO, dBmW, dTupRev, hm]
    generalize hX : C1__law_rest1 _ _ = X
    unfold C1__law_rest1 at hX
    rw [dLc_tm (deckR r) Vl.str (fun c => !rows.contains c) Vl.str (G1 := dO d :: packO rows :: T)] at hX
    · subst hX
      simp only [R.bind_ok]
      rw [vNe_ok (by simp only [gd_lst]; exact gds_str) (by simp)]
      rfl
    · simp [seqR_nx, seqR_rt, seqR_ct, seqR_bk, seqR_ex, seqR_ite, runF_ev, resR_nx, resR_rt, resR_ex, resR_ite, startE, wp_nxK, wp_rtK, wp_ctK, wp_bkK, wp_exK, wp_nxP, wp_rtP, wp_ite, R.bind_ok, R.bind_exn, sb_ok, sb_exn, opt_some, opt_ite, bind_ite, sb_ite, dC, dVar, dPk, Fv.toVl, dBin, dUn, dTest, vTru, dTB_ev, tbK_bl, dAnd, dOr, dNot, dBV, dIf, dChain_ev, chK_bl, daNil, daCons, dTup, dLst, dIx, doNone, doSome, dSl, dFn, diVal, diRng, dCall, dRet, dRetN, dExpr, dIfS_ev, dAsg, gSet, gUn, gsNil, gsCons, itemsOf, dNext, dBreak, dCont, dRaise, dxC, dxE, dTold_ev, toldR_ok, toldR_exn, toldR_ite, dMeth, dFld, List.lookup, dSetF, putN, dPar, dPar3, vNeg, vSub_int, vAdd_int, vEq_int, vNe_int, vLt_int, vGt_int, vLe_int, vGe_int, vIx_lst, vIx_tup, atI_int, vSl_tup, vSl_lst, cutL_toI, cutL_fromI, cutL_midI, cutL_all, oLen, seqOf, oInt, oAbs, oMax2, oMin2, oTuple, oList, vIsN_non, vIsN_str, vIsN_int, vIsN_tup, vIsN_lst, dBm, tStr, tTup, tLst, dCat, lstOf, dListO, dLstO, dBmW, dTupRev, walkOf]
    · intro c hc
      refine ⟨_, rfl, ?_, fun _ => ?_⟩
      · simp [seqR_nx, seqR_rt, seqR_ct, seqR_bk, seqR_ex, seqR_ite, runF_ev, resR_nx, resR_rt, resR_ex, resR_ite, startE, wp_nxK, wp_rtK, wp_ctK, wp_bkK, wp_exK, wp_nxP, wp_rtP, wp_ite, R.bind_ok, R.bind_exn, sb_ok, sb_exn, opt_some, opt_ite, bind_ite, sb_ite, dC, dVar, dPk, Fv.toVl, dBin, dUn, dTest, vTru, dTB_ev, tbK_bl, dAnd, dOr, dNot, dBV, dIf, dChain_ev, chK_bl, daNil, daCons, dTup, dLst, dIx, doNone, doSome, dSl, dFn, diVal, diRng, dCall, dRet, dRetN, dExpr, dIfS_ev, dAsg, gSet, gUn, gsNil, gsCons, itemsOf, dNext, dBreak, dCont, dRaise, dxC, dxE, dTold_ev, toldR_ok, toldR_exn, toldR_ite, dMeth, dFld, List.lookup, dSetF, putN, dPar, dPar3, vNeg, vSub_int, vAdd_int, vEq_int, vNe_int, vLt_int, vGt_int, vLe_int, vGe_int, vIx_lst, vIx_tup, atI_int, vSl_tup, vSl_lst, cutL_toI, cutL_fromI, cutL_midI, cutL_all, oLen, seqOf, oInt, oAbs, oMax2, oMin2, oTuple, oList, vIsN_non, vIsN_str, vIsN_int, vIsN_tup, vIsN_lst, dBm, tStr, tTup, tLst, dCat, lstOf, dListO, dLstO, dBmW, dTupRev, wipeE, vNotIn_strsL]
      · simp [seqR_nx, seqR_rt, seqR_ct, seqR_bk, seqR_ex, seqR_ite, runF_ev, resR_nx, resR_rt, resR_ex, resR_ite, startE, wp_nxK, wp_rtK, wp_ctK, wp_bkK, wp_exK, wp_nxP, wp_rtP, wp_ite, R.bind_ok, R.bind_exn, sb_ok, sb_exn, opt_some, opt_ite, bind_ite, sb_ite, dC, dVar, dPk, Fv.toVl, dBin, dUn, dTest, vTru, dTB_ev, tbK_bl, dAnd, dOr, dNot, dBV, dIf, dChain_ev, chK_bl, daNil, daCons, dTup, dLst, dIx, doNone, doSome, dSl, dFn, diVal, diRng, dCall, dRet, dRetN, dExpr, dIfS_ev, dAsg, gSet, gUn, gsNil, gsCons, itemsOf, dNext, dBreak, dCont, dRaise, dxC, dxE, dTold_ev, toldR_ok, toldR_exn, toldR_ite, dMeth, dFld, List.lookup, dSetF, putN, dPar, dPar3, vNeg, vSub_int, vAdd_int, vEq_int, vNe_int, vLt_int, vGt_int, vLe_int, vGe_int, vIx_lst, vIx_tup, atI_int, vSl_tup, vSl_lst, cutL_toI, cutL_fromI, cutL_midI, cutL_all, oLen, seqOf, oInt, oAbs, oMax2, oMin2, oTuple, oList, vIsN_non, vIsN_str, vIsN_int, vIsN_tup, vIsN_lst, dBm, tStr, tTup, tLst, dCat, lstOf, dListO, dLstO, dBmW, dTupRev, wipeE]
    · omega
  unfold T1_1__law_rest1
  refine wp_chk (G1 := dO d :: packO rows :: (T ++ [packO rows.reverse])) ?_ ?_
  · have ht := pack_turned (dO d :: packO rows :: T) 1 rows rfl hr hn (by omega)
    simp only [List.cons_append, List.length_cons] at ht
    have hg : (dO d :: packO rows :: (T ++ [packO rows.reverse]))[T.length + 1 + 1]? = some (packO rows.reverse) := by simp
    simp [seqR_nx, seqR_rt, seqR_ct, seqR_bk, seqR_ex, seqR_ite, runF_ev, resR_nx, resR_rt, resR_ex, resR_ite, startE, wp_nxK, wp_rtK, wp_ctK, wp_bkK, wp_exK, wp_nxP, wp_rtP, wp_ite, R.bind_ok, R.bind_exn, sb_ok, sb_exn, opt_some, opt_ite, bind_ite, sb_ite, dC, dVar, dPk, Fv.toVl, dBin, dUn, dTest, vTru, dTB_ev, tbK_bl, dAnd, dOr, dNot, dBV, dIf, dChain_ev, chK_bl, daNil, daCons, dTup, dLst, dIx, doNone, doSome, dSl, dFn, diVal, diRng, dCall, dRet, dRetN, dExpr, dIfS_ev, dAsg, gSet, gUn, gsNil, gsCons, itemsOf, dNext, dBreak, dCont, dRaise, dxC, dxE, dTold_ev, toldR_ok, toldR_exn, toldR_ite, dMeth, dFld, List.lookup, dSetF, putN, dPar, dPar3, vNeg, vSub_int, vAdd_int, vEq_int, vNe_int, vLt_int, vGt_int, vLe_int, vGe_int, vIx_lst, vIx_tup, atI_int, vSl_tup, vSl_lst, cutL_toI, cutL_fromI, cutL_midI, cutL_all, oLen, seqOf, oInt, oAbs, oMax2, oMin2, oTuple, oList, vIsN_non, vIsN_str, vIsN_int, vIsN_tup, vIsN_lst, dBm, tStr, tTup, tLst, dCat, lstOf, dListO, dLstO, dBmW, dTupRev, ht, hg, packO]
    generalize hX : C2__law_rest1 _ _ = X
    unfold C2__law_rest1 at hX
    rw [dLc_map (List.range rows.length) (fun k : Nat => .int (0 + (k : Nat))) (fun k => .str (rows.getD (rows.length - 1 - k) "")) (G1 := dO d :: packO rows :: (T ++ [packO rows.reverse]))] at hX
    · subst hX
      rw [rev_range]
      simp only [R.bind_ok]
      rw [vNe_ok (by simp only [gd_lst]; rw [← List.map_reverse]; exact gds_str) (by simp)]
      simp [opt, tbK, packO]
    · simp [seqR_nx, seqR_rt, seqR_ct, seqR_bk, seqR_ex, seqR_ite, runF_ev, resR_nx, resR_rt, resR_ex, resR_ite, startE, wp_nxK, wp_rtK, wp_ctK, wp_bkK, wp_exK, wp_nxP, wp_rtP, wp_ite, R.bind_ok, R.bind_exn, sb_ok, sb_exn, opt_some, opt_ite, bind_ite, sb_ite, dC, dVar, dPk, Fv.toVl, dBin, dUn, dTest, vTru, dTB_ev, tbK_bl, dAnd, dOr, dNot, dBV, dIf, dChain_ev, chK_bl, daNil, daCons, dTup, dLst, dIx, doNone, doSome, dSl, dFn, diVal, diRng, dCall, dRet, dRetN, dExpr, dIfS_ev, dAsg, gSet, gUn, gsNil, gsCons, itemsOf, dNext, dBreak, dCont, dRaise, dxC, dxE, dTold_ev, toldR_ok, toldR_exn, toldR_ite, dMeth, dFld, List.lookup, dSetF, putN, dPar, dPar3, vNeg, vSub_int, vAdd_int, vEq_int, vNe_int, vLt_int, vGt_int, vLe_int, vGe_int, vIx_lst, vIx_tup, atI_int, vSl_tup, vSl_lst, cutL_toI, cutL_fromI, cutL_midI, cutL_all, oLen, seqOf, oInt, oAbs, oMax2, oMin2, oTuple, oList, vIsN_non, vIsN_str, vIsN_int, vIsN_tup, vIsN_lst, dBm, tStr, tTup, tLst, dCat, lstOf, dListO, dLstO, dBmW, dTupRev, rng1_nat _ (show rows.length < 4611686018427387904 by omega), rgL]
    · intro k hk
      rw [List.mem_range] at hk
      have hg := at_strs (cards := rows) (j := rows.length - 1 - k) (by omega)
      generalize rows.getD (rows.length - 1 - k) "" = c at hg ⊢
      refine ⟨_, rfl, ?_⟩
      have hat : atI (rows.map Vl.str) ((rows.length : Int) - 1 - (k : Int)) = some (.str c) := by
        rw [show (rows.length : Int) - 1 - (k : Int) = ((rows.length - 1 - k : Nat) : Int) by omega, atI_nat, hg]
      clear hk hg
      simp [seqR_nx, seqR_rt, seqR_ct, seqR_bk, seqR_ex, seqR_ite, runF_ev, resR_nx, resR_rt, resR_ex, resR_ite, startE, wp_nxK, wp_rtK, wp_ctK, wp_bkK, wp_exK, wp_nxP, wp_rtP, wp_ite, R.bind_ok, R.bind_exn, sb_ok, sb_exn, opt_some, opt_ite, bind_ite, sb_ite, dC, dVar, dPk, Fv.toVl, dBin, dUn, dTest, vTru, dTB_ev, tbK_bl, dAnd, dOr, dNot, dBV, dIf, dChain_ev, chK_bl, daNil, daCons, dTup, dLst, dIx, doNone, doSome, dSl, dFn, diVal, diRng, dCall, dRet, dRetN, dExpr, dIfS_ev, dAsg, gSet, gUn, gsNil, gsCons, itemsOf, dNext, dBreak, dCont, dRaise, dxC, dxE, dTold_ev, toldR_ok, toldR_exn, toldR_ite, dMeth, dFld, List.lookup, dSetF, putN, dPar, dPar3, vNeg, vSub_int, vAdd_int, vEq_int, vNe_int, vLt_int, vGt_int, vLe_int, vGe_int, vIx_lst, vIx_tup, atI_int, vSl_tup, vSl_lst, cutL_toI, cutL_fromI, cutL_midI, cutL_all, oLen, seqOf, oInt, oAbs, oMax2, oMin2, oTuple, oList, vIsN_non, vIsN_str, vIsN_int, vIsN_tup, vIsN_lst, dBm, tStr, tTup, tLst, dCat, lstOf, dListO, dLstO, dBmW, dTupRev, wipeE, hat, -atI_int]
    · simp; omega
  generalize T ++ [packO rows.reverse] = T
  unfold T1_2__law_rest1
  refine wp_seq ?_
  have hn6 := rv_lt (m := 6) d (by decide)
  have hd2 : vFdiv (.int cards.length) (.int 2) = some (.int ((cards.length / 2 : Nat) : Int)) := by rw [vFdiv_int _ _ (by decide) (by decide)]; simp
  simp [seqR_nx, seqR_rt, seqR_ct, seqR_bk, seqR_ex, seqR_ite, runF_ev, resR_nx, resR_rt, resR_ex, resR_ite, startE, wp_nxK, wp_rtK, wp_ctK, wp_bkK, wp_exK, wp_nxP, wp_rtP, wp_ite, R.bind_ok, R.bind_exn, sb_ok, sb_exn, opt_some, opt_ite, bind_ite, sb_ite, dC, dVar, dPk, Fv.toVl, dBin, dUn, dTest, vTru, dTB_ev, tbK_bl, dAnd, dOr, dNot, dBV, dIf, dChain_ev, chK_bl, daNil, daCons, dTup, dLst, dIx, doNone, doSome, dSl, dFn, diVal, diRng, dCall, dRet, dRetN, dExpr, dIfS_ev, dAsg, gSet, gUn, gsNil, gsCons, itemsOf, dNext, dBreak, dCont, dRaise, dxC, dxE, dTold_ev, toldR_ok, toldR_exn, toldR_ite, dMeth, dFld, List.lookup, dSetF, putN, dPar, dPar3, vNeg, vSub_int, vAdd_int, vEq_int, vNe_int, vLt_int, vGt_int, vLe_int, vGe_int, vIx_lst, vIx_tup, atI_int, vSl_tup, vSl_lst, cutL_toI, cutL_fromI, cutL_midI, cutL_all, oLen, seqOf, oInt, oAbs, oMax2, oMin2, oTuple, oList, vIsN_non, vIsN_str, vIsN_int, vIsN_tup, vIsN_lst, dBm, tStr, tTup, tLst, dCat, lstOf, dListO, dLstO, dBmW, dTupRev, hd2]
  generalize hX : C3__law_rest1 _ _ = X
  unfold C3__law_rest1 at hX
  obtain ⟨ks, d4, e1, e2, rfl⟩ := dLc_rolls hX (packO rows :: T) 4 (by decide) (fun k => .int (k : Nat)) (rgL 0 (rv 6 d)) (rd 6 d) (by simp [seqR_nx, seqR_rt, seqR_ct, seqR_bk, seqR_ex, seqR_ite, runF_ev, resR_nx, resR_rt, resR_ex, resR_ite, startE, wp_nxK, wp_rtK, wp_ctK, wp_bkK, wp_exK, wp_nxP, wp_rtP, wp_ite, R.bind_ok, R.bind_exn, sb_ok, sb_exn, opt_some, opt_ite, bind_ite, sb_ite, dC, dVar, dPk, Fv.toVl, dBin, dUn, dTest, vTru, dTB_ev, tbK_bl, dAnd, dOr, dNot, dBV, dIf, dChain_ev, chK_bl, daNil, daCons, dTup, dLst, dIx, doNone, doSome, dSl, dFn, diVal, diRng, dCall, dRet, dRetN, dExpr, dIfS_ev, dAsg, gSet, gUn, gsNil, gsCons, itemsOf, dNext, dBreak, dCont, dRaise, dxC, dxE, dTold_ev, toldR_ok, toldR_exn, toldR_ite, dMeth, dFld, List.lookup, dSetF, putN, dPar, dPar3, vNeg, vSub_int, vAdd_int, vEq_int, vNe_int, vLt_int, vGt_int, vLe_int, vGe_int, vIx_lst, vIx_tup, atI_int, vSl_tup, vSl_lst, cutL_toI, cutL_fromI, cutL_midI, cutL_all, oLen, seqOf, oInt, oAbs, oMax2, oMin2, oTuple, oList, vIsN_non, vIsN_str, vIsN_int, vIsN_tup, vIsN_lst, dBm, tStr, tTup, tLst, dCat, lstOf, dListO, dLstO, dBmW, dTupRev, roll0, rng1_nat (rv 6 d) (by omega)])
    (fun a ha => ⟨_, rfl, fun d => by simp [seqR_nx, seqR_rt, seqR_ct, seqR_bk, seqR_ex, seqR_ite, runF_ev, resR_nx, resR_rt, resR_ex, resR_ite, startE, wp_nxK, wp_rtK, wp_ctK, wp_bkK, wp_exK, wp_nxP, wp_rtP, wp_ite, R.bind_ok, R.bind_exn, sb_ok, sb_exn, opt_some, opt_ite, bind_ite, sb_ite, dC, dVar, dPk, Fv.toVl, dBin, dUn, dTest, vTru, dTB_ev, tbK_bl, dAnd, dOr, dNot, dBV, dIf, dChain_ev, chK_bl, daNil, daCons, dTup, dLst, dIx, doNone, doSome, dSl, dFn, diVal, diRng, dCall, dRet, dRetN, dExpr, dIfS_ev, dAsg, gSet, gUn, gsNil, gsCons, itemsOf, dNext, dBreak, dCont, dRaise, dxC, dxE, dTold_ev, toldR_ok, toldR_exn, toldR_ite, dMeth, dFld, List.lookup, dSetF, putN, dPar, dPar3, vNeg, vSub_int, vAdd_int, vEq_int, vNe_int, vLt_int, vGt_int, vLe_int, vGe_int, vIx_lst, vIx_tup, atI_int, vSl_tup, vSl_lst, cutL_toI, cutL_fromI, cutL_midI, cutL_all, oLen, seqOf, oInt, oAbs, oMax2, oMin2, oTuple, oList, vIsN_non, vIsN_str, vIsN_int, vIsN_tup, vIsN_lst, dBm, tStr, tTup, tLst, dCat, lstOf, dListO, dLstO, dBmW, dTupRev, wipeE, roll0]⟩) (by simp [rgL]; omega)
  clear hX
  simp [rgL] at e1
  simp [seqR_nx, seqR_rt, seqR_ct, seqR_bk, seqR_ex, seqR_ite, runF_ev, resR_nx, resR_rt, resR_ex, resR_ite, startE, wp_nxK, wp_rtK, wp_ctK, wp_bkK, wp_exK, wp_nxP, wp_rtP, wp_ite, R.bind_ok, R.bind_exn, sb_ok, sb_exn, opt_some, opt_ite, bind_ite, sb_ite, dC, dVar, dPk, Fv.toVl, dBin, dUn, dTest, vTru, dTB_ev, tbK_bl, dAnd, dOr, dNot, dBV, dIf, dChain_ev, chK_bl, daNil, daCons, dTup, dLst, dIx, doNone, doSome, dSl, dFn, diVal, diRng, dCall, dRet, dRetN, dExpr, dIfS_ev, dAsg, gSet, gUn, gsNil, gsCons, itemsOf, dNext, dBreak, dCont, dRaise, dxC, dxE, dTold_ev, toldR_ok, toldR_exn, toldR_ite, dMeth, dFld, List.lookup, dSetF, putN, dPar, dPar3, vNeg, vSub_int, vAdd_int, vEq_int, vNe_int, vLt_int, vGt_int, vLe_int, vGe_int, vIx_lst, vIx_tup, atI_int, vSl_tup, vSl_lst, cutL_toI, cutL_fromI, cutL_midI, cutL_all, oLen, seqOf, oInt, oAbs, oMax2, oMin2, oTuple, oList, vIsN_non, vIsN_str, vIsN_int, vIsN_tup, vIsN_lst, dBm, tStr, tTup, tLst, dCat, lstOf, dListO, dLstO, dBmW, dTupRev]
  obtain ⟨half, hhalf⟩ : ∃ h, h = cards.length / 2 := ⟨_, rfl⟩
  have hh : ((cards.length : Int) / 2) = (half : Nat) := by omega
  rw [hh]
  unfold T1_3__law_rest1
  refine wp_seq ?_
  simp (disch := first | assumption | (simp [gd_str, gd_int, gd_bl, gd_non, gd_tup, gd_lst, gds_nil, gds_cons, gds_append, gds_str, gds_int, gds_take, gds_drop, gds_ints]; done) | (simp only [List.length_append, List.length_take, List.length_drop, List.length_map, List.length_cons, List.length_nil, List.length_range] <;> omega) | omega) [seqR_nx, seqR_rt, seqR_ct, seqR_bk, seqR_ex, seqR_ite, runF_ev, resR_nx, resR_rt, resR_ex, resR_ite, startE, wp_nxK, wp_rtK, wp_ctK, wp_bkK, wp_exK, wp_nxP, wp_rtP, wp_ite, R.bind_ok, R.bind_exn, sb_ok, sb_exn, opt_some, opt_ite, bind_ite, sb_ite, dC, dVar, dPk, Fv.toVl, dBin, dUn, dTest, vTru, dTB_ev, tbK_bl, dAnd, dOr, dNot, dBV, dIf, dChain_ev, chK_bl, daNil, daCons, dTup, dLst, dIx, doNone, doSome, dSl, dFn, diVal, diRng, dCall, dRet, dRetN, dExpr, dIfS_ev, dAsg, gSet, gUn, gsNil, gsCons, itemsOf, dNext, dBreak, dCont, dRaise, dxC, dxE, dTold_ev, toldR_ok, toldR_exn, toldR_ite, dMeth, dFld, List.lookup, dSetF, putN, dPar, dPar3, vNeg, vSub_int, vAdd_int, vEq_int, vNe_int, vLt_int, vGt_int, vLe_int, vGe_int, vIx_lst, vIx_tup, atI_int, vSl_tup, vSl_lst, cutL_toI, cutL_fromI, cutL_midI, cutL_all, oLen, seqOf, oInt, oAbs, oMax2, oMin2, oTuple, oList, vIsN_non, vIsN_str, vIsN_int, vIsN_tup, vIsN_lst, dBm, tStr, tTup, tLst, dCat, lstOf, dListO, dLstO, dBmW, dTupRev]
  unfold T1_4__law_rest1
  refine wp_seq ?_
  have hkl := rng1_nat ks.length (by omega)
  simp [seqR_nx, seqR_rt, seqR_ct, seqR_bk, seqR_ex, seqR_ite, runF_ev, resR_nx, resR_rt, resR_ex, resR_ite, startE, wp_nxK, wp_rtK, wp_ctK, wp_bkK, wp_exK, wp_nxP, wp_rtP, wp_ite, R.bind_ok, R.bind_exn, sb_ok, sb_exn, opt_some, opt_ite, bind_ite, sb_ite, dC, dVar, dPk, Fv.toVl, dBin, dUn, dTest, vTru, dTB_ev, tbK_bl, dAnd, dOr, dNot, dBV, dIf, dChain_ev, chK_bl, daNil, daCons, dTup, dLst, dIx, doNone, doSome, dSl, dFn, diVal, diRng, dCall, dRet, dRetN, dExpr, dIfS_ev, dAsg, gSet, gUn, gsNil, gsCons, itemsOf, dNext, dBreak, dCont, dRaise, dxC, dxE, dTold_ev, toldR_ok, toldR_exn, toldR_ite, dMeth, dFld, List.lookup, dSetF, putN, dPar, dPar3, vNeg, vSub_int, vAdd_int, vEq_int, vNe_int, vLt_int, vGt_int, vLe_int, vGe_int, vIx_lst, vIx_tup, atI_int, vSl_tup, vSl_lst, cutL_toI, cutL_fromI, cutL_midI, cutL_all, oLen, seqOf, oInt, oAbs, oMax2, oMin2, oTuple, oList, vIsN_non, vIsN_str, vIsN_int, vIsN_tup, vIsN_lst, dBm, tStr, tTup, tLst, dCat, lstOf, dListO, dLstO, dBmW, dTupRev, dFor, hkl]
  obtain ⟨I, hI⟩ : ∃ I : Nat → LEnv → Gst → Prop, ∀ k e G, I k e G ↔ ∃ (z6 : Option Fv), e = [some (.val (.ref 0)), some (.val (.int r)), some (.val (.lst ((deckR r).map .str))), some (.val (.lst (cards.map .str))), some (.val (.lst (rows.map .str))), some (.val (.ref 1)), z6, none, none, none, some (.val (.int half)), some (.val (.lst (ks.map fun k : Nat => .int k))),
      some (.val (.lst ((riffS (ks.take k) 0 (cards.take half) (cards.drop half) []).2.2.map .str))), some (.val (.lst ((riffS (ks.take k) 0 (cards.take half) (cards.drop half) []).1.map .str))), some (.val (.lst ((riffS (ks.take k) 0 (cards.take half) (cards.drop half) []).2.1.map .str))), none, none, none, none] ∧ G = dO d4 :: packO rows :: T := ⟨_, fun _ _ _ => Iff.rfl⟩
  refine wp_forN I ((hI _ _ _).mpr ⟨none, by simp [riffS], rfl⟩) ?_ ?_
  · intro k x hx e G hIk
    obtain ⟨z6, rfl, rfl⟩ := (hI _ _ _).mp hIk
    have hk : k < ks.length := by
      have := (List.getElem?_eq_some_iff.mp hx).1
      rwa [rgL_length] at this
    have hx' : x = .int (k : Nat) := by
      have : (rgL 0 ks.length)[k]? = some (.int (k : Nat)) := by simp [rgL, hk]
      rw [this] at hx
      exact (Option.some.inj hx).symm
    subst hx'
    have hs : riffS (ks.take (k + 1)) 0 (cards.take half) (cards.drop half) [] = riffS [ks[k]] k (riffS (ks.take k) 0 (cards.take half) (cards.drop half) []).1 (riffS (ks.take k) 0 (cards.take half) (cards.drop half) []).2.1 (riffS (ks.take k) 0 (cards.take half) (cards.drop half) []).2.2 := by
      rw [List.take_succ_eq_append_getElem hk, riffS_snoc]
      simp [Nat.min_eq_left (Nat.le_of_lt hk)]
    have hI' := hI (k + 1)
    rw [hs] at hI'
    have hlen := riffS_len (ks.take k) 0 (cards.take half) (cards.drop half) []
    simp at hlen
    have hz : (riffS (ks.take k) 0 (cards.take half) (cards.drop half) []).1.length ≤ 100 ∧ (riffS (ks.take k) 0 (cards.take half) (cards.drop half) []).2.1.length ≤ 100 ∧ (riffS (ks.take k) 0 (cards.take half) (cards.drop half) []).2.2.length ≤ 100 := by omega
    have hgk : (ks.map fun k : Nat => Vl.int k)[k]? = some (.int (ks[k] : Nat)) := by simp [hk]
    generalize riffS (ks.take k) 0 (cards.take half) (cards.drop half) [] = q at hI' hz ⊢
    obtain ⟨l', r', f'⟩ := q
    obtain ⟨hz1, hz2, hz3⟩ := hz
    dsimp only at hz1 hz2 hz3
    generalize ks[k] = m at hI' hgk
    have hmod : vMod (.int k) (.int 2) = some (.int ((k % 2 : Nat) : Int)) := by rw [vMod_int _ _ (by decide)]; simp
    clear hk hx hIk hs
    unfold T4_0__law_rest1
    by_cases hk2 : k % 2 = 0
    · have hk2' : (k : Int) % 2 = 0 := by omega
      refine wp_ifT (G1 := dO d4 :: packO rows :: T) (by simp [seqR_nx, seqR_rt, seqR_ct, seqR_bk, seqR_ex, seqR_ite, runF_ev, resR_nx, resR_rt, resR_ex, resR_ite, startE, wp_nxK, wp_rtK, wp_ctK, wp_bkK, wp_exK, wp_nxP, wp_rtP, wp_ite, R.bind_ok, R.bind_exn, sb_ok, sb_exn, opt_some, opt_ite, bind_ite, sb_ite, dC, dVar, dPk, Fv.toVl, dBin, dUn, dTest, vTru, dTB_ev, tbK_bl, dAnd, dOr, dNot, dBV, dIf, dChain_ev, chK_bl, daNil, daCons, dTup, dLst, dIx, doNone, doSome, dSl, dFn, diVal, diRng, dCall, dRet, dRetN, dExpr, dIfS_ev, dAsg, gSet, gUn, gsNil, gsCons, itemsOf, dNext, dBreak, dCont, dRaise, dxC, dxE, dTold_ev, toldR_ok, toldR_exn, toldR_ite, dMeth, dFld, List.lookup, dSetF, putN, dPar, dPar3, vNeg, vSub_int, vAdd_int, vEq_int, vNe_int, vLt_int, vGt_int, vLe_int, vGe_int, vIx_lst, vIx_tup, atI_int, vSl_tup, vSl_lst, cutL_toI, cutL_fromI, cutL_midI, cutL_all, oLen, seqOf, oInt, oAbs, oMax2, oMin2, oTuple, oList, vIsN_non, vIsN_str, vIsN_int, vIsN_tup, vIsN_lst, dBm, tStr, tTup, tLst, dCat, lstOf, dListO, dLstO, dBmW, dTupRev, hmod, hk2, hk2']) ?_
      rw [riffS_even hk2] at hI'
      simp (disch := first | assumption | (simp [gd_str, gd_int, gd_bl, gd_non, gd_tup, gd_lst, gds_nil, gds_cons, gds_append, gds_str, gds_int, gds_take, gds_drop, gds_ints]; done) | (simp only [List.length_append, List.length_take, List.length_drop, List.length_map, List.length_cons, List.length_nil, List.length_range] <;> omega) | omega) [seqR_nx, seqR_rt, seqR_ct, seqR_bk, seqR_ex, seqR_ite, runF_ev, resR_nx, resR_rt, resR_ex, resR_ite, startE, wp_nxK, wp_rtK, wp_ctK, wp_bkK, wp_exK, wp_nxP, wp_rtP, wp_ite, R.bind_ok, R.bind_exn, sb_ok, sb_exn, opt_some, opt_ite, bind_ite, sb_ite, dC, dVar, dPk, Fv.toVl, dBin, dUn, dTest, vTru, dTB_ev, tbK_bl, dAnd, dOr, dNot, dBV, dIf, dChain_ev, chK_bl, daNil, daCons, dTup, dLst, dIx, doNone, doSome, dSl, dFn, diVal, diRng, dCall, dRet, dRetN, dExpr, dIfS_ev, dAsg, gSet, gUn, gsNil, gsCons, itemsOf, dNext, dBreak, dCont, dRaise, dxC, dxE, dTold_ev, toldR_ok, toldR_exn, toldR_ite, dMeth, dFld, List.lookup, dSetF, putN, dPar, dPar3, vNeg, vSub_int, vAdd_int, vEq_int, vNe_int, vLt_int, vGt_int, vLe_int, vGe_int, vIx_lst, vIx_tup, atI_int, vSl_tup, vSl_lst, cutL_toI, cutL_fromI, cutL_midI, cutL_all, oLen, seqOf, oInt, oAbs, oMax2, oMin2, oTuple, oList, vIsN_non, vIsN_str, vIsN_int, vIsN_tup, vIsN_lst, dBm, tStr, tTup, tLst, dCat, lstOf, dListO, dLstO, dBmW, dTupRev, hgk, vAdd_lst, -List.getElem?_map]
      exact (hI' _ _).mpr ⟨_, by simp [riffS]; rfl, rfl⟩
    · have hk2' : ¬ (k : Int) % 2 = 0 := by omega
      refine wp_ifF (G1 := dO d4 :: packO rows :: T) (by simp [seqR_nx, seqR_rt, seqR_ct, seqR_bk, seqR_ex, seqR_ite, runF_ev, resR_nx, resR_rt, resR_ex, resR_ite, startE, wp_nxK, wp_rtK, wp_ctK, wp_bkK, wp_exK, wp_nxP, wp_rtP, wp_ite, R.bind_ok, R.bind_exn, sb_ok, sb_exn, opt_some, opt_ite, bind_ite, sb_ite, dC, dVar, dPk, Fv.toVl, dBin, dUn, dTest, vTru, dTB_ev, tbK_bl, dAnd, dOr, dNot, dBV, dIf, dChain_ev, chK_bl, daNil, daCons, dTup, dLst, dIx, doNone, doSome, dSl, dFn, diVal, diRng, dCall, dRet, dRetN, dExpr, dIfS_ev, dAsg, gSet, gUn, gsNil, gsCons, itemsOf, dNext, dBreak, dCont, dRaise, dxC, dxE, dTold_ev, toldR_ok, toldR_exn, toldR_ite, dMeth, dFld, List.lookup, dSetF, putN, dPar, dPar3, vNeg, vSub_int, vAdd_int, vEq_int, vNe_int, vLt_int, vGt_int, vLe_int, vGe_int, vIx_lst, vIx_tup, atI_int, vSl_tup, vSl_lst, cutL_toI, cutL_fromI, cutL_midI, cutL_all, oLen, seqOf, oInt, oAbs, oMax2, oMin2, oTuple, oList, vIsN_non, vIsN_str, vIsN_int, vIsN_tup, vIsN_lst, dBm, tStr, tTup, tLst, dCat, lstOf, dListO, dLstO, dBmW, dTupRev, hmod, hk2, hk2']) ?_
      rw [riffS_odd hk2] at hI'
      simp (disch := first | assumption | (simp [gd_str, gd_int, gd_bl, gd_non, gd_tup, gd_lst, gds_nil, gds_cons, gds_append, gds_str, gds_int, gds_take, gds_drop, gds_ints]; done) | (simp only [List.length_append, List.length_take, List.length_drop, List.length_map, List.length_cons, List.length_nil, List.length_range] <;> omega) | omega) [seqR_nx, seqR_rt, seqR_ct, seqR_bk, seqR_ex, seqR_ite, runF_ev, resR_nx, resR_rt, resR_ex, resR_ite, startE, wp_nxK, wp_rtK, wp_ctK, wp_bkK, wp_exK, wp_nxP, wp_rtP, wp_ite, R.bind_ok, R.bind_exn, sb_ok, sb_exn, opt_some, opt_ite, bind_ite, sb_ite, dC, dVar, dPk, Fv.toVl, dBin, dUn, dTest, vTru, dTB_ev, tbK_bl, dAnd, dOr, dNot, dBV, dIf, dChain_ev, chK_bl, daNil, daCons, dTup, dLst, dIx, doNone, doSome, dSl, dFn, diVal, diRng, dCall, dRet, dRetN, dExpr, dIfS_ev, dAsg, gSet, gUn, gsNil, gsCons, itemsOf, dNext, dBreak, dCont, dRaise, dxC, dxE, dTold_ev, toldR_ok, toldR_exn, toldR_ite, dMeth, dFld, List.lookup, dSetF, putN, dPar, dPar3, vNeg, vSub_int, vAdd_int, vEq_int, vNe_int, vLt_int, vGt_int, vLe_int, vGe_int, vIx_lst, vIx_tup, atI_int, vSl_tup, vSl_lst, cutL_toI, cutL_fromI, cutL_midI, cutL_all, oLen, seqOf, oInt, oAbs, oMax2, oMin2, oTuple, oList, vIsN_non, vIsN_str, vIsN_int, vIsN_tup, vIsN_lst, dBm, tStr, tTup, tLst, dCat, lstOf, dListO, dLstO, dBmW, dTupRev, hgk, vAdd_lst, -List.getElem?_map]
      exact (hI' _ _).mpr ⟨_, by simp [riffS]; rfl, rfl⟩
  intro e G hIk
  obtain ⟨z6, rfl, rfl⟩ := (hI _ _ _).mp hIk
  clear hIk hI I
  rw [rgL_length, List.take_length, wp_nxK]
  obtain ⟨g1, hrf⟩ := riffled (dO d4 :: packO rows :: T) (cards.take half) (cards.drop half) ks (by simp; omega)
  have hlen := riffS_len ks 0 (cards.take half) (cards.drop half) []
  generalize riffS ks 0 (cards.take half) (cards.drop half) [] = q at hrf hlen ⊢
  obtain ⟨l', r', f'⟩ := q
  simp at hlen
  simp only [List.cons_append, List.map_take, List.map_drop] at hrf
  unfold T1_5__law_rest1
  refine wp_chk (G1 := dO d4 :: packO rows :: (T ++ [g1])) ?_ ?_
  · simp (disch := first | assumption | (simp [gd_str, gd_int, gd_bl, gd_non, gd_tup, gd_lst, gds_nil, gds_cons, gds_append, gds_str, gds_int, gds_take, gds_drop, gds_ints]; done) | (simp only [List.length_append, List.length_take, List.length_drop, List.length_map, List.length_cons, List.length_nil, List.length_range] <;> omega) | omega) [seqR_nx, seqR_rt, seqR_ct, seqR_bk, seqR_ex, seqR_ite, runF_ev, resR_nx, resR_rt, resR_ex, resR_ite, startE, wp_nxK, wp_rtK, wp_ctK, wp_bkK, wp_exK, wp_nxP, wp_rtP, wp_ite, R.bind_ok, R.bind_exn, sb_ok, sb_exn, opt_some, opt_ite, bind_ite, sb_ite, dC, dVar, dPk, Fv.toVl, dBin, dUn, dTest, vTru, dTB_ev, tbK_bl, dAnd, dOr, dNot, dBV, dIf, dChain_ev, chK_bl, daNil, daCons, dTup, dLst, dIx, doNone, doSome, dSl, dFn, diVal, diRng, dCall, dRet, dRetN, dExpr, dIfS_ev, dAsg, gSet, gUn, gsNil, gsCons, itemsOf, dNext, dBreak, dCont, dRaise, dxC, dxE, dTold_ev, toldR_ok, toldR_exn, toldR_ite, dMeth, dFld, List.lookup, dSetF, putN, dPar, dPar3, vNeg, vSub_int, vAdd_int, vEq_int, vNe_int, vLt_int, vGt_int, vLe_int, vGe_int, vIx_lst, vIx_tup, atI_int, vSl_tup, vSl_lst, cutL_toI, cutL_fromI, cutL_midI, cutL_all, oLen, seqOf, oInt, oAbs, oMax2, oMin2, oTuple, oList, vIsN_non, vIsN_str, vIsN_int, vIsN_tup, vIsN_lst, dBm, tStr, tTup, tLst, dCat, lstOf, dListO, dLstO, dBmW, dTupRev, hrf, vAdd_lst]
    rw [vNe_ok (by simp [gd_str, gd_int, gd_bl, gd_non, gd_tup, gd_lst, gds_nil, gds_cons, gds_append, gds_str, gds_int, gds_take, gds_drop, gds_ints]) (by simp)]
    rfl
  generalize T ++ [g1] = T
  generalize some (Fv.val (Vl.lst (f'.map Vl.str))) = z12
  generalize some (Fv.val (Vl.lst (l'.map Vl.str))) = z13
  generalize some (Fv.val (Vl.lst (r'.map Vl.str))) = z14
  generalize some (Fv.val (Vl.lst (ks.map fun k : Nat => Vl.int k))) = z11
  unfold T1_6__law_rest1
  refine wp_seq ?_
  simp [seqR_nx, seqR_rt, seqR_ct, seqR_bk, seqR_ex, seqR_ite, runF_ev, resR_nx, resR_rt, resR_ex, resR_ite, startE, wp_nxK, wp_rtK, wp_ctK, wp_bkK, wp_exK, wp_nxP, wp_rtP, wp_ite, R.bind_ok, R.bind_exn, sb_ok, sb_exn, opt_some, opt_ite, bind_ite, sb_ite, dC, dVar, dPk, Fv.toVl, dBin, dUn, dTest, vTru, dTB_ev, tbK_bl, dAnd, dOr, dNot, dBV, dIf, dChain_ev, chK_bl, daNil, daCons, dTup, dLst, dIx, doNone, doSome, dSl, dFn, diVal, diRng, dCall, dRet, dRetN, dExpr, dIfS_ev, dAsg, gSet, gUn, gsNil, gsCons, itemsOf, dNext, dBreak, dCont, dRaise, dxC, dxE, dTold_ev, toldR_ok, toldR_exn, toldR_ite, dMeth, dFld, List.lookup, dSetF, putN, dPar, dPar3, vNeg, vSub_int, vAdd_int, vEq_int, vNe_int, vLt_int, vGt_int, vLe_int, vGe_int, vIx_lst, vIx_tup, atI_int, vSl_tup, vSl_lst, cutL_toI, cutL_fromI, cutL_midI, cutL_all, oLen, seqOf, oInt, oAbs, oMax2, oMin2, oTuple, oList, vIsN_non, vIsN_str, vIsN_int, vIsN_tup, vIsN_lst, dBm, tStr, tTup, tLst, dCat, lstOf, dListO, dLstO, dBmW, dTupRev]
  generalize hX : C4__law_rest1 _ _ = X
  unfold C4__law_rest1 at hX
  rw [dLc_tm (List.range (cards.length - 1)) (fun j : Nat => .int (1 + (j : Nat))) (fallsP cards) (fun j : Nat => .int (1 + (j : Nat))) (G1 := dO d4 :: packO rows :: T)] at hX
  rotate_left
  · have hr2 := rng2_int 1 (cards.length : Int) (by omega)
    have : ((cards.length : Int) - 1).toNat = cards.length - 1 := by omega
    rw [this] at hr2
    simp [seqR_nx, seqR_rt, seqR_ct, seqR_bk, seqR_ex, seqR_ite, runF_ev, resR_nx, resR_rt, resR_ex, resR_ite, startE, wp_nxK, wp_rtK, wp_ctK, wp_bkK, wp_exK, wp_nxP, wp_rtP, wp_ite, R.bind_ok, R.bind_exn, sb_ok, sb_exn, opt_some, opt_ite, bind_ite, sb_ite, dC, dVar, dPk, Fv.toVl, dBin, dUn, dTest, vTru, dTB_ev, tbK_bl, dAnd, dOr, dNot, dBV, dIf, dChain_ev, chK_bl, daNil, daCons, dTup, dLst, dIx, doNone, doSome, dSl, dFn, diVal, diRng, dCall, dRet, dRetN, dExpr, dIfS_ev, dAsg, gSet, gUn, gsNil, gsCons, itemsOf, dNext, dBreak, dCont, dRaise, dxC, dxE, dTold_ev, toldR_ok, toldR_exn, toldR_ite, dMeth, dFld, List.lookup, dSetF, putN, dPar, dPar3, vNeg, vSub_int, vAdd_int, vEq_int, vNe_int, vLt_int, vGt_int, vLe_int, vGe_int, vIx_lst, vIx_tup, atI_int, vSl_tup, vSl_lst, cutL_toI, cutL_fromI, cutL_midI, cutL_all, oLen, seqOf, oInt, oAbs, oMax2, oMin2, oTuple, oList, vIsN_non, vIsN_str, vIsN_int, vIsN_tup, vIsN_lst, dBm, tStr, tTup, tLst, dCat, lstOf, dListO, dLstO, dBmW, dTupRev, hr2, rgL]
  · intro j hj
    rw [List.mem_range] at hj
    have h1 : atI (cards.map Vl.str) (1 + (j : Int)) = some (.str (cards.getD (1 + j) "")) := by
      rw [show (1 : Int) + (j : Int) = ((1 + j : Nat) : Int) by omega, atI_nat, at_strs (by omega)]
    have h0 : atI (cards.map Vl.str) (1 + (j : Int) - 1) = some (.str (cards.getD j "")) := by
      rw [show (1 : Int) + (j : Int) - 1 = (j : Int) by omega, atI_nat, at_strs (by omega)]
    have k1 := fun G => law_key' G (hc _ (getD_mem (cards := cards) (j := 1 + j) (by omega)))
    have k0 := fun G => law_key' G (hc _ (getD_mem (cards := cards) (j := j) (by omega)))
    have hlt := vLt_key (cards.getD (1 + j) "") (cards.getD j "")
    unfold fallsP
    generalize cards.getD (1 + j) "" = c1 at h1 k1 hlt ⊢
    generalize cards.getD j "" = c0 at h0 k0 hlt ⊢
    clear hj
    refine ⟨_, rfl, ?_, fun _ => ?_⟩
    · simp [seqR_nx, seqR_rt, seqR_ct, seqR_bk, seqR_ex, seqR_ite, runF_ev, resR_nx, resR_rt, resR_ex, resR_ite, startE, wp_nxK, wp_rtK, wp_ctK, wp_bkK, wp_exK, wp_nxP, wp_rtP, wp_ite, R.bind_ok, R.bind_exn, sb_ok, sb_exn, opt_some, opt_ite, bind_ite, sb_ite, dC, dVar, dPk, Fv.toVl, dBin, dUn, dTest, vTru, dTB_ev, tbK_bl, dAnd, dOr, dNot, dBV, dIf, dChain_ev, chK_bl, daNil, daCons, dTup, dLst, dIx, doNone, doSome, dSl, dFn, diVal, diRng, dCall, dRet, dRetN, dExpr, dIfS_ev, dAsg, gSet, gUn, gsNil, gsCons, itemsOf, dNext, dBreak, dCont, dRaise, dxC, dxE, dTold_ev, toldR_ok, toldR_exn, toldR_ite, dMeth, dFld, List.lookup, dSetF, putN, dPar, dPar3, vNeg, vSub_int, vAdd_int, vEq_int, vNe_int, vLt_int, vGt_int, vLe_int, vGe_int, vIx_lst, vIx_tup, atI_int, vSl_tup, vSl_lst, cutL_toI, cutL_fromI, cutL_midI, cutL_all, oLen, seqOf, oInt, oAbs, oMax2, oMin2, oTuple, oList, vIsN_non, vIsN_str, vIsN_int, vIsN_tup, vIsN_lst, dBm, tStr, tTup, tLst, dCat, lstOf, dListO, dLstO, dBmW, dTupRev, wipeE, h1, h0, k1, k0, hlt, -atI_int]
    · simp [seqR_nx, seqR_rt, seqR_ct, seqR_bk, seqR_ex, seqR_ite, runF_ev, resR_nx, resR_rt, resR_ex, resR_ite, startE, wp_nxK, wp_rtK, wp_ctK, wp_bkK, wp_exK, wp_nxP, wp_rtP, wp_ite, R.bind_ok, R.bind_exn, sb_ok, sb_exn, opt_some, opt_ite, bind_ite, sb_ite, dC, dVar, dPk, Fv.toVl, dBin, dUn, dTest, vTru, dTB_ev, tbK_bl, dAnd, dOr, dNot, dBV, dIf, dChain_ev, chK_bl, daNil, daCons, dTup, dLst, dIx, doNone, doSome, dSl, dFn, diVal, diRng, dCall, dRet, dRetN, dExpr, dIfS_ev, dAsg, gSet, gUn, gsNil, gsCons, itemsOf, dNext, dBreak, dCont, dRaise, dxC, dxE, dTold_ev, toldR_ok, toldR_exn, toldR_ite, dMeth, dFld, List.lookup, dSetF, putN, dPar, dPar3, vNeg, vSub_int, vAdd_int, vEq_int, vNe_int, vLt_int, vGt_int, vLe_int, vGe_int, vIx_lst, vIx_tup, atI_int, vSl_tup, vSl_lst, cutL_toI, cutL_fromI, cutL_midI, cutL_all, oLen, seqOf, oInt, oAbs, oMax2, oMin2, oTuple, oList, vIsN_non, vIsN_str, vIsN_int, vIsN_tup, vIsN_lst, dBm, tStr, tTup, tLst, dCat, lstOf, dListO, dLstO, dBmW, dTupRev, wipeE]
  · simp; omega
  subst hX
  simp only [sb_ok, wp_nxK]
  unfold T1_7__law_rest1
  refine wp_chk (G1 := dO d4 :: packO rows :: T) ?_ ?_
  · have hrr := rising_rows (dO d4 :: packO rows :: T) cards hc (by omega)
    by_cases hce : cards = []
    · subst hce
      simp at hrr
      simp [seqR_nx, seqR_rt, seqR_ct, seqR_bk, seqR_ex, seqR_ite, runF_ev, resR_nx, resR_rt, resR_ex, resR_ite, startE, wp_nxK, wp_rtK, wp_ctK, wp_bkK, wp_exK, wp_nxP, wp_rtP, wp_ite, R.bind_ok, R.bind_exn, sb_ok, sb_exn, opt_some, opt_ite, bind_ite, sb_ite, dC, dVar, dPk, Fv.toVl, dBin, dUn, dTest, vTru, dTB_ev, tbK_bl, dAnd, dOr, dNot, dBV, dIf, dChain_ev, chK_bl, daNil, daCons, dTup, dLst, dIx, doNone, doSome, dSl, dFn, diVal, diRng, dCall, dRet, dRetN, dExpr, dIfS_ev, dAsg, gSet, gUn, gsNil, gsCons, itemsOf, dNext, dBreak, dCont, dRaise, dxC, dxE, dTold_ev, toldR_ok, toldR_exn, toldR_ite, dMeth, dFld, List.lookup, dSetF, putN, dPar, dPar3, vNeg, vSub_int, vAdd_int, vEq_int, vNe_int, vLt_int, vGt_int, vLe_int, vGe_int, vIx_lst, vIx_tup, atI_int, vSl_tup, vSl_lst, cutL_toI, cutL_fromI, cutL_midI, cutL_all, oLen, seqOf, oInt, oAbs, oMax2, oMin2, oTuple, oList, vIsN_non, vIsN_str, vIsN_int, vIsN_tup, vIsN_lst, dBm, tStr, tTup, tLst, dCat, lstOf, dListO, dLstO, dBmW, dTupRev, hrr, vNe_lst0, gd_str, gd_int, gd_bl, gd_non, gd_tup, gd_lst, gds_nil, gds_cons, gds_append, gds_str, gds_int, gds_take, gds_drop, gds_ints]
    · have h0 : vNe (.lst (cards.map .str)) (.lst []) = some (.bl true) := by
        rw [vNe_lst0 gds_str, isEmpty_map]
        cases cards with | nil => exact absurd rfl hce | cons _ _ => rfl
      rw [if_neg hce] at hrr
      simp [seqR_nx, seqR_rt, seqR_ct, seqR_bk, seqR_ex, seqR_ite, runF_ev, resR_nx, resR_rt, resR_ex, resR_ite, startE, wp_nxK, wp_rtK, wp_ctK, wp_bkK, wp_exK, wp_nxP, wp_rtP, wp_ite, R.bind_ok, R.bind_exn, sb_ok, sb_exn, opt_some, opt_ite, bind_ite, sb_ite, dC, dVar, dPk, Fv.toVl, dBin, dUn, dTest, vTru, dTB_ev, tbK_bl, dAnd, dOr, dNot, dBV, dIf, dChain_ev, chK_bl, daNil, daCons, dTup, dLst, dIx, doNone, doSome, dSl, dFn, diVal, diRng, dCall, dRet, dRetN, dExpr, dIfS_ev, dAsg, gSet, gUn, gsNil, gsCons, itemsOf, dNext, dBreak, dCont, dRaise, dxC, dxE, dTold_ev, toldR_ok, toldR_exn, toldR_ite, dMeth, dFld, List.lookup, dSetF, putN, dPar, dPar3, vNeg, vSub_int, vAdd_int, vEq_int, vNe_int, vLt_int, vGt_int, vLe_int, vGe_int, vIx_lst, vIx_tup, atI_int, vSl_tup, vSl_lst, cutL_toI, cutL_fromI, cutL_midI, cutL_all, oLen, seqOf, oInt, oAbs, oMax2, oMin2, oTuple, oList, vIsN_non, vIsN_str, vIsN_int, vIsN_tup, vIsN_lst, dBm, tStr, tTup, tLst, dCat, lstOf, dListO, dLstO, dBmW, dTupRev, hrr, h0, falls, Int.add_comm]
  generalize some (Fv.val (Vl.lst (List.map (fun j : Nat => Vl.int (1 + (j : Nat))) (List.filter (fallsP cards) (List.range (cards.length - 1)))))) = z7
  unfold T1_8__law_rest1
  refine wp_chk (G1 := dO d4 :: packO rows :: T) ?_ ?_
  · have hbc := by_colour (dO d4 :: packO rows :: T) cards hc (by omega)
    simp only [seqR_nx, seqR_rt, seqR_ct, seqR_bk, seqR_ex, seqR_ite, runF_ev, resR_nx, resR_rt, resR_ex, resR_ite, startE, wp_nxK, wp_rtK, wp_ctK, wp_bkK, wp_exK, wp_nxP, wp_rtP, wp_ite, R.bind_ok, R.bind_exn, sb_ok, sb_exn, opt_some, opt_ite, bind_ite, sb_ite, dC, dVar, dPk, Fv.toVl, dBin, dUn, dTest, vTru, dTB_ev, tbK_bl, dAnd, dOr, dNot, dBV, dIf, dChain_ev, chK_bl, daNil, daCons, dTup, dLst, dIx, doNone, doSome, dSl, dFn, diVal, diRng, dCall, dRet, dRetN, dExpr, dIfS_ev, dAsg, gSet, gUn, gsNil, gsCons, itemsOf, dNext, dBreak, dCont, dRaise, dxC, dxE, dTold_ev, toldR_ok, toldR_exn, toldR_ite, dMeth, dFld, List.lookup, dSetF, putN, dPar, dPar3, vNeg, vSub_int, vAdd_int, vEq_int, vNe_int, vLt_int, vGt_int, vLe_int, vGe_int, vIx_lst, vIx_tup, atI_int, vSl_tup, vSl_lst, cutL_toI, cutL_fromI, cutL_midI, cutL_all, oLen, seqOf, oInt, oAbs, oMax2, oMin2, oTuple, oList, vIsN_non, vIsN_str, vIsN_int, vIsN_tup, vIsN_lst, dBm, tStr, tTup, tLst, dCat, lstOf, dListO, dLstO, dBmW, dTupRev, startE, List.map_cons, List.map_nil, List.length_cons, List.length_nil, List.cons_append, List.nil_append, Nat.reduceAdd, Nat.reduceSub, List.replicate, List.getElem?_cons_succ, List.getElem?_cons_zero]
    generalize hX5 : C5__law_rest1 _ _ = X5
    unfold C5__law_rest1 at hX5
    rw [dLc_map [(cards.filter fun c => redB (c.cps.getD 1 0)), (cards.filter fun c => !redB (c.cps.getD 1 0))] (fun l : List Str => .tup (l.map .str)) (fun l : List Str => .lst (l.map .str)) (G1 := dO d4 :: packO rows :: T)] at hX5
    rotate_left
    · simp [seqR_nx, seqR_rt, seqR_ct, seqR_bk, seqR_ex, seqR_ite, runF_ev, resR_nx, resR_rt, resR_ex, resR_ite, startE, wp_nxK, wp_rtK, wp_ctK, wp_bkK, wp_exK, wp_nxP, wp_rtP, wp_ite, R.bind_ok, R.bind_exn, sb_ok, sb_exn, opt_some, opt_ite, bind_ite, sb_ite, dC, dVar, dPk, Fv.toVl, dBin, dUn, dTest, vTru, dTB_ev, tbK_bl, dAnd, dOr, dNot, dBV, dIf, dChain_ev, chK_bl, daNil, daCons, dTup, dLst, dIx, doNone, doSome, dSl, dFn, diVal, diRng, dCall, dRet, dRetN, dExpr, dIfS_ev, dAsg, gSet, gUn, gsNil, gsCons, itemsOf, dNext, dBreak, dCont, dRaise, dxC, dxE, dTold_ev, toldR_ok, toldR_exn, toldR_ite, dMeth, dFld, List.lookup, dSetF, putN, dPar, dPar3, vNeg, vSub_int, vAdd_int, vEq_int, vNe_int, vLt_int, vGt_int, vLe_int, vGe_int, vIx_lst, vIx_tup, atI_int, vSl_tup, vSl_lst, cutL_toI, cutL_fromI, cutL_midI, cutL_all, oLen, seqOf, oInt, oAbs, oMax2, oMin2, oTuple, oList, vIsN_non, vIsN_str, vIsN_int, vIsN_tup, vIsN_lst, dBm, tStr, tTup, tLst, dCat, lstOf, dListO, dLstO, dBmW, dTupRev, hbc, walkOf]
    · intro l hl
      exact ⟨_, rfl, by simp [seqR_nx, seqR_rt, seqR_ct, seqR_bk, seqR_ex, seqR_ite, runF_ev, resR_nx, resR_rt, resR_ex, resR_ite, startE, wp_nxK, wp_rtK, wp_ctK, wp_bkK, wp_exK, wp_nxP, wp_rtP, wp_ite, R.bind_ok, R.bind_exn, sb_ok, sb_exn, opt_some, opt_ite, bind_ite, sb_ite, dC, dVar, dPk, Fv.toVl, dBin, dUn, dTest, vTru, dTB_ev, tbK_bl, dAnd, dOr, dNot, dBV, dIf, dChain_ev, chK_bl, daNil, daCons, dTup, dLst, dIx, doNone, doSome, dSl, dFn, diVal, diRng, dCall, dRet, dRetN, dExpr, dIfS_ev, dAsg, gSet, gUn, gsNil, gsCons, itemsOf, dNext, dBreak, dCont, dRaise, dxC, dxE, dTold_ev, toldR_ok, toldR_exn, toldR_ite, dMeth, dFld, List.lookup, dSetF, putN, dPar, dPar3, vNeg, vSub_int, vAdd_int, vEq_int, vNe_int, vLt_int, vGt_int, vLe_int, vGe_int, vIx_lst, vIx_tup, atI_int, vSl_tup, vSl_lst, cutL_toI, cutL_fromI, cutL_midI, cutL_all, oLen, seqOf, oInt, oAbs, oMax2, oMin2, oTuple, oList, vIsN_non, vIsN_str, vIsN_int, vIsN_tup, vIsN_lst, dBm, tStr, tTup, tLst, dCat, lstOf, dListO, dLstO, dBmW, dTupRev, wipeE]⟩
    · show 2 ≤ 16777216; decide
    subst hX5
    simp only [R.bind_ok]
    generalize hX7 : C7__law_rest1 _ _ = X7
    unfold C7__law_rest1 at hX7
    rw [dLc_tm cards Vl.str (fun c => redB (c.cps.getD 1 0)) Vl.str (G1 := dO d4 :: packO rows :: T)] at hX7
    rotate_left
    · simp [seqR_nx, seqR_rt, seqR_ct, seqR_bk, seqR_ex, seqR_ite, runF_ev, resR_nx, resR_rt, resR_ex, resR_ite, startE, wp_nxK, wp_rtK, wp_ctK, wp_bkK, wp_exK, wp_nxP, wp_rtP, wp_ite, R.bind_ok, R.bind_exn, sb_ok, sb_exn, opt_some, opt_ite, bind_ite, sb_ite, dC, dVar, dPk, Fv.toVl, dBin, dUn, dTest, vTru, dTB_ev, tbK_bl, dAnd, dOr, dNot, dBV, dIf, dChain_ev, chK_bl, daNil, daCons, dTup, dLst, dIx, doNone, doSome, dSl, dFn, diVal, diRng, dCall, dRet, dRetN, dExpr, dIfS_ev, dAsg, gSet, gUn, gsNil, gsCons, itemsOf, dNext, dBreak, dCont, dRaise, dxC, dxE, dTold_ev, toldR_ok, toldR_exn, toldR_ite, dMeth, dFld, List.lookup, dSetF, putN, dPar, dPar3, vNeg, vSub_int, vAdd_int, vEq_int, vNe_int, vLt_int, vGt_int, vLe_int, vGe_int, vIx_lst, vIx_tup, atI_int, vSl_tup, vSl_lst, cutL_toI, cutL_fromI, cutL_midI, cutL_all, oLen, seqOf, oInt, oAbs, oMax2, oMin2, oTuple, oList, vIsN_non, vIsN_str, vIsN_int, vIsN_tup, vIsN_lst, dBm, tStr, tTup, tLst, dCat, lstOf, dListO, dLstO, dBmW, dTupRev, walkOf]
    · intro c hcc
      obtain ⟨x, hx, y, hy, rfl⟩ := hc c hcc
      have e1 := fun G => cd_from G x y
      have e2 := in_dh y
      refine ⟨_, rfl, ?_, fun _ => ?_⟩
      · simp [seqR_nx, seqR_rt, seqR_ct, seqR_bk, seqR_ex, seqR_ite, runF_ev, resR_nx, resR_rt, resR_ex, resR_ite, startE, wp_nxK, wp_rtK, wp_ctK, wp_bkK, wp_exK, wp_nxP, wp_rtP, wp_ite, R.bind_ok, R.bind_exn, sb_ok, sb_exn, opt_some, opt_ite, bind_ite, sb_ite, dC, dVar, dPk, Fv.toVl, dBin, dUn, dTest, vTru, dTB_ev, tbK_bl, dAnd, dOr, dNot, dBV, dIf, dChain_ev, chK_bl, daNil, daCons, dTup, dLst, dIx, doNone, doSome, dSl, dFn, diVal, diRng, dCall, dRet, dRetN, dExpr, dIfS_ev, dAsg, gSet, gUn, gsNil, gsCons, itemsOf, dNext, dBreak, dCont, dRaise, dxC, dxE, dTold_ev, toldR_ok, toldR_exn, toldR_ite, dMeth, dFld, List.lookup, dSetF, putN, dPar, dPar3, vNeg, vSub_int, vAdd_int, vEq_int, vNe_int, vLt_int, vGt_int, vLe_int, vGe_int, vIx_lst, vIx_tup, atI_int, vSl_tup, vSl_lst, cutL_toI, cutL_fromI, cutL_midI, cutL_all, oLen, seqOf, oInt, oAbs, oMax2, oMin2, oTuple, oList, vIsN_non, vIsN_str, vIsN_int, vIsN_tup, vIsN_lst, dBm, tStr, tTup, tLst, dCat, lstOf, dListO, dLstO, dBmW, dTupRev, wipeE, e1, e2]; rfl
      · simp [seqR_nx, seqR_rt, seqR_ct, seqR_bk, seqR_ex, seqR_ite, runF_ev, resR_nx, resR_rt, resR_ex, resR_ite, startE, wp_nxK, wp_rtK, wp_ctK, wp_bkK, wp_exK, wp_nxP, wp_rtP, wp_ite, R.bind_ok, R.bind_exn, sb_ok, sb_exn, opt_some, opt_ite, bind_ite, sb_ite, dC, dVar, dPk, Fv.toVl, dBin, dUn, dTest, vTru, dTB_ev, tbK_bl, dAnd, dOr, dNot, dBV, dIf, dChain_ev, chK_bl, daNil, daCons, dTup, dLst, dIx, doNone, doSome, dSl, dFn, diVal, diRng, dCall, dRet, dRetN, dExpr, dIfS_ev, dAsg, gSet, gUn, gsNil, gsCons, itemsOf, dNext, dBreak, dCont, dRaise, dxC, dxE, dTold_ev, toldR_ok, toldR_exn, toldR_ite, dMeth, dFld, List.lookup, dSetF, putN, dPar, dPar3, vNeg, vSub_int, vAdd_int, vEq_int, vNe_int, vLt_int, vGt_int, vLe_int, vGe_int, vIx_lst, vIx_tup, atI_int, vSl_tup, vSl_lst, cutL_toI, cutL_fromI, cutL_midI, cutL_all, oLen, seqOf, oInt, oAbs, oMax2, oMin2, oTuple, oList, vIsN_non, vIsN_str, vIsN_int, vIsN_tup, vIsN_lst, dBm, tStr, tTup, tLst, dCat, lstOf, dListO, dLstO, dBmW, dTupRev, wipeE]
    · omega
    subst hX7
    simp only [R.bind_ok]
    generalize hX6 : C6__law_rest1 _ _ = X6
    unfold C6__law_rest1 at hX6
    rw [dLc_tm cards Vl.str (fun c => !redB (c.cps.getD 1 0)) Vl.str (G1 := dO d4 :: packO rows :: T)] at hX6
    rotate_left
    · simp [seqR_nx, seqR_rt, seqR_ct, seqR_bk, seqR_ex, seqR_ite, runF_ev, resR_nx, resR_rt, resR_ex, resR_ite, startE, wp_nxK, wp_rtK, wp_ctK, wp_bkK, wp_exK, wp_nxP, wp_rtP, wp_ite, R.bind_ok, R.bind_exn, sb_ok, sb_exn, opt_some, opt_ite, bind_ite, sb_ite, dC, dVar, dPk, Fv.toVl, dBin, dUn, dTest, vTru, dTB_ev, tbK_bl, dAnd, dOr, dNot, dBV, dIf, dChain_ev, chK_bl, daNil, daCons, dTup, dLst, dIx, doNone, doSome, dSl, dFn, diVal, diRng, dCall, dRet, dRetN, dExpr, dIfS_ev, dAsg, gSet, gUn, gsNil, gsCons, itemsOf, dNext, dBreak, dCont, dRaise, dxC, dxE, dTold_ev, toldR_ok, toldR_exn, toldR_ite, dMeth, dFld, List.lookup, dSetF, putN, dPar, dPar3, vNeg, vSub_int, vAdd_int, vEq_int, vNe_int, vLt_int, vGt_int, vLe_int, vGe_int, vIx_lst, vIx_tup, atI_int, vSl_tup, vSl_lst, cutL_toI, cutL_fromI, cutL_midI, cutL_all, oLen, seqOf, oInt, oAbs, oMax2, oMin2, oTuple, oList, vIsN_non, vIsN_str, vIsN_int, vIsN_tup, vIsN_lst, dBm, tStr, tTup, tLst, dCat, lstOf, dListO, dLstO, dBmW, dTupRev, walkOf]
    · intro c hcc
      obtain ⟨x, hx, y, hy, rfl⟩ := hc c hcc
      have e1 := fun G => cd_from G x y
      have e2 := in_cs y hy
      refine ⟨_, rfl, ?_, fun _ => ?_⟩
      · simp [seqR_nx, seqR_rt, seqR_ct, seqR_bk, seqR_ex, seqR_ite, runF_ev, resR_nx, resR_rt, resR_ex, resR_ite, startE, wp_nxK, wp_rtK, wp_ctK, wp_bkK, wp_exK, wp_nxP, wp_rtP, wp_ite, R.bind_ok, R.bind_exn, sb_ok, sb_exn, opt_some, opt_ite, bind_ite, sb_ite, dC, dVar, dPk, Fv.toVl, dBin, dUn, dTest, vTru, dTB_ev, tbK_bl, dAnd, dOr, dNot, dBV, dIf, dChain_ev, chK_bl, daNil, daCons, dTup, dLst, dIx, doNone, doSome, dSl, dFn, diVal, diRng, dCall, dRet, dRetN, dExpr, dIfS_ev, dAsg, gSet, gUn, gsNil, gsCons, itemsOf, dNext, dBreak, dCont, dRaise, dxC, dxE, dTold_ev, toldR_ok, toldR_exn, toldR_ite, dMeth, dFld, List.lookup, dSetF, putN, dPar, dPar3, vNeg, vSub_int, vAdd_int, vEq_int, vNe_int, vLt_int, vGt_int, vLe_int, vGe_int, vIx_lst, vIx_tup, atI_int, vSl_tup, vSl_lst, cutL_toI, cutL_fromI, cutL_midI, cutL_all, oLen, seqOf, oInt, oAbs, oMax2, oMin2, oTuple, oList, vIsN_non, vIsN_str, vIsN_int, vIsN_tup, vIsN_lst, dBm, tStr, tTup, tLst, dCat, lstOf, dListO, dLstO, dBmW, dTupRev, wipeE, e1, e2]; rfl
      · simp [seqR_nx, seqR_rt, seqR_ct, seqR_bk, seqR_ex, seqR_ite, runF_ev, resR_nx, resR_rt, resR_ex, resR_ite, startE, wp_nxK, wp_rtK, wp_ctK, wp_bkK, wp_exK, wp_nxP, wp_rtP, wp_ite, R.bind_ok, R.bind_exn, sb_ok, sb_exn, opt_some, opt_ite, bind_ite, sb_ite, dC, dVar, dPk, Fv.toVl, dBin, dUn, dTest, vTru, dTB_ev, tbK_bl, dAnd, dOr, dNot, dBV, dIf, dChain_ev, chK_bl, daNil, daCons, dTup, dLst, dIx, doNone, doSome, dSl, dFn, diVal, diRng, dCall, dRet, dRetN, dExpr, dIfS_ev, dAsg, gSet, gUn, gsNil, gsCons, itemsOf, dNext, dBreak, dCont, dRaise, dxC, dxE, dTold_ev, toldR_ok, toldR_exn, toldR_ite, dMeth, dFld, List.lookup, dSetF, putN, dPar, dPar3, vNeg, vSub_int, vAdd_int, vEq_int, vNe_int, vLt_int, vGt_int, vLe_int, vGe_int, vIx_lst, vIx_tup, atI_int, vSl_tup, vSl_lst, cutL_toI, cutL_fromI, cutL_midI, cutL_all, oLen, seqOf, oInt, oAbs, oMax2, oMin2, oTuple, oList, vIsN_non, vIsN_str, vIsN_int, vIsN_tup, vIsN_lst, dBm, tStr, tTup, tLst, dCat, lstOf, dListO, dLstO, dBmW, dTupRev, wipeE]
    · omega
    subst hX6
    simp only [R.bind_ok, List.length_cons, List.length_nil, List.map_cons, List.map_nil]
    rw [if_pos (by decide), R.bind_ok, vNe_same (by simp [gd_str, gd_int, gd_bl, gd_non, gd_tup, gd_lst, gds_nil, gds_cons, gds_append, gds_str, gds_int, gds_take, gds_drop, gds_ints])]
    rfl
  unfold T1_9__law_rest1
  refine wp_seq ?_
  simp [seqR_nx, seqR_rt, seqR_ct, seqR_bk, seqR_ex, seqR_ite, runF_ev, resR_nx, resR_rt, resR_ex, resR_ite, startE, wp_nxK, wp_rtK, wp_ctK, wp_bkK, wp_exK, wp_nxP, wp_rtP, wp_ite, R.bind_ok, R.bind_exn, sb_ok, sb_exn, opt_some, opt_ite, bind_ite, sb_ite, dC, dVar, dPk, Fv.toVl, dBin, dUn, dTest, vTru, dTB_ev, tbK_bl, dAnd, dOr, dNot, dBV, dIf, dChain_ev, chK_bl, daNil, daCons, dTup, dLst, dIx, doNone, doSome, dSl, dFn, diVal, diRng, dCall, dRet, dRetN, dExpr, dIfS_ev, dAsg, gSet, gUn, gsNil, gsCons, itemsOf, dNext, dBreak, dCont, dRaise, dxC, dxE, dTold_ev, toldR_ok, toldR_exn, toldR_ite, dMeth, dFld, List.lookup, dSetF, putN, dPar, dPar3, vNeg, vSub_int, vAdd_int, vEq_int, vNe_int, vLt_int, vGt_int, vLe_int, vGe_int, vIx_lst, vIx_tup, atI_int, vSl_tup, vSl_lst, cutL_toI, cutL_fromI, cutL_midI, cutL_all, oLen, seqOf, oInt, oAbs, oMax2, oMin2, oTuple, oList, vIsN_non, vIsN_str, vIsN_int, vIsN_tup, vIsN_lst, dBm, tStr, tTup, tLst, dCat, lstOf, dListO, dLstO, dBmW, dTupRev, roll0]
  have h_goal := rv_lt (m := 10) (rd 10 d4) (by decide)
  generalize rv 10 (rd 10 d4) = goal at h_goal ⊢
  generalize rd 10 (rd 10 d4) = d5
  have h_place := rv_lt (m := 10) d4 (by decide)
  generalize rv 10 d4 = place at h_place ⊢
  generalize rd 10 d4 = d6
  unfold T1_10__law_rest1
  refine wp_seq ?_
  have hrest : ∃ rest : List Str, rest = cards.take place ++ cards.drop (place + 1) := ⟨_, rfl⟩
  obtain ⟨rest, hrest⟩ := hrest
  have hrm : (cards.map Vl.str).take place ++ (cards.map Vl.str).drop (place + 1) = rest.map .str := by rw [hrest]; simp
  have hrl : rest.length ≤ 100 := by rw [hrest]; simp; omega
  simp (disch := first | assumption | (simp [gd_str, gd_int, gd_bl, gd_non, gd_tup, gd_lst, gds_nil, gds_cons, gds_append, gds_str, gds_int, gds_take, gds_drop, gds_ints]; done) | (simp only [List.length_append, List.length_take, List.length_drop, List.length_map, List.length_cons, List.length_nil, List.length_range] <;> omega) | omega) [seqR_nx, seqR_rt, seqR_ct, seqR_bk, seqR_ex, seqR_ite, runF_ev, resR_nx, resR_rt, resR_ex, resR_ite, startE, wp_nxK, wp_rtK, wp_ctK, wp_bkK, wp_exK, wp_nxP, wp_rtP, wp_ite, R.bind_ok, R.bind_exn, sb_ok, sb_exn, opt_some, opt_ite, bind_ite, sb_ite, dC, dVar, dPk, Fv.toVl, dBin, dUn, dTest, vTru, dTB_ev, tbK_bl, dAnd, dOr, dNot, dBV, dIf, dChain_ev, chK_bl, daNil, daCons, dTup, dLst, dIx, doNone, doSome, dSl, dFn, diVal, diRng, dCall, dRet, dRetN, dExpr, dIfS_ev, dAsg, gSet, gUn, gsNil, gsCons, itemsOf, dNext, dBreak, dCont, dRaise, dxC, dxE, dTold_ev, toldR_ok, toldR_exn, toldR_ite, dMeth, dFld, List.lookup, dSetF, putN, dPar, dPar3, vNeg, vSub_int, vAdd_int, vEq_int, vNe_int, vLt_int, vGt_int, vLe_int, vGe_int, vIx_lst, vIx_tup, atI_int, vSl_tup, vSl_lst, cutL_toI, cutL_fromI, cutL_midI, cutL_all, oLen, seqOf, oInt, oAbs, oMax2, oMin2, oTuple, oList, vIsN_non, vIsN_str, vIsN_int, vIsN_tup, vIsN_lst, dBm, tStr, tTup, tLst, dCat, lstOf, dListO, dLstO, dBmW, dTupRev, vAdd_lst, hrm]
  obtain ⟨T2, hmv⟩ := moved_card (dO d5 :: packO rows :: T) cards place goal (by omega) (by omega)
  rw [← hrest] at hmv
  unfold T1_11__law_rest1
  by_cases hpg : place < cards.length ∧ goal < cards.length
  · rw [if_pos hpg] at hmv
    have hmax : (if (place : Int) < goal then (goal : Int) else place) < cards.length := by split <;> omega
    refine wp_asg (x := .lst ((rest.take goal ++ (cards.drop place).take 1 ++ rest.drop goal).map .str)) (G1 := dO d5 :: packO rows :: T) ?_ rfl ?_
    · have e1 : ((place : Int) + 1).toNat - place = 1 := by omega
      simp (disch := first | assumption | (simp [gd_str, gd_int, gd_bl, gd_non, gd_tup, gd_lst, gds_nil, gds_cons, gds_append, gds_str, gds_int, gds_take, gds_drop, gds_ints]; done) | (simp only [List.length_append, List.length_take, List.length_drop, List.length_map, List.length_cons, List.length_nil, List.length_range] <;> omega) | omega) [seqR_nx, seqR_rt, seqR_ct, seqR_bk, seqR_ex, seqR_ite, runF_ev, resR_nx, resR_rt, resR_ex, resR_ite, startE, wp_nxK, wp_rtK, wp_ctK, wp_bkK, wp_exK, wp_nxP, wp_rtP, wp_ite, R.bind_ok, R.bind_exn, sb_ok, sb_exn, opt_some, opt_ite, bind_ite, sb_ite, dC, dVar, dPk, Fv.toVl, dBin, dUn, dTest, vTru, dTB_ev, tbK_bl, dAnd, dOr, dNot, dBV, dIf, dChain_ev, chK_bl, daNil, daCons, dTup, dLst, dIx, doNone, doSome, dSl, dFn, diVal, diRng, dCall, dRet, dRetN, dExpr, dIfS_ev, dAsg, gSet, gUn, gsNil, gsCons, itemsOf, dNext, dBreak, dCont, dRaise, dxC, dxE, dTold_ev, toldR_ok, toldR_exn, toldR_ite, dMeth, dFld, List.lookup, dSetF, putN, dPar, dPar3, vNeg, vSub_int, vAdd_int, vEq_int, vNe_int, vLt_int, vGt_int, vLe_int, vGe_int, vIx_lst, vIx_tup, atI_int, vSl_tup, vSl_lst, cutL_toI, cutL_fromI, cutL_midI, cutL_all, oLen, seqOf, oInt, oAbs, oMax2, oMin2, oTuple, oList, vIsN_non, vIsN_str, vIsN_int, vIsN_tup, vIsN_lst, dBm, tStr, tTup, tLst, dCat, lstOf, dListO, dLstO, dBmW, dTupRev, vAdd_lst, hmax, e1]
      split <;> omega
    simp only [List.set_cons_succ, List.set_cons_zero]
    unfold T1_12__law_rest1
    refine wp_chk (G1 := dO d5 :: packO rows :: (T ++ T2)) ?_ ?_
    · generalize (rest.take goal ++ (cards.drop place).take 1 ++ rest.drop goal) = fin at hmv ⊢
      simp [seqR_nx, seqR_rt, seqR_ct, seqR_bk, seqR_ex, seqR_ite, runF_ev, resR_nx, resR_rt, resR_ex, resR_ite, startE, wp_nxK, wp_rtK, wp_ctK, wp_bkK, wp_exK, wp_nxP, wp_rtP, wp_ite, R.bind_ok, R.bind_exn, sb_ok, sb_exn, opt_some, opt_ite, bind_ite, sb_ite, dC, dVar, dPk, Fv.toVl, dBin, dUn, dTest, vTru, dTB_ev, tbK_bl, dAnd, dOr, dNot, dBV, dIf, dChain_ev, chK_bl, daNil, daCons, dTup, dLst, dIx, doNone, doSome, dSl, dFn, diVal, diRng, dCall, dRet, dRetN, dExpr, dIfS_ev, dAsg, gSet, gUn, gsNil, gsCons, itemsOf, dNext, dBreak, dCont, dRaise, dxC, dxE, dTold_ev, toldR_ok, toldR_exn, toldR_ite, dMeth, dFld, List.lookup, dSetF, putN, dPar, dPar3, vNeg, vSub_int, vAdd_int, vEq_int, vNe_int, vLt_int, vGt_int, vLe_int, vGe_int, vIx_lst, vIx_tup, atI_int, vSl_tup, vSl_lst, cutL_toI, cutL_fromI, cutL_midI, cutL_all, oLen, seqOf, oInt, oAbs, oMax2, oMin2, oTuple, oList, vIsN_non, vIsN_str, vIsN_int, vIsN_tup, vIsN_lst, dBm, tStr, tTup, tLst, dCat, lstOf, dListO, dLstO, dBmW, dTupRev, hmv]
      rw [vNe_same (by simp [gd_str, gd_int, gd_bl, gd_non, gd_tup, gd_lst, gds_nil, gds_cons, gds_append, gds_str, gds_int, gds_take, gds_drop, gds_ints])]
      rfl
    unfold T1_13__law_rest1
    refine wp_chk (G1 := dO d5 :: packO rows :: (T ++ T2) ++ [.lst []]) ?_ ?_
    · simp [seqR_nx, seqR_rt, seqR_ct, seqR_bk, seqR_ex, seqR_ite, runF_ev, resR_nx, resR_rt, resR_ex, resR_ite, startE, wp_nxK, wp_rtK, wp_ctK, wp_bkK, wp_exK, wp_nxP, wp_rtP, wp_ite, R.bind_ok, R.bind_exn, sb_ok, sb_exn, opt_some, opt_ite, bind_ite, sb_ite, dC, dVar, dPk, Fv.toVl, dBin, dUn, dTest, vTru, dTB_ev, tbK_bl, dAnd, dOr, dNot, dBV, dIf, dChain_ev, chK_bl, daNil, daCons, dTup, dLst, dIx, doNone, doSome, dSl, dFn, diVal, diRng, dCall, dRet, dRetN, dExpr, dIfS_ev, dAsg, gSet, gUn, gsNil, gsCons, itemsOf, dNext, dBreak, dCont, dRaise, dxC, dxE, dTold_ev, toldR_ok, toldR_exn, toldR_ite, dMeth, dFld, List.lookup, dSetF, putN, dPar, dPar3, vNeg, vSub_int, vAdd_int, vEq_int, vNe_int, vLt_int, vGt_int, vLe_int, vGe_int, vIx_lst, vIx_tup, atI_int, vSl_tup, vSl_lst, cutL_toI, cutL_fromI, cutL_midI, cutL_all, oLen, seqOf, oInt, oAbs, oMax2, oMin2, oTuple, oList, vIsN_non, vIsN_str, vIsN_int, vIsN_tup, vIsN_lst, dBm, tStr, tTup, tLst, dCat, lstOf, dListO, dLstO, dBmW, dTupRev, cases1]
    unfold T1_14__law_rest1
    simp [seqR_nx, seqR_rt, seqR_ct, seqR_bk, seqR_ex, seqR_ite, runF_ev, resR_nx, resR_rt, resR_ex, resR_ite, startE, wp_nxK, wp_rtK, wp_ctK, wp_bkK, wp_exK, wp_nxP, wp_rtP, wp_ite, R.bind_ok, R.bind_exn, sb_ok, sb_exn, opt_some, opt_ite, bind_ite, sb_ite, dC, dVar, dPk, Fv.toVl, dBin, dUn, dTest, vTru, dTB_ev, tbK_bl, dAnd, dOr, dNot, dBV, dIf, dChain_ev, chK_bl, daNil, daCons, dTup, dLst, dIx, doNone, doSome, dSl, dFn, diVal, diRng, dCall, dRet, dRetN, dExpr, dIfS_ev, dAsg, gSet, gUn, gsNil, gsCons, itemsOf, dNext, dBreak, dCont, dRaise, dxC, dxE, dTold_ev, toldR_ok, toldR_exn, toldR_ite, dMeth, dFld, List.lookup, dSetF, putN, dPar, dPar3, vNeg, vSub_int, vAdd_int, vEq_int, vNe_int, vLt_int, vGt_int, vLe_int, vGe_int, vIx_lst, vIx_tup, atI_int, vSl_tup, vSl_lst, cutL_toI, cutL_fromI, cutL_midI, cutL_all, oLen, seqOf, oInt, oAbs, oMax2, oMin2, oTuple, oList, vIsN_non, vIsN_str, vIsN_int, vIsN_tup, vIsN_lst, dBm, tStr, tTup, tLst, dCat, lstOf, dListO, dLstO, dBmW, dTupRev]
  · rw [if_neg hpg] at hmv
    have hmax : ¬ (if (place : Int) < goal then (goal : Int) else place) < cards.length := by split <;> omega
    refine wp_asg (x := .str "no such") (G1 := dO d5 :: packO rows :: T) ?_ rfl ?_
    · simp (disch := first | assumption | (simp [gd_str, gd_int, gd_bl, gd_non, gd_tup, gd_lst, gds_nil, gds_cons, gds_append, gds_str, gds_int, gds_take, gds_drop, gds_ints]; done) | (simp only [List.length_append, List.length_take, List.length_drop, List.length_map, List.length_cons, List.length_nil, List.length_range] <;> omega) | omega) [seqR_nx, seqR_rt, seqR_ct, seqR_bk, seqR_ex, seqR_ite, runF_ev, resR_nx, resR_rt, resR_ex, resR_ite, startE, wp_nxK, wp_rtK, wp_ctK, wp_bkK, wp_exK, wp_nxP, wp_rtP, wp_ite, R.bind_ok, R.bind_exn, sb_ok, sb_exn, opt_some, opt_ite, bind_ite, sb_ite, dC, dVar, dPk, Fv.toVl, dBin, dUn, dTest, vTru, dTB_ev, tbK_bl, dAnd, dOr, dNot, dBV, dIf, dChain_ev, chK_bl, daNil, daCons, dTup, dLst, dIx, doNone, doSome, dSl, dFn, diVal, diRng, dCall, dRet, dRetN, dExpr, dIfS_ev, dAsg, gSet, gUn, gsNil, gsCons, itemsOf, dNext, dBreak, dCont, dRaise, dxC, dxE, dTold_ev, toldR_ok, toldR_exn, toldR_ite, dMeth, dFld, List.lookup, dSetF, putN, dPar, dPar3, vNeg, vSub_int, vAdd_int, vEq_int, vNe_int, vLt_int, vGt_int, vLe_int, vGe_int, vIx_lst, vIx_tup, atI_int, vSl_tup, vSl_lst, cutL_toI, cutL_fromI, cutL_midI, cutL_all, oLen, seqOf, oInt, oAbs, oMax2, oMin2, oTuple, oList, vIsN_non, vIsN_str, vIsN_int, vIsN_tup, vIsN_lst, dBm, tStr, tTup, tLst, dCat, lstOf, dListO, dLstO, dBmW, dTupRev, vAdd_lst, hmax]
      split <;> omega
    simp only [List.set_cons_succ, List.set_cons_zero]
    unfold T1_12__law_rest1
    refine wp_chk (G1 := dO d5 :: packO rows :: T) ?_ ?_
    · simp [seqR_nx, seqR_rt, seqR_ct, seqR_bk, seqR_ex, seqR_ite, runF_ev, resR_nx, resR_rt, resR_ex, resR_ite, startE, wp_nxK, wp_rtK, wp_ctK, wp_bkK, wp_exK, wp_nxP, wp_rtP, wp_ite, R.bind_ok, R.bind_exn, sb_ok, sb_exn, opt_some, opt_ite, bind_ite, sb_ite, dC, dVar, dPk, Fv.toVl, dBin, dUn, dTest, vTru, dTB_ev, tbK_bl, dAnd, dOr, dNot, dBV, dIf, dChain_ev, chK_bl, daNil, daCons, dTup, dLst, dIx, doNone, doSome, dSl, dFn, diVal, diRng, dCall, dRet, dRetN, dExpr, dIfS_ev, dAsg, gSet, gUn, gsNil, gsCons, itemsOf, dNext, dBreak, dCont, dRaise, dxC, dxE, dTold_ev, toldR_ok, toldR_exn, toldR_ite, dMeth, dFld, List.lookup, dSetF, putN, dPar, dPar3, vNeg, vSub_int, vAdd_int, vEq_int, vNe_int, vLt_int, vGt_int, vLe_int, vGe_int, vIx_lst, vIx_tup, atI_int, vSl_tup, vSl_lst, cutL_toI, cutL_fromI, cutL_midI, cutL_all, oLen, seqOf, oInt, oAbs, oMax2, oMin2, oTuple, oList, vIsN_non, vIsN_str, vIsN_int, vIsN_tup, vIsN_lst, dBm, tStr, tTup, tLst, dCat, lstOf, dListO, dLstO, dBmW, dTupRev, hmv, tf2, vNe_same, gd_str, gd_int, gd_bl, gd_non, gd_tup, gd_lst, gds_nil, gds_cons, gds_append, gds_str, gds_int, gds_take, gds_drop, gds_ints]
    unfold T1_13__law_rest1
    refine wp_chk (G1 := dO d5 :: packO rows :: T ++ [.lst []]) ?_ ?_
    · simp [seqR_nx, seqR_rt, seqR_ct, seqR_bk, seqR_ex, seqR_ite, runF_ev, resR_nx, resR_rt, resR_ex, resR_ite, startE, wp_nxK, wp_rtK, wp_ctK, wp_bkK, wp_exK, wp_nxP, wp_rtP, wp_ite, R.bind_ok, R.bind_exn, sb_ok, sb_exn, opt_some, opt_ite, bind_ite, sb_ite, dC, dVar, dPk, Fv.toVl, dBin, dUn, dTest, vTru, dTB_ev, tbK_bl, dAnd, dOr, dNot, dBV, dIf, dChain_ev, chK_bl, daNil, daCons, dTup, dLst, dIx, doNone, doSome, dSl, dFn, diVal, diRng, dCall, dRet, dRetN, dExpr, dIfS_ev, dAsg, gSet, gUn, gsNil, gsCons, itemsOf, dNext, dBreak, dCont, dRaise, dxC, dxE, dTold_ev, toldR_ok, toldR_exn, toldR_ite, dMeth, dFld, List.lookup, dSetF, putN, dPar, dPar3, vNeg, vSub_int, vAdd_int, vEq_int, vNe_int, vLt_int, vGt_int, vLe_int, vGe_int, vIx_lst, vIx_tup, atI_int, vSl_tup, vSl_lst, cutL_toI, cutL_fromI, cutL_midI, cutL_all, oLen, seqOf, oInt, oAbs, oMax2, oMin2, oTuple, oList, vIsN_non, vIsN_str, vIsN_int, vIsN_tup, vIsN_lst, dBm, tStr, tTup, tLst, dCat, lstOf, dListO, dLstO, dBmW, dTupRev, cases1]
    unfold T1_14__law_rest1
    simp [seqR_nx, seqR_rt, seqR_ct, seqR_bk, seqR_ex, seqR_ite, runF_ev, resR_nx, resR_rt, resR_ex, resR_ite, startE, wp_nxK, wp_rtK, wp_ctK, wp_bkK, wp_exK, wp_nxP, wp_rtP, wp_ite, R.bind_ok, R.bind_exn, sb_ok, sb_exn, opt_some, opt_ite, bind_ite, sb_ite, dC, dVar, dPk, Fv.toVl, dBin, dUn, dTest, vTru, dTB_ev, tbK_bl, dAnd, dOr, dNot, dBV, dIf, dChain_ev, chK_bl, daNil, daCons, dTup, dLst, dIx, doNone, doSome, dSl, dFn, diVal, diRng, dCall, dRet, dRetN, dExpr, dIfS_ev, dAsg, gSet, gUn, gsNil, gsCons, itemsOf, dNext, dBreak, dCont, dRaise, dxC, dxE, dTold_ev, toldR_ok, toldR_exn, toldR_ite, dMeth, dFld, List.lookup, dSetF, putN, dPar, dPar3, vNeg, vSub_int, vAdd_int, vEq_int, vNe_int, vLt_int, vGt_int, vLe_int, vGe_int, vIx_lst, vIx_tup, atI_int, vSl_tup, vSl_lst, cutL_toI, cutL_fromI, cutL_midI, cutL_all, oLen, seqOf, oInt, oAbs, oMax2, oMin2, oTuple, oList, vIsN_non, vIsN_str, vIsN_int, vIsN_tup, vIsN_lst, dBm, tStr, tTup, tLst, dCat, lstOf, dListO, dLstO, dBmW, dTupRev]
end CardH
end
section
set_option maxHeartbeats 8000000
namespace CardH
open PySem PySem.Spec PyProof.Rows L2
theorem len14 {α : Type} : ∀ {e : List α}, e.length = 14 → ∃ a0 a1 a2 a3 a4 a5 a6 a7 a8 a9 a10 a11 a12 a13, e = [a0, a1, a2, a3, a4, a5, a6, a7, a8, a9, a10, a11, a12, a13]
  | [a0, a1, a2, a3, a4, a5, a6, a7, a8, a9, a10, a11, a12, a13], _ => ⟨a0, a1, a2, a3, a4, a5, a6, a7, a8, a9, a10, a11, a12, a13, rfl⟩
theorem rest2 (d : D3) (r : Nat) (h1 : 1 ≤ r) (h2 : r ≤ 13) : ∃ G', M__law_rest2 [.ref 0, .int r, .lst ((deckR r).map .str)] [dO d] = .ok (.bl true) G' := by
  refine runF_true ?_
  simp only [startE, List.map_cons, List.map_nil, List.length_cons, List.length_nil, List.cons_append, List.nil_append, Nat.reduceAdd, Nat.reduceSub, List.replicate]
  unfold D__law_rest2
  refine wp_seq ?_
  have hn10 := rv_lt (m := 10) d (by decide)
  obtain ⟨cards, d1, hcards, hlen, hnd, hmem⟩ := cards (rd 10 d) [] (rv 10 d) 13 (by decide) (by omega)
  have hcards : M__law_cards [.ref 0, .int (rv 10 d : Nat), .int 13] [dO (rd 10 d)] = .ok (.lst (cards.map .str)) [dO d1] := hcards
  have hc : ∀ c ∈ cards, isCd c := fun c h => deckR_cd (hmem c h)
  have hcl : cards.length ≤ 9 := by omega
  simp [seqR_nx, seqR_rt, seqR_ct, seqR_bk, seqR_ex, seqR_ite, runF_ev, resR_nx, resR_rt, resR_ex, resR_ite, startE, wp_nxK, wp_rtK, wp_ctK, wp_bkK, wp_exK, wp_nxP, wp_rtP, wp_ite, R.bind_ok, R.bind_exn, sb_ok, sb_exn, opt_some, opt_ite, bind_ite, sb_ite, dC, dVar, dPk, Fv.toVl, dBin, dUn, dTest, vTru, dTB_ev, tbK_bl, dAnd, dOr, dNot, dBV, dIf, dChain_ev, chK_bl, daNil, daCons, dTup, dLst, dIx, doNone, doSome, dSl, dFn, diVal, diRng, dCall, dRet, dRetN, dExpr, dIfS_ev, dAsg, gSet, gUn, gsNil, gsCons, itemsOf, dNext, dBreak, dCont, dRaise, dxC, dxE, dTold_ev, toldR_ok, toldR_exn, toldR_ite, dMeth, dFld, List.lookup, dSetF, putN, dPar, dPar3, vNeg, vSub_int, vAdd_int, vEq_int, vNe_int, vLt_int, vGt_int, vLe_int, vGe_int, vIx_lst, vIx_tup, atI_int, vSl_tup, vSl_lst, cutL_toI, cutL_fromI, cutL_midI, cutL_all, oLen, seqOf, oInt, oAbs, oMax2, oMin2, oTuple, oList, vIsN_non, vIsN_str, vIsN_int, vIsN_tup, vIsN_lst, dBm, tStr, tTup, tLst, dCat, lstOf, dListO, dLstO, dBmW, dTupRev, roll0, hcards]
  clear hcards hlen hmem hn10
  unfold T1_1__law_rest2
  refine wp_chk (G1 := [dO d1]) ?_ ?_
  · simp only [seqR_nx, seqR_rt, seqR_ct, seqR_bk, seqR_ex, seqR_ite, runF_ev, resR_nx, resR_rt, resR_ex, resR_ite, startE, wp_nxK, wp_rtK, wp_ctK, wp_bkK, wp_exK, wp_nxP, wp_rtP, wp_ite, R.bind_ok, R.bind_exn, sb_ok, sb_exn, opt_some, opt_ite, bind_ite, sb_ite, dC, dVar, dPk, Fv.toVl, dBin, dUn, dTest, vTru, dTB_ev, tbK_bl, dAnd, dOr, dNot, dBV, dIf, dChain_ev, chK_bl, daNil, daCons, dTup, dLst, dIx, doNone, doSome, dSl, dFn, diVal, diRng, dCall, dRet, dRetN, dExpr, dIfS_ev, dAsg, gSet, gUn, gsNil, gsCons, itemsOf, dNext, dBreak, dCont, dRaise, dxC, dxE, dTold_ev, toldR_ok, toldR_exn, toldR_ite, dMeth, dFld, List.lookup, dSetF, putN, dPar, dPar3, vNeg, vSub_int, vAdd_int, vEq_int, vNe_int, vLt_int, vGt_int, vLe_int, vGe_int, vIx_lst, vIx_tup, atI_int, vSl_tup, vSl_lst, cutL_toI, cutL_fromI, cutL_midI, cutL_all, oLen, seqOf, oInt, oAbs, oMax2, oMin2, oTuple, oList, vIsN_non, vIsN_str, vIsN_int, vIsN_tup, vIsN_lst, dBm, tStr, tTup, tLst, dCat, lstOf, dListO, dLstO, dBmW, dTupRev, startE, List.map_cons, List.map_nil, List.length_cons, List.length_nil, List.cons_append, List.nil_append, Nat.reduceAdd, Nat.reduceSub, List.replicate, List.getElem?_cons_succ, List.getElem?_cons_zero]
    generalize hX1 : C1__law_rest2 _ _ = X1
    unfold C1__law_rest2 at hX1
    rw [dLc_map cards Vl.str keyV (G1 := [dO d1])] at hX1
    rotate_left
    · simp [seqR_nx, seqR_rt, seqR_ct, seqR_bk, seqR_ex, seqR_ite, runF_ev, resR_nx, resR_rt, resR_ex, resR_ite, startE, wp_nxK, wp_rtK, wp_ctK, wp_bkK, wp_exK, wp_nxP, wp_rtP, wp_ite, R.bind_ok, R.bind_exn, sb_ok, sb_exn, opt_some, opt_ite, bind_ite, sb_ite, dC, dVar, dPk, Fv.toVl, dBin, dUn, dTest, vTru, dTB_ev, tbK_bl, dAnd, dOr, dNot, dBV, dIf, dChain_ev, chK_bl, daNil, daCons, dTup, dLst, dIx, doNone, doSome, dSl, dFn, diVal, diRng, dCall, dRet, dRetN, dExpr, dIfS_ev, dAsg, gSet, gUn, gsNil, gsCons, itemsOf, dNext, dBreak, dCont, dRaise, dxC, dxE, dTold_ev, toldR_ok, toldR_exn, toldR_ite, dMeth, dFld, List.lookup, dSetF, putN, dPar, dPar3, vNeg, vSub_int, vAdd_int, vEq_int, vNe_int, vLt_int, vGt_int, vLe_int, vGe_int, vIx_lst, vIx_tup, atI_int, vSl_tup, vSl_lst, cutL_toI, cutL_fromI, cutL_midI, cutL_all, oLen, seqOf, oInt, oAbs, oMax2, oMin2, oTuple, oList, vIsN_non, vIsN_str, vIsN_int, vIsN_tup, vIsN_lst, dBm, tStr, tTup, tLst, dCat, lstOf, dListO, dLstO, dBmW, dTupRev, walkOf]
    · intro c hcc
      have := fun G => order_key G (hc c hcc)
      exact ⟨_, rfl, by simp [seqR_nx, seqR_rt, seqR_ct, seqR_bk, seqR_ex, seqR_ite, runF_ev, resR_nx, resR_rt, resR_ex, resR_ite, startE, wp_nxK, wp_rtK, wp_ctK, wp_bkK, wp_exK, wp_nxP, wp_rtP, wp_ite, R.bind_ok, R.bind_exn, sb_ok, sb_exn, opt_some, opt_ite, bind_ite, sb_ite, dC, dVar, dPk, Fv.toVl, dBin, dUn, dTest, vTru, dTB_ev, tbK_bl, dAnd, dOr, dNot, dBV, dIf, dChain_ev, chK_bl, daNil, daCons, dTup, dLst, dIx, doNone, doSome, dSl, dFn, diVal, diRng, dCall, dRet, dRetN, dExpr, dIfS_ev, dAsg, gSet, gUn, gsNil, gsCons, itemsOf, dNext, dBreak, dCont, dRaise, dxC, dxE, dTold_ev, toldR_ok, toldR_exn, toldR_ite, dMeth, dFld, List.lookup, dSetF, putN, dPar, dPar3, vNeg, vSub_int, vAdd_int, vEq_int, vNe_int, vLt_int, vGt_int, vLe_int, vGe_int, vIx_lst, vIx_tup, atI_int, vSl_tup, vSl_lst, cutL_toI, cutL_fromI, cutL_midI, cutL_all, oLen, seqOf, oInt, oAbs, oMax2, oMin2, oTuple, oList, vIsN_non, vIsN_str, vIsN_int, vIsN_tup, vIsN_lst, dBm, tStr, tTup, tLst, dCat, lstOf, dListO, dLstO, dBmW, dTupRev, wipeE, this]⟩
    · omega
    subst hX1
    simp only [R.bind_ok]
    generalize hX2 : C2__law_rest2 _ _ = X2
    unfold C2__law_rest2 at hX2
    rw [dLc_map cards Vl.str keyV (G1 := [dO d1])] at hX2
    rotate_left
    · simp [seqR_nx, seqR_rt, seqR_ct, seqR_bk, seqR_ex, seqR_ite, runF_ev, resR_nx, resR_rt, resR_ex, resR_ite, startE, wp_nxK, wp_rtK, wp_ctK, wp_bkK, wp_exK, wp_nxP, wp_rtP, wp_ite, R.bind_ok, R.bind_exn, sb_ok, sb_exn, opt_some, opt_ite, bind_ite, sb_ite, dC, dVar, dPk, Fv.toVl, dBin, dUn, dTest, vTru, dTB_ev, tbK_bl, dAnd, dOr, dNot, dBV, dIf, dChain_ev, chK_bl, daNil, daCons, dTup, dLst, dIx, doNone, doSome, dSl, dFn, diVal, diRng, dCall, dRet, dRetN, dExpr, dIfS_ev, dAsg, gSet, gUn, gsNil, gsCons, itemsOf, dNext, dBreak, dCont, dRaise, dxC, dxE, dTold_ev, toldR_ok, toldR_exn, toldR_ite, dMeth, dFld, List.lookup, dSetF, putN, dPar, dPar3, vNeg, vSub_int, vAdd_int, vEq_int, vNe_int, vLt_int, vGt_int, vLe_int, vGe_int, vIx_lst, vIx_tup, atI_int, vSl_tup, vSl_lst, cutL_toI, cutL_fromI, cutL_midI, cutL_all, oLen, seqOf, oInt, oAbs, oMax2, oMin2, oTuple, oList, vIsN_non, vIsN_str, vIsN_int, vIsN_tup, vIsN_lst, dBm, tStr, tTup, tLst, dCat, lstOf, dListO, dLstO, dBmW, dTupRev, walkOf]
    · intro c hcc
      have := fun G => law_key' G (hc c hcc)
      exact ⟨_, rfl, by simp [seqR_nx, seqR_rt, seqR_ct, seqR_bk, seqR_ex, seqR_ite, runF_ev, resR_nx, resR_rt, resR_ex, resR_ite, startE, wp_nxK, wp_rtK, wp_ctK, wp_bkK, wp_exK, wp_nxP, wp_rtP, wp_ite, R.bind_ok, R.bind_exn, sb_ok, sb_exn, opt_some, opt_ite, bind_ite, sb_ite, dC, dVar, dPk, Fv.toVl, dBin, dUn, dTest, vTru, dTB_ev, tbK_bl, dAnd, dOr, dNot, dBV, dIf, dChain_ev, chK_bl, daNil, daCons, dTup, dLst, dIx, doNone, doSome, dSl, dFn, diVal, diRng, dCall, dRet, dRetN, dExpr, dIfS_ev, dAsg, gSet, gUn, gsNil, gsCons, itemsOf, dNext, dBreak, dCont, dRaise, dxC, dxE, dTold_ev, toldR_ok, toldR_exn, toldR_ite, dMeth, dFld, List.lookup, dSetF, putN, dPar, dPar3, vNeg, vSub_int, vAdd_int, vEq_int, vNe_int, vLt_int, vGt_int, vLe_int, vGe_int, vIx_lst, vIx_tup, atI_int, vSl_tup, vSl_lst, cutL_toI, cutL_fromI, cutL_midI, cutL_all, oLen, seqOf, oInt, oAbs, oMax2, oMin2, oTuple, oList, vIsN_non, vIsN_str, vIsN_int, vIsN_tup, vIsN_lst, dBm, tStr, tTup, tLst, dCat, lstOf, dListO, dLstO, dBmW, dTupRev, wipeE, this]⟩
    · omega
    subst hX2
    simp only [R.bind_ok]
    rw [vNe_same (by simp only [gd_lst]; exact gds_map _ _ _ fun _ => rfl)]
    simp only [seqR_nx, seqR_rt, seqR_ct, seqR_bk, seqR_ex, seqR_ite, runF_ev, resR_nx, resR_rt, resR_ex, resR_ite, startE, wp_nxK, wp_rtK, wp_ctK, wp_bkK, wp_exK, wp_nxP, wp_rtP, wp_ite, R.bind_ok, R.bind_exn, sb_ok, sb_exn, opt_some, opt_ite, bind_ite, sb_ite, dC, dVar, dPk, Fv.toVl, dBin, dUn, dTest, vTru, dTB_ev, tbK_bl, dAnd, dOr, dNot, dBV, dIf, dChain_ev, chK_bl, daNil, daCons, dTup, dLst, dIx, doNone, doSome, dSl, dFn, diVal, diRng, dCall, dRet, dRetN, dExpr, dIfS_ev, dAsg, gSet, gUn, gsNil, gsCons, itemsOf, dNext, dBreak, dCont, dRaise, dxC, dxE, dTold_ev, toldR_ok, toldR_exn, toldR_ite, dMeth, dFld, List.lookup, dSetF, putN, dPar, dPar3, vNeg, vSub_int, vAdd_int, vEq_int, vNe_int, vLt_int, vGt_int, vLe_int, vGe_int, vIx_lst, vIx_tup, atI_int, vSl_tup, vSl_lst, cutL_toI, cutL_fromI, cutL_midI, cutL_all, oLen, seqOf, oInt, oAbs, oMax2, oMin2, oTuple, oList, vIsN_non, vIsN_str, vIsN_int, vIsN_tup, vIsN_lst, dBm, tStr, tTup, tLst, dCat, lstOf, dListO, dLstO, dBmW, dTupRev, Bool.false_eq_true, if_false]
    generalize hX3 : C3__law_rest2 _ _ = X3
    unfold C3__law_rest2 at hX3
    rw [dLc_map cards Vl.str Vl.str (G1 := [dO d1])] at hX3
    rotate_left
    · simp [seqR_nx, seqR_rt, seqR_ct, seqR_bk, seqR_ex, seqR_ite, runF_ev, resR_nx, resR_rt, resR_ex, resR_ite, startE, wp_nxK, wp_rtK, wp_ctK, wp_bkK, wp_exK, wp_nxP, wp_rtP, wp_ite, R.bind_ok, R.bind_exn, sb_ok, sb_exn, opt_some, opt_ite, bind_ite, sb_ite, dC, dVar, dPk, Fv.toVl, dBin, dUn, dTest, vTru, dTB_ev, tbK_bl, dAnd, dOr, dNot, dBV, dIf, dChain_ev, chK_bl, daNil, daCons, dTup, dLst, dIx, doNone, doSome, dSl, dFn, diVal, diRng, dCall, dRet, dRetN, dExpr, dIfS_ev, dAsg, gSet, gUn, gsNil, gsCons, itemsOf, dNext, dBreak, dCont, dRaise, dxC, dxE, dTold_ev, toldR_ok, toldR_exn, toldR_ite, dMeth, dFld, List.lookup, dSetF, putN, dPar, dPar3, vNeg, vSub_int, vAdd_int, vEq_int, vNe_int, vLt_int, vGt_int, vLe_int, vGe_int, vIx_lst, vIx_tup, atI_int, vSl_tup, vSl_lst, cutL_toI, cutL_fromI, cutL_midI, cutL_all, oLen, seqOf, oInt, oAbs, oMax2, oMin2, oTuple, oList, vIsN_non, vIsN_str, vIsN_int, vIsN_tup, vIsN_lst, dBm, tStr, tTup, tLst, dCat, lstOf, dListO, dLstO, dBmW, dTupRev, walkOf]
    · intro c hcc
      obtain ⟨x, hx, y, hy, rfl⟩ := hc c hcc
      have e1 := fun G => rank_of G hx hy
      have e2 := fun G => suit_of G hx hy
      have e3 := fun G => card_of G hx hy
      exact ⟨_, rfl, by simp [seqR_nx, seqR_rt, seqR_ct, seqR_bk, seqR_ex, seqR_ite, runF_ev, resR_nx, resR_rt, resR_ex, resR_ite, startE, wp_nxK, wp_rtK, wp_ctK, wp_bkK, wp_exK, wp_nxP, wp_rtP, wp_ite, R.bind_ok, R.bind_exn, sb_ok, sb_exn, opt_some, opt_ite, bind_ite, sb_ite, dC, dVar, dPk, Fv.toVl, dBin, dUn, dTest, vTru, dTB_ev, tbK_bl, dAnd, dOr, dNot, dBV, dIf, dChain_ev, chK_bl, daNil, daCons, dTup, dLst, dIx, doNone, doSome, dSl, dFn, diVal, diRng, dCall, dRet, dRetN, dExpr, dIfS_ev, dAsg, gSet, gUn, gsNil, gsCons, itemsOf, dNext, dBreak, dCont, dRaise, dxC, dxE, dTold_ev, toldR_ok, toldR_exn, toldR_ite, dMeth, dFld, List.lookup, dSetF, putN, dPar, dPar3, vNeg, vSub_int, vAdd_int, vEq_int, vNe_int, vLt_int, vGt_int, vLe_int, vGe_int, vIx_lst, vIx_tup, atI_int, vSl_tup, vSl_lst, cutL_toI, cutL_fromI, cutL_midI, cutL_all, oLen, seqOf, oInt, oAbs, oMax2, oMin2, oTuple, oList, vIsN_non, vIsN_str, vIsN_int, vIsN_tup, vIsN_lst, dBm, tStr, tTup, tLst, dCat, lstOf, dListO, dLstO, dBmW, dTupRev, wipeE, e1, e2, e3]⟩
    · omega
    subst hX3
    simp only [R.bind_ok, List.getElem?_cons_succ, List.getElem?_cons_zero]
    rw [vNe_same (by simp [gd_str, gd_int, gd_bl, gd_non, gd_tup, gd_lst, gds_nil, gds_cons, gds_append, gds_str, gds_int, gds_take, gds_drop, gds_ints])]
    rfl
  unfold T1_2__law_rest2
  refine wp_seq ?_
  have hmk := pack_make [dO d1] cards hc hnd (by omega)
  simp at hmk
  simp [seqR_nx, seqR_rt, seqR_ct, seqR_bk, seqR_ex, seqR_ite, runF_ev, resR_nx, resR_rt, resR_ex, resR_ite, startE, wp_nxK, wp_rtK, wp_ctK, wp_bkK, wp_exK, wp_nxP, wp_rtP, wp_ite, R.bind_ok, R.bind_exn, sb_ok, sb_exn, opt_some, opt_ite, bind_ite, sb_ite, dC, dVar, dPk, Fv.toVl, dBin, dUn, dTest, vTru, dTB_ev, tbK_bl, dAnd, dOr, dNot, dBV, dIf, dChain_ev, chK_bl, daNil, daCons, dTup, dLst, dIx, doNone, doSome, dSl, dFn, diVal, diRng, dCall, dRet, dRetN, dExpr, dIfS_ev, dAsg, gSet, gUn, gsNil, gsCons, itemsOf, dNext, dBreak, dCont, dRaise, dxC, dxE, dTold_ev, toldR_ok, toldR_exn, toldR_ite, dMeth, dFld, List.lookup, dSetF, putN, dPar, dPar3, vNeg, vSub_int, vAdd_int, vEq_int, vNe_int, vLt_int, vGt_int, vLe_int, vGe_int, vIx_lst, vIx_tup, atI_int, vSl_tup, vSl_lst, cutL_toI, cutL_fromI, cutL_midI, cutL_all, oLen, seqOf, oInt, oAbs, oMax2, oMin2, oTuple, oList, vIsN_non, vIsN_str, vIsN_int, vIsN_tup, vIsN_lst, dBm, tStr, tTup, tLst, dCat, lstOf, dListO, dLstO, dBmW, dTupRev, dMake, hmk]
  unfold T1_3__law_rest2
  refine wp_seq ?_
  have hn11 := rv_lt (m := 11) d1 (by decide)
  simp [seqR_nx, seqR_rt, seqR_ct, seqR_bk, seqR_ex, seqR_ite, runF_ev, resR_nx, resR_rt, resR_ex, resR_ite, startE, wp_nxK, wp_rtK, wp_ctK, wp_bkK, wp_exK, wp_nxP, wp_rtP, wp_ite, R.bind_ok, R.bind_exn, sb_ok, sb_exn, opt_some, opt_ite, bind_ite, sb_ite, dC, dVar, dPk, Fv.toVl, dBin, dUn, dTest, vTru, dTB_ev, tbK_bl, dAnd, dOr, dNot, dBV, dIf, dChain_ev, chK_bl, daNil, daCons, dTup, dLst, dIx, doNone, doSome, dSl, dFn, diVal, diRng, dCall, dRet, dRetN, dExpr, dIfS_ev, dAsg, gSet, gUn, gsNil, gsCons, itemsOf, dNext, dBreak, dCont, dRaise, dxC, dxE, dTold_ev, toldR_ok, toldR_exn, toldR_ite, dMeth, dFld, List.lookup, dSetF, putN, dPar, dPar3, vNeg, vSub_int, vAdd_int, vEq_int, vNe_int, vLt_int, vGt_int, vLe_int, vGe_int, vIx_lst, vIx_tup, atI_int, vSl_tup, vSl_lst, cutL_toI, cutL_fromI, cutL_midI, cutL_all, oLen, seqOf, oInt, oAbs, oMax2, oMin2, oTuple, oList, vIsN_non, vIsN_str, vIsN_int, vIsN_tup, vIsN_lst, dBm, tStr, tTup, tLst, dCat, lstOf, dListO, dLstO, dBmW, dTupRev, roll0, dFor, rng1_nat _ (show rv 11 d1 < 4611686018427387904 by omega)]
  obtain ⟨I, hI⟩ : ∃ I : Nat → LEnv → Gst → Prop, ∀ k e G, I k e G ↔ ∃ (d : D3) (rows : List Str) (z4 z7 z8 z9 z10 z11 z12 z13 : Option Fv), e = [some (.val (.ref 0)), some (.val (.int r)), some (.val (.lst ((deckR r).map .str))), some (.val (.lst (cards.map .str))), z4, some (.val (.lst (rows.map .str))), some (.val (.ref 1)), z7, z8, z9, z10, z11, z12, z13] ∧ G = [dO d, packO rows] ∧ rows.Nodup ∧ (∀ c ∈ rows, isCd c) ∧ rows.length ≤ 9 + k := ⟨_, fun _ _ _ => Iff.rfl⟩
  refine wp_forN I ((hI _ _ _).mpr ⟨rd 11 d1, cards, _, _, _, _, _, _, _, _, rfl, rfl, hnd, hc, by omega⟩) ?_ ?_
  · intro k x hx e G hIk
    have hk : k < 11 := by
      have := (List.getElem?_eq_some_iff.mp hx).1
      rw [rgL_length] at this
      omega
    obtain ⟨d, rows, z4, z7, z8, z9, z10, z11, z12, z13, rfl, rfl, hnd, hcd, hlen⟩ := (hI _ _ _).mp hIk
    unfold T3_0__law_rest2
    refine wp_seq ?_
    obtain ⟨card, d5, hcard, hcd5⟩ := card1 (rd 5 (rd 7 d)) [packO rows] 3 (by decide) (by decide)
    have hcard : M__law_cards [.ref 0, .int 1, .int 3] [dO (rd 5 (rd 7 d)), packO rows] = .ok (.lst [.str card]) [dO d5, packO rows] := hcard
    have hcc := deckR_cd hcd5
    simp [seqR_nx, seqR_rt, seqR_ct, seqR_bk, seqR_ex, seqR_ite, runF_ev, resR_nx, resR_rt, resR_ex, resR_ite, startE, wp_nxK, wp_rtK, wp_ctK, wp_bkK, wp_exK, wp_nxP, wp_rtP, wp_ite, R.bind_ok, R.bind_exn, sb_ok, sb_exn, opt_some, opt_ite, bind_ite, sb_ite, dC, dVar, dPk, Fv.toVl, dBin, dUn, dTest, vTru, dTB_ev, tbK_bl, dAnd, dOr, dNot, dBV, dIf, dChain_ev, chK_bl, daNil, daCons, dTup, dLst, dIx, doNone, doSome, dSl, dFn, diVal, diRng, dCall, dRet, dRetN, dExpr, dIfS_ev, dAsg, gSet, gUn, gsNil, gsCons, itemsOf, dNext, dBreak, dCont, dRaise, dxC, dxE, dTold_ev, toldR_ok, toldR_exn, toldR_ite, dMeth, dFld, List.lookup, dSetF, putN, dPar, dPar3, vNeg, vSub_int, vAdd_int, vEq_int, vNe_int, vLt_int, vGt_int, vLe_int, vGe_int, vIx_lst, vIx_tup, atI_int, vSl_tup, vSl_lst, cutL_toI, cutL_fromI, cutL_midI, cutL_all, oLen, seqOf, oInt, oAbs, oMax2, oMin2, oTuple, oList, vIsN_non, vIsN_str, vIsN_int, vIsN_tup, vIsN_lst, dBm, tStr, tTup, tLst, dCat, lstOf, dListO, dLstO, dBmW, dTupRev, roll0, hcard]
    clear hcard
    have h_many := rv_lt (m := 5) (rd 7 d) (by decide)
    generalize rv 5 (rd 7 d) = many at h_many ⊢
    generalize rd 5 (rd 7 d) = d6
    have h_sort := rv_lt (m := 7) d (by decide)
    generalize rv 7 d = sort at h_sort ⊢
    generalize rd 7 d = d7
    have hshw := fun rows => pack_shown [dO d5, packO rows] 1 rows rfl
    have h0 : vNe (.lst (rows.map .str)) (.lst []) = some (.bl (!rows.isEmpty)) := by rw [vNe_lst0 gds_str, isEmpty_map]
    unfold T3_1__law_rest2
    refine wp_seq ?_
    by_cases hs0 : sort = 0
    · have hs0' : (sort : Int) = 0 := by omega
      refine wp_ifT (G1 := [dO d5, packO rows]) (by simp [seqR_nx, seqR_rt, seqR_ct, seqR_bk, seqR_ex, seqR_ite, runF_ev, resR_nx, resR_rt, resR_ex, resR_ite, startE, wp_nxK, wp_rtK, wp_ctK, wp_bkK, wp_exK, wp_nxP, wp_rtP, wp_ite, R.bind_ok, R.bind_exn, sb_ok, sb_exn, opt_some, opt_ite, bind_ite, sb_ite, dC, dVar, dPk, Fv.toVl, dBin, dUn, dTest, vTru, dTB_ev, tbK_bl, dAnd, dOr, dNot, dBV, dIf, dChain_ev, chK_bl, daNil, daCons, dTup, dLst, dIx, doNone, doSome, dSl, dFn, diVal, diRng, dCall, dRet, dRetN, dExpr, dIfS_ev, dAsg, gSet, gUn, gsNil, gsCons, itemsOf, dNext, dBreak, dCont, dRaise, dxC, dxE, dTold_ev, toldR_ok, toldR_exn, toldR_ite, dMeth, dFld, List.lookup, dSetF, putN, dPar, dPar3, vNeg, vSub_int, vAdd_int, vEq_int, vNe_int, vLt_int, vGt_int, vLe_int, vGe_int, vIx_lst, vIx_tup, atI_int, vSl_tup, vSl_lst, cutL_toI, cutL_fromI, cutL_midI, cutL_all, oLen, seqOf, oInt, oAbs, oMax2, oMin2, oTuple, oList, vIsN_non, vIsN_str, vIsN_int, vIsN_tup, vIsN_lst, dBm, tStr, tTup, tLst, dCat, lstOf, dListO, dLstO, dBmW, dTupRev, hs0']) ?_
      have hdr := pack_draw [dO d5, packO rows] 1 rows many rfl
      by_cases hm : many ≤ rows.length
      · rw [if_pos hm] at hdr
        have hshw := hshw (rows.drop many)
        simp only [List.set_cons_succ, List.set_cons_zero, List.map_take, List.map_drop, packO] at hdr hshw
        simp (disch := first | assumption | (simp [gd_str, gd_int, gd_bl, gd_non, gd_tup, gd_lst, gds_nil, gds_cons, gds_append, gds_str, gds_int, gds_take, gds_drop, gds_ints]; done) | (simp only [List.length_append, List.length_take, List.length_drop, List.length_map, List.length_cons, List.length_nil, List.length_range] <;> omega) | omega) [hm, wp_seqE, seqR_nx, seqR_rt, seqR_ct, seqR_bk, seqR_ex, seqR_ite, runF_ev, resR_nx, resR_rt, resR_ex, resR_ite, startE, wp_nxK, wp_rtK, wp_ctK, wp_bkK, wp_exK, wp_nxP, wp_rtP, wp_ite, R.bind_ok, R.bind_exn, sb_ok, sb_exn, opt_some, opt_ite, bind_ite, sb_ite, dC, dVar, dPk, Fv.toVl, dBin, dUn, dTest, vTru, dTB_ev, tbK_bl, dAnd, dOr, dNot, dBV, dIf, dChain_ev, chK_bl, daNil, daCons, dTup, dLst, dIx, doNone, doSome, dSl, dFn, diVal, diRng, dCall, dRet, dRetN, dExpr, dIfS_ev, dAsg, gSet, gUn, gsNil, gsCons, itemsOf, dNext, dBreak, dCont, dRaise, dxC, dxE, dTold_ev, toldR_ok, toldR_exn, toldR_ite, dMeth, dFld, List.lookup, dSetF, putN, dPar, dPar3, vNeg, vSub_int, vAdd_int, vEq_int, vNe_int, vLt_int, vGt_int, vLe_int, vGe_int, vIx_lst, vIx_tup, atI_int, vSl_tup, vSl_lst, cutL_toI, cutL_fromI, cutL_midI, cutL_all, oLen, seqOf, oInt, oAbs, oMax2, oMin2, oTuple, oList, vIsN_non, vIsN_str, vIsN_int, vIsN_tup, vIsN_lst, dBm, tStr, tTup, tLst, dCat, lstOf, dListO, dLstO, dBmW, dTupRev, hdr, vNe_same, gd_str, gd_int, gd_bl, gd_non, gd_tup, gd_lst, gds_nil, gds_cons, gds_append, gds_str, gds_int, gds_take, gds_drop, gds_ints, T4_1__law_rest2, T3_2__law_rest2, hshw, packO]
        exact (hI _ _ _).mpr ⟨d5, rows.drop many, _, _, _, _, _, _, _, _, by simp only [List.map_drop]; rfl, by simp only [packO, List.map_drop], hnd.sublist (List.drop_sublist _ _), fun c h => hcd c (List.mem_of_mem_drop h), by simp; omega⟩
      · rw [if_neg hm] at hdr
        simp (disch := first | assumption | (simp [gd_str, gd_int, gd_bl, gd_non, gd_tup, gd_lst, gds_nil, gds_cons, gds_append, gds_str, gds_int, gds_take, gds_drop, gds_ints]; done) | (simp only [List.length_append, List.length_take, List.length_drop, List.length_map, List.length_cons, List.length_nil, List.length_range] <;> omega) | omega) [hm, wp_seqE, seqR_nx, seqR_rt, seqR_ct, seqR_bk, seqR_ex, seqR_ite, runF_ev, resR_nx, resR_rt, resR_ex, resR_ite, startE, wp_nxK, wp_rtK, wp_ctK, wp_bkK, wp_exK, wp_nxP, wp_rtP, wp_ite, R.bind_ok, R.bind_exn, sb_ok, sb_exn, opt_some, opt_ite, bind_ite, sb_ite, dC, dVar, dPk, Fv.toVl, dBin, dUn, dTest, vTru, dTB_ev, tbK_bl, dAnd, dOr, dNot, dBV, dIf, dChain_ev, chK_bl, daNil, daCons, dTup, dLst, dIx, doNone, doSome, dSl, dFn, diVal, diRng, dCall, dRet, dRetN, dExpr, dIfS_ev, dAsg, gSet, gUn, gsNil, gsCons, itemsOf, dNext, dBreak, dCont, dRaise, dxC, dxE, dTold_ev, toldR_ok, toldR_exn, toldR_ite, dMeth, dFld, List.lookup, dSetF, putN, dPar, dPar3, vNeg, vSub_int, vAdd_int, vEq_int, vNe_int, vLt_int, vGt_int, vLe_int, vGe_int, vIx_lst, vIx_tup, atI_int, vSl_tup, vSl_lst, cutL_toI, cutL_fromI, cutL_midI, cutL_all, oLen, seqOf, oInt, oAbs, oMax2, oMin2, oTuple, oList, vIsN_non, vIsN_str, vIsN_int, vIsN_tup, vIsN_lst, dBm, tStr, tTup, tLst, dCat, lstOf, dListO, dLstO, dBmW, dTupRev, hdr, vNe_same, gd_str, gd_int, gd_bl, gd_non, gd_tup, gd_lst, gds_nil, gds_cons, gds_append, gds_str, gds_int, gds_take, gds_drop, gds_ints, T4_1__law_rest2, T3_2__law_rest2, hshw, tf1]
        exact (hI _ _ _).mpr ⟨d5, rows, _, _, _, _, _, _, _, _, rfl, rfl, hnd, hcd, by omega⟩
    · have hs0' : ¬ (sort : Int) = 0 := by omega
      refine wp_ifF (G1 := [dO d5, packO rows]) (by simp [seqR_nx, seqR_rt, seqR_ct, seqR_bk, seqR_ex, seqR_ite, runF_ev, resR_nx, resR_rt, resR_ex, resR_ite, startE, wp_nxK, wp_rtK, wp_ctK, wp_bkK, wp_exK, wp_nxP, wp_rtP, wp_ite, R.bind_ok, R.bind_exn, sb_ok, sb_exn, opt_some, opt_ite, bind_ite, sb_ite, dC, dVar, dPk, Fv.toVl, dBin, dUn, dTest, vTru, dTB_ev, tbK_bl, dAnd, dOr, dNot, dBV, dIf, dChain_ev, chK_bl, daNil, daCons, dTup, dLst, dIx, doNone, doSome, dSl, dFn, diVal, diRng, dCall, dRet, dRetN, dExpr, dIfS_ev, dAsg, gSet, gUn, gsNil, gsCons, itemsOf, dNext, dBreak, dCont, dRaise, dxC, dxE, dTold_ev, toldR_ok, toldR_exn, toldR_ite, dMeth, dFld, List.lookup, dSetF, putN, dPar, dPar3, vNeg, vSub_int, vAdd_int, vEq_int, vNe_int, vLt_int, vGt_int, vLe_int, vGe_int, vIx_lst, vIx_tup, atI_int, vSl_tup, vSl_lst, cutL_toI, cutL_fromI, cutL_midI, cutL_all, oLen, seqOf, oInt, oAbs, oMax2, oMin2, oTuple, oList, vIsN_non, vIsN_str, vIsN_int, vIsN_tup, vIsN_lst, dBm, tStr, tTup, tLst, dCat, lstOf, dListO, dLstO, dBmW, dTupRev, hs0, hs0']) ?_
      by_cases hs1 : sort = 1
      · have hs1' : (sort : Int) = 1 := by omega
        refine wp_ifT (G1 := [dO d5, packO rows]) (by simp [seqR_nx, seqR_rt, seqR_ct, seqR_bk, seqR_ex, seqR_ite, runF_ev, resR_nx, resR_rt, resR_ex, resR_ite, startE, wp_nxK, wp_rtK, wp_ctK, wp_bkK, wp_exK, wp_nxP, wp_rtP, wp_ite, R.bind_ok, R.bind_exn, sb_ok, sb_exn, opt_some, opt_ite, bind_ite, sb_ite, dC, dVar, dPk, Fv.toVl, dBin, dUn, dTest, vTru, dTB_ev, tbK_bl, dAnd, dOr, dNot, dBV, dIf, dChain_ev, chK_bl, daNil, daCons, dTup, dLst, dIx, doNone, doSome, dSl, dFn, diVal, diRng, dCall, dRet, dRetN, dExpr, dIfS_ev, dAsg, gSet, gUn, gsNil, gsCons, itemsOf, dNext, dBreak, dCont, dRaise, dxC, dxE, dTold_ev, toldR_ok, toldR_exn, toldR_ite, dMeth, dFld, List.lookup, dSetF, putN, dPar, dPar3, vNeg, vSub_int, vAdd_int, vEq_int, vNe_int, vLt_int, vGt_int, vLe_int, vGe_int, vIx_lst, vIx_tup, atI_int, vSl_tup, vSl_lst, cutL_toI, cutL_fromI, cutL_midI, cutL_all, oLen, seqOf, oInt, oAbs, oMax2, oMin2, oTuple, oList, vIsN_non, vIsN_str, vIsN_int, vIsN_tup, vIsN_lst, dBm, tStr, tTup, tLst, dCat, lstOf, dListO, dLstO, dBmW, dTupRev, hs1']) ?_
        have hbo := pack_bottom [dO d5, packO rows] 1 rows rfl
        by_cases hr : rows = []
        · subst hr
          simp at hbo
          simp (disch := first | assumption | (simp [gd_str, gd_int, gd_bl, gd_non, gd_tup, gd_lst, gds_nil, gds_cons, gds_append, gds_str, gds_int, gds_take, gds_drop, gds_ints]; done) | (simp only [List.length_append, List.length_take, List.length_drop, List.length_map, List.length_cons, List.length_nil, List.length_range] <;> omega) | omega) [wp_seqE, seqR_nx, seqR_rt, seqR_ct, seqR_bk, seqR_ex, seqR_ite, runF_ev, resR_nx, resR_rt, resR_ex, resR_ite, startE, wp_nxK, wp_rtK, wp_ctK, wp_bkK, wp_exK, wp_nxP, wp_rtP, wp_ite, R.bind_ok, R.bind_exn, sb_ok, sb_exn, opt_some, opt_ite, bind_ite, sb_ite, dC, dVar, dPk, Fv.toVl, dBin, dUn, dTest, vTru, dTB_ev, tbK_bl, dAnd, dOr, dNot, dBV, dIf, dChain_ev, chK_bl, daNil, daCons, dTup, dLst, dIx, doNone, doSome, dSl, dFn, diVal, diRng, dCall, dRet, dRetN, dExpr, dIfS_ev, dAsg, gSet, gUn, gsNil, gsCons, itemsOf, dNext, dBreak, dCont, dRaise, dxC, dxE, dTold_ev, toldR_ok, toldR_exn, toldR_ite, dMeth, dFld, List.lookup, dSetF, putN, dPar, dPar3, vNeg, vSub_int, vAdd_int, vEq_int, vNe_int, vLt_int, vGt_int, vLe_int, vGe_int, vIx_lst, vIx_tup, atI_int, vSl_tup, vSl_lst, cutL_toI, cutL_fromI, cutL_midI, cutL_all, oLen, seqOf, oInt, oAbs, oMax2, oMin2, oTuple, oList, vIsN_non, vIsN_str, vIsN_int, vIsN_tup, vIsN_lst, dBm, tStr, tTup, tLst, dCat, lstOf, dListO, dLstO, dBmW, dTupRev, hbo, vNe_same, vNe_lst0, gd_str, gd_int, gd_bl, gd_non, gd_tup, gd_lst, gds_nil, gds_cons, gds_append, gds_str, gds_int, gds_take, gds_drop, gds_ints, T6_1__law_rest2, T3_2__law_rest2, hshw, tf1]
          exact (hI _ _ _).mpr ⟨d5, [], _, _, _, _, _, _, _, _, rfl, rfl, hnd, hcd, by omega⟩
        · rw [dif_neg hr] at hbo
          have hpos : 0 < rows.length := List.length_pos_iff.mpr hr
          have hre : rows.isEmpty = false := by cases rows with | nil => exact absurd rfl hr | cons _ _ => rfl
          have hat : atI (rows.map Vl.str) ((rows.length : Int) - 1) = some (.str (rows.getLast hr)) := by
            rw [show (rows.length : Int) - 1 = ((rows.length - 1 : Nat) : Int) by omega, atI_nat, List.getElem?_map, List.getLast_eq_getElem, List.getElem?_eq_getElem (by omega)]; rfl
          have hcut : cutL (rows.map Vl.str) none (some (if (1 : Int) < (rows.length : Int) then (rows.length : Int) - 1 else 0)) = (rows.take (rows.length - 1)).map .str := by
            rw [show (if (1 : Int) < (rows.length : Int) then (rows.length : Int) - 1 else 0) = ((rows.length - 1 : Nat) : Int) by split <;> omega, cutL_to]
            simp
          rw [hre] at h0
          have hshw := hshw (rows.take (rows.length - 1))
          have hnd' := hnd.sublist (List.take_sublist (rows.length - 1) rows)
          have hcd' : ∀ c ∈ rows.take (rows.length - 1), isCd c := fun c h => hcd c (List.mem_of_mem_take h)
          have hln' : (rows.take (rows.length - 1)).length ≤ 9 + (k + 1) := by simp; omega
          simp only [List.set_cons_succ, List.set_cons_zero] at hbo
          generalize rows.getLast hr = c at hbo hat
          generalize rows.take (rows.length - 1) = rows' at hbo hshw hcut hnd' hcd' hln'
          simp [wp_seqE, seqR_nx, seqR_rt, seqR_ct, seqR_bk, seqR_ex, seqR_ite, runF_ev, resR_nx, resR_rt, resR_ex, resR_ite, startE, wp_nxK, wp_rtK, wp_ctK, wp_bkK, wp_exK, wp_nxP, wp_rtP, wp_ite, R.bind_ok, R.bind_exn, sb_ok, sb_exn, opt_some, opt_ite, bind_ite, sb_ite, dC, dVar, dPk, Fv.toVl, dBin, dUn, dTest, vTru, dTB_ev, tbK_bl, dAnd, dOr, dNot, dBV, dIf, dChain_ev, chK_bl, daNil, daCons, dTup, dLst, dIx, doNone, doSome, dSl, dFn, diVal, diRng, dCall, dRet, dRetN, dExpr, dIfS_ev, dAsg, gSet, gUn, gsNil, gsCons, itemsOf, dNext, dBreak, dCont, dRaise, dxC, dxE, dTold_ev, toldR_ok, toldR_exn, toldR_ite, dMeth, dFld, List.lookup, dSetF, putN, dPar, dPar3, vNeg, vSub_int, vAdd_int, vEq_int, vNe_int, vLt_int, vGt_int, vLe_int, vGe_int, vIx_lst, vIx_tup, atI_int, vSl_tup, vSl_lst, cutL_toI, cutL_fromI, cutL_midI, cutL_all, oLen, seqOf, oInt, oAbs, oMax2, oMin2, oTuple, oList, vIsN_non, vIsN_str, vIsN_int, vIsN_tup, vIsN_lst, dBm, tStr, tTup, tLst, dCat, lstOf, dListO, dLstO, dBmW, dTupRev, hbo, hat, hcut, h0, vNe_same, gd_str, gd_int, gd_bl, gd_non, gd_tup, gd_lst, gds_nil, gds_cons, gds_append, gds_str, gds_int, gds_take, gds_drop, gds_ints, T6_1__law_rest2, T3_2__law_rest2, hshw, -atI_int, -cutL_toI]
          exact (hI _ _ _).mpr ⟨d5, rows', _, _, _, _, _, _, _, _, rfl, rfl, hnd', hcd', hln'⟩
      · have hs1' : ¬ (sort : Int) = 1 := by omega
        refine wp_ifF (G1 := [dO d5, packO rows]) (by simp [seqR_nx, seqR_rt, seqR_ct, seqR_bk, seqR_ex, seqR_ite, runF_ev, resR_nx, resR_rt, resR_ex, resR_ite, startE, wp_nxK, wp_rtK, wp_ctK, wp_bkK, wp_exK, wp_nxP, wp_rtP, wp_ite, R.bind_ok, R.bind_exn, sb_ok, sb_exn, opt_some, opt_ite, bind_ite, sb_ite, dC, dVar, dPk, Fv.toVl, dBin, dUn, dTest, vTru, dTB_ev, tbK_bl, dAnd, dOr, dNot, dBV, dIf, dChain_ev, chK_bl, daNil, daCons, dTup, dLst, dIx, doNone, doSome, dSl, dFn, diVal, diRng, dCall, dRet, dRetN, dExpr, dIfS_ev, dAsg, gSet, gUn, gsNil, gsCons, itemsOf, dNext, dBreak, dCont, dRaise, dxC, dxE, dTold_ev, toldR_ok, toldR_exn, toldR_ite, dMeth, dFld, List.lookup, dSetF, putN, dPar, dPar3, vNeg, vSub_int, vAdd_int, vEq_int, vNe_int, vLt_int, vGt_int, vLe_int, vGe_int, vIx_lst, vIx_tup, atI_int, vSl_tup, vSl_lst, cutL_toI, cutL_fromI, cutL_midI, cutL_all, oLen, seqOf, oInt, oAbs, oMax2, oMin2, oTuple, oList, vIsN_non, vIsN_str, vIsN_int, vIsN_tup, vIsN_lst, dBm, tStr, tTup, tLst, dCat, lstOf, dListO, dLstO, dBmW, dTupRev, hs1, hs1']) ?_
        by_cases hs3 : sort < 4
        · have hs3' : (sort : Int) < 4 := by omega
          refine wp_ifT (G1 := [dO d5, packO rows]) (by simp [seqR_nx, seqR_rt, seqR_ct, seqR_bk, seqR_ex, seqR_ite, runF_ev, resR_nx, resR_rt, resR_ex, resR_ite, startE, wp_nxK, wp_rtK, wp_ctK, wp_bkK, wp_exK, wp_nxP, wp_rtP, wp_ite, R.bind_ok, R.bind_exn, sb_ok, sb_exn, opt_some, opt_ite, bind_ite, sb_ite, dC, dVar, dPk, Fv.toVl, dBin, dUn, dTest, vTru, dTB_ev, tbK_bl, dAnd, dOr, dNot, dBV, dIf, dChain_ev, chK_bl, daNil, daCons, dTup, dLst, dIx, doNone, doSome, dSl, dFn, diVal, diRng, dCall, dRet, dRetN, dExpr, dIfS_ev, dAsg, gSet, gUn, gsNil, gsCons, itemsOf, dNext, dBreak, dCont, dRaise, dxC, dxE, dTold_ev, toldR_ok, toldR_exn, toldR_ite, dMeth, dFld, List.lookup, dSetF, putN, dPar, dPar3, vNeg, vSub_int, vAdd_int, vEq_int, vNe_int, vLt_int, vGt_int, vLe_int, vGe_int, vIx_lst, vIx_tup, atI_int, vSl_tup, vSl_lst, cutL_toI, cutL_fromI, cutL_midI, cutL_all, oLen, seqOf, oInt, oAbs, oMax2, oMin2, oTuple, oList, vIsN_non, vIsN_str, vIsN_int, vIsN_tup, vIsN_lst, dBm, tStr, tTup, tLst, dCat, lstOf, dListO, dLstO, dBmW, dTupRev, hs3']) ?_
          have hun := pack_under [dO d5, packO rows] 1 rows card rfl hcd hnd (by omega) hcc
          have hon := pack_on [dO d5, packO rows] 1 rows card rfl hcd hnd (by omega) hcc
          by_cases hin : card ∈ rows
          · rw [if_pos hin] at hun hon
            by_cases hs2 : sort = 2
            · have hs2' : (sort : Int) = 2 := by omega
              simp (disch := first | assumption | (simp [gd_str, gd_int, gd_bl, gd_non, gd_tup, gd_lst, gds_nil, gds_cons, gds_append, gds_str, gds_int, gds_take, gds_drop, gds_ints]; done) | (simp only [List.length_append, List.length_take, List.length_drop, List.length_map, List.length_cons, List.length_nil, List.length_range] <;> omega) | omega) [wp_seqE, seqR_nx, seqR_rt, seqR_ct, seqR_bk, seqR_ex, seqR_ite, runF_ev, resR_nx, resR_rt, resR_ex, resR_ite, startE, wp_nxK, wp_rtK, wp_ctK, wp_bkK, wp_exK, wp_nxP, wp_rtP, wp_ite, R.bind_ok, R.bind_exn, sb_ok, sb_exn, opt_some, opt_ite, bind_ite, sb_ite, dC, dVar, dPk, Fv.toVl, dBin, dUn, dTest, vTru, dTB_ev, tbK_bl, dAnd, dOr, dNot, dBV, dIf, dChain_ev, chK_bl, daNil, daCons, dTup, dLst, dIx, doNone, doSome, dSl, dFn, diVal, diRng, dCall, dRet, dRetN, dExpr, dIfS_ev, dAsg, gSet, gUn, gsNil, gsCons, itemsOf, dNext, dBreak, dCont, dRaise, dxC, dxE, dTold_ev, toldR_ok, toldR_exn, toldR_ite, dMeth, dFld, List.lookup, dSetF, putN, dPar, dPar3, vNeg, vSub_int, vAdd_int, vEq_int, vNe_int, vLt_int, vGt_int, vLe_int, vGe_int, vIx_lst, vIx_tup, atI_int, vSl_tup, vSl_lst, cutL_toI, cutL_fromI, cutL_midI, cutL_all, oLen, seqOf, oInt, oAbs, oMax2, oMin2, oTuple, oList, vIsN_non, vIsN_str, vIsN_int, vIsN_tup, vIsN_lst, dBm, tStr, tTup, tLst, dCat, lstOf, dListO, dLstO, dBmW, dTupRev, hun, hs2', vIn_strsL, hin, vNe_same, vEq_same, gd_str, gd_int, gd_bl, gd_non, gd_tup, gd_lst, gds_nil, gds_cons, gds_append, gds_str, gds_int, gds_take, gds_drop, gds_ints, T8_1__law_rest2, T8_2__law_rest2, T3_2__law_rest2, hshw, tf0]
              exact (hI _ _ _).mpr ⟨d5, rows, _, _, _, _, _, _, _, _, rfl, rfl, hnd, hcd, by omega⟩
            · have hs2' : ¬ (sort : Int) = 2 := by omega
              simp (disch := first | assumption | (simp [gd_str, gd_int, gd_bl, gd_non, gd_tup, gd_lst, gds_nil, gds_cons, gds_append, gds_str, gds_int, gds_take, gds_drop, gds_ints]; done) | (simp only [List.length_append, List.length_take, List.length_drop, List.length_map, List.length_cons, List.length_nil, List.length_range] <;> omega) | omega) [wp_seqE, seqR_nx, seqR_rt, seqR_ct, seqR_bk, seqR_ex, seqR_ite, runF_ev, resR_nx, resR_rt, resR_ex, resR_ite, startE, wp_nxK, wp_rtK, wp_ctK, wp_bkK, wp_exK, wp_nxP, wp_rtP, wp_ite, R.bind_ok, R.bind_exn, sb_ok, sb_exn, opt_some, opt_ite, bind_ite, sb_ite, dC, dVar, dPk, Fv.toVl, dBin, dUn, dTest, vTru, dTB_ev, tbK_bl, dAnd, dOr, dNot, dBV, dIf, dChain_ev, chK_bl, daNil, daCons, dTup, dLst, dIx, doNone, doSome, dSl, dFn, diVal, diRng, dCall, dRet, dRetN, dExpr, dIfS_ev, dAsg, gSet, gUn, gsNil, gsCons, itemsOf, dNext, dBreak, dCont, dRaise, dxC, dxE, dTold_ev, toldR_ok, toldR_exn, toldR_ite, dMeth, dFld, List.lookup, dSetF, putN, dPar, dPar3, vNeg, vSub_int, vAdd_int, vEq_int, vNe_int, vLt_int, vGt_int, vLe_int, vGe_int, vIx_lst, vIx_tup, atI_int, vSl_tup, vSl_lst, cutL_toI, cutL_fromI, cutL_midI, cutL_all, oLen, seqOf, oInt, oAbs, oMax2, oMin2, oTuple, oList, vIsN_non, vIsN_str, vIsN_int, vIsN_tup, vIsN_lst, dBm, tStr, tTup, tLst, dCat, lstOf, dListO, dLstO, dBmW, dTupRev, hon, hs2, hs2', vIn_strsL, hin, vNe_same, vEq_same, gd_str, gd_int, gd_bl, gd_non, gd_tup, gd_lst, gds_nil, gds_cons, gds_append, gds_str, gds_int, gds_take, gds_drop, gds_ints, T8_1__law_rest2, T8_2__law_rest2, T3_2__law_rest2, hshw, tf0]
              exact (hI _ _ _).mpr ⟨d5, rows, _, _, _, _, _, _, _, _, rfl, rfl, hnd, hcd, by omega⟩
          · rw [if_neg hin] at hun hon
            have hnone : vEq .non (.str "card") = some (.bl false) := by kernel_rfl
            by_cases hs2 : sort = 2
            · have hs2' : (sort : Int) = 2 := by omega
              have hshw := hshw (rows ++ [card])
              simp only [List.set_cons_succ, List.set_cons_zero, packO, List.map_append, List.map_cons, List.map_nil] at hun hshw
              simp (disch := first | assumption | (simp [gd_str, gd_int, gd_bl, gd_non, gd_tup, gd_lst, gds_nil, gds_cons, gds_append, gds_str, gds_int, gds_take, gds_drop, gds_ints]; done) | (simp only [List.length_append, List.length_take, List.length_drop, List.length_map, List.length_cons, List.length_nil, List.length_range] <;> omega) | omega) [wp_seqE, seqR_nx, seqR_rt, seqR_ct, seqR_bk, seqR_ex, seqR_ite, runF_ev, resR_nx, resR_rt, resR_ex, resR_ite, startE, wp_nxK, wp_rtK, wp_ctK, wp_bkK, wp_exK, wp_nxP, wp_rtP, wp_ite, R.bind_ok, R.bind_exn, sb_ok, sb_exn, opt_some, opt_ite, bind_ite, sb_ite, dC, dVar, dPk, Fv.toVl, dBin, dUn, dTest, vTru, dTB_ev, tbK_bl, dAnd, dOr, dNot, dBV, dIf, dChain_ev, chK_bl, daNil, daCons, dTup, dLst, dIx, doNone, doSome, dSl, dFn, diVal, diRng, dCall, dRet, dRetN, dExpr, dIfS_ev, dAsg, gSet, gUn, gsNil, gsCons, itemsOf, dNext, dBreak, dCont, dRaise, dxC, dxE, dTold_ev, toldR_ok, toldR_exn, toldR_ite, dMeth, dFld, List.lookup, dSetF, putN, dPar, dPar3, vNeg, vSub_int, vAdd_int, vEq_int, vNe_int, vLt_int, vGt_int, vLe_int, vGe_int, vIx_lst, vIx_tup, atI_int, vSl_tup, vSl_lst, cutL_toI, cutL_fromI, cutL_midI, cutL_all, oLen, seqOf, oInt, oAbs, oMax2, oMin2, oTuple, oList, vIsN_non, vIsN_str, vIsN_int, vIsN_tup, vIsN_lst, dBm, tStr, tTup, tLst, dCat, lstOf, dListO, dLstO, dBmW, dTupRev, hun, hs2', vIn_strsL, hin, vNe_same, hnone, gd_str, gd_int, gd_bl, gd_non, gd_tup, gd_lst, gds_nil, gds_cons, gds_append, gds_str, gds_int, gds_take, gds_drop, gds_ints, vAdd_lst, T8_1__law_rest2, T8_2__law_rest2, T3_2__law_rest2, hshw, packO]
              exact (hI _ _ _).mpr ⟨d5, rows ++ [card], _, _, _, _, _, _, _, _, by simp only [List.map_append, List.map_cons, List.map_nil]; rfl, by simp only [packO, List.map_append, List.map_cons, List.map_nil], nodup_end.mpr ⟨hin, hnd⟩, fun c h => by
                simp only [List.mem_append, List.mem_singleton] at h
                rcases h with h | rfl
                · exact hcd c h
                · exact hcc, by simp; omega⟩
            · have hs2' : ¬ (sort : Int) = 2 := by omega
              have hshw := hshw (card :: rows)
              simp only [List.set_cons_succ, List.set_cons_zero, packO, List.map_append, List.map_cons, List.map_nil] at hon hshw
              simp (disch := first | assumption | (simp [gd_str, gd_int, gd_bl, gd_non, gd_tup, gd_lst, gds_nil, gds_cons, gds_append, gds_str, gds_int, gds_take, gds_drop, gds_ints]; done) | (simp only [List.length_append, List.length_take, List.length_drop, List.length_map, List.length_cons, List.length_nil, List.length_range] <;> omega) | omega) [wp_seqE, seqR_nx, seqR_rt, seqR_ct, seqR_bk, seqR_ex, seqR_ite, runF_ev, resR_nx, resR_rt, resR_ex, resR_ite, startE, wp_nxK, wp_rtK, wp_ctK, wp_bkK, wp_exK, wp_nxP, wp_rtP, wp_ite, R.bind_ok, R.bind_exn, sb_ok, sb_exn, opt_some, opt_ite, bind_ite, sb_ite, dC, dVar, dPk, Fv.toVl, dBin, dUn, dTest, vTru, dTB_ev, tbK_bl, dAnd, dOr, dNot, dBV, dIf, dChain_ev, chK_bl, daNil, daCons, dTup, dLst, dIx, doNone, doSome, dSl, dFn, diVal, diRng, dCall, dRet, dRetN, dExpr, dIfS_ev, dAsg, gSet, gUn, gsNil, gsCons, itemsOf, dNext, dBreak, dCont, dRaise, dxC, dxE, dTold_ev, toldR_ok, toldR_exn, toldR_ite, dMeth, dFld, List.lookup, dSetF, putN, dPar, dPar3, vNeg, vSub_int, vAdd_int, vEq_int, vNe_int, vLt_int, vGt_int, vLe_int, vGe_int, vIx_lst, vIx_tup, atI_int, vSl_tup, vSl_lst, cutL_toI, cutL_fromI, cutL_midI, cutL_all, oLen, seqOf, oInt, oAbs, oMax2, oMin2, oTuple, oList, vIsN_non, vIsN_str, vIsN_int, vIsN_tup, vIsN_lst, dBm, tStr, tTup, tLst, dCat, lstOf, dListO, dLstO, dBmW, dTupRev, hon, hs2, hs2', vIn_strsL, hin, vNe_same, hnone, gd_str, gd_int, gd_bl, gd_non, gd_tup, gd_lst, gds_nil, gds_cons, gds_append, gds_str, gds_int, gds_take, gds_drop, gds_ints, vAdd_lst, T8_1__law_rest2, T8_2__law_rest2, T3_2__law_rest2, hshw, packO]
              exact (hI _ _ _).mpr ⟨d5, card :: rows, _, _, _, _, _, _, _, _, rfl, rfl, List.nodup_cons.mpr ⟨hin, hnd⟩, fun c h => by
                simp only [List.mem_cons] at h
                rcases h with rfl | h
                · exact hcc
                · exact hcd c h, by simp; omega⟩
        · have hs3' : ¬ (sort : Int) < 4 := by omega
          refine wp_ifF (G1 := [dO d5, packO rows]) (by simp [seqR_nx, seqR_rt, seqR_ct, seqR_bk, seqR_ex, seqR_ite, runF_ev, resR_nx, resR_rt, resR_ex, resR_ite, startE, wp_nxK, wp_rtK, wp_ctK, wp_bkK, wp_exK, wp_nxP, wp_rtP, wp_ite, R.bind_ok, R.bind_exn, sb_ok, sb_exn, opt_some, opt_ite, bind_ite, sb_ite, dC, dVar, dPk, Fv.toVl, dBin, dUn, dTest, vTru, dTB_ev, tbK_bl, dAnd, dOr, dNot, dBV, dIf, dChain_ev, chK_bl, daNil, daCons, dTup, dLst, dIx, doNone, doSome, dSl, dFn, diVal, diRng, dCall, dRet, dRetN, dExpr, dIfS_ev, dAsg, gSet, gUn, gsNil, gsCons, itemsOf, dNext, dBreak, dCont, dRaise, dxC, dxE, dTold_ev, toldR_ok, toldR_exn, toldR_ite, dMeth, dFld, List.lookup, dSetF, putN, dPar, dPar3, vNeg, vSub_int, vAdd_int, vEq_int, vNe_int, vLt_int, vGt_int, vLe_int, vGe_int, vIx_lst, vIx_tup, atI_int, vSl_tup, vSl_lst, cutL_toI, cutL_fromI, cutL_midI, cutL_all, oLen, seqOf, oInt, oAbs, oMax2, oMin2, oTuple, oList, vIsN_non, vIsN_str, vIsN_int, vIsN_tup, vIsN_lst, dBm, tStr, tTup, tLst, dCat, lstOf, dListO, dLstO, dBmW, dTupRev, hs3']) ?_
          by_cases hs4 : sort = 4
          · have hs4' : (sort : Int) = 4 := by omega
            refine wp_ifT (G1 := [dO d5, packO rows]) (by simp [seqR_nx, seqR_rt, seqR_ct, seqR_bk, seqR_ex, seqR_ite, runF_ev, resR_nx, resR_rt, resR_ex, resR_ite, startE, wp_nxK, wp_rtK, wp_ctK, wp_bkK, wp_exK, wp_nxP, wp_rtP, wp_ite, R.bind_ok, R.bind_exn, sb_ok, sb_exn, opt_some, opt_ite, bind_ite, sb_ite, dC, dVar, dPk, Fv.toVl, dBin, dUn, dTest, vTru, dTB_ev, tbK_bl, dAnd, dOr, dNot, dBV, dIf, dChain_ev, chK_bl, daNil, daCons, dTup, dLst, dIx, doNone, doSome, dSl, dFn, diVal, diRng, dCall, dRet, dRetN, dExpr, dIfS_ev, dAsg, gSet, gUn, gsNil, gsCons, itemsOf, dNext, dBreak, dCont, dRaise, dxC, dxE, dTold_ev, toldR_ok, toldR_exn, toldR_ite, dMeth, dFld, List.lookup, dSetF, putN, dPar, dPar3, vNeg, vSub_int, vAdd_int, vEq_int, vNe_int, vLt_int, vGt_int, vLe_int, vGe_int, vIx_lst, vIx_tup, atI_int, vSl_tup, vSl_lst, cutL_toI, cutL_fromI, cutL_midI, cutL_all, oLen, seqOf, oInt, oAbs, oMax2, oMin2, oTuple, oList, vIsN_non, vIsN_str, vIsN_int, vIsN_tup, vIsN_lst, dBm, tStr, tTup, tLst, dCat, lstOf, dListO, dLstO, dBmW, dTupRev, hs4']) ?_
            have hcu := pack_cut [dO d5, packO rows] 1 rows many rfl (by omega)
            by_cases hm0 : 0 < many
            · by_cases hm1 : many < rows.length
              · rw [if_pos ⟨hm0, hm1⟩] at hcu
                have hshw := hshw (rows.drop many ++ rows.take many)
                simp only [List.set_cons_succ, List.set_cons_zero, packO, List.map_append, List.map_take, List.map_drop] at hcu hshw
                simp (disch := first | assumption | (simp [gd_str, gd_int, gd_bl, gd_non, gd_tup, gd_lst, gds_nil, gds_cons, gds_append, gds_str, gds_int, gds_take, gds_drop, gds_ints]; done) | (simp only [List.length_append, List.length_take, List.length_drop, List.length_map, List.length_cons, List.length_nil, List.length_range] <;> omega) | omega) [wp_seqE, seqR_nx, seqR_rt, seqR_ct, seqR_bk, seqR_ex, seqR_ite, runF_ev, resR_nx, resR_rt, resR_ex, resR_ite, startE, wp_nxK, wp_rtK, wp_ctK, wp_bkK, wp_exK, wp_nxP, wp_rtP, wp_ite, R.bind_ok, R.bind_exn, sb_ok, sb_exn, opt_some, opt_ite, bind_ite, sb_ite, dC, dVar, dPk, Fv.toVl, dBin, dUn, dTest, vTru, dTB_ev, tbK_bl, dAnd, dOr, dNot, dBV, dIf, dChain_ev, chK_bl, daNil, daCons, dTup, dLst, dIx, doNone, doSome, dSl, dFn, diVal, diRng, dCall, dRet, dRetN, dExpr, dIfS_ev, dAsg, gSet, gUn, gsNil, gsCons, itemsOf, dNext, dBreak, dCont, dRaise, dxC, dxE, dTold_ev, toldR_ok, toldR_exn, toldR_ite, dMeth, dFld, List.lookup, dSetF, putN, dPar, dPar3, vNeg, vSub_int, vAdd_int, vEq_int, vNe_int, vLt_int, vGt_int, vLe_int, vGe_int, vIx_lst, vIx_tup, atI_int, vSl_tup, vSl_lst, cutL_toI, cutL_fromI, cutL_midI, cutL_all, oLen, seqOf, oInt, oAbs, oMax2, oMin2, oTuple, oList, vIsN_non, vIsN_str, vIsN_int, vIsN_tup, vIsN_lst, dBm, tStr, tTup, tLst, dCat, lstOf, dListO, dLstO, dBmW, dTupRev, hcu, hm0, hm1, vNe_same, gd_str, gd_int, gd_bl, gd_non, gd_tup, gd_lst, gds_nil, gds_cons, gds_append, gds_str, gds_int, gds_take, gds_drop, gds_ints, vAdd_lst, T12_1__law_rest2, T3_2__law_rest2, hshw, packO]
                have hperm : (rows.drop many ++ rows.take many).Perm rows := List.perm_append_comm.trans (by rw [List.take_append_drop])
                exact (hI _ _ _).mpr ⟨d5, rows.drop many ++ rows.take many, _, _, _, _, _, _, _, _, by simp only [List.map_append, List.map_take, List.map_drop]; rfl, by simp only [packO, List.map_append, List.map_take, List.map_drop], hperm.nodup_iff.mpr hnd, fun c h => hcd c (hperm.mem_iff.mp h), by rw [hperm.length_eq]; omega⟩
              · rw [if_neg (fun z => hm1 z.2)] at hcu
                simp (disch := first | assumption | (simp [gd_str, gd_int, gd_bl, gd_non, gd_tup, gd_lst, gds_nil, gds_cons, gds_append, gds_str, gds_int, gds_take, gds_drop, gds_ints]; done) | (simp only [List.length_append, List.length_take, List.length_drop, List.length_map, List.length_cons, List.length_nil, List.length_range] <;> omega) | omega) [wp_seqE, seqR_nx, seqR_rt, seqR_ct, seqR_bk, seqR_ex, seqR_ite, runF_ev, resR_nx, resR_rt, resR_ex, resR_ite, startE, wp_nxK, wp_rtK, wp_ctK, wp_bkK, wp_exK, wp_nxP, wp_rtP, wp_ite, R.bind_ok, R.bind_exn, sb_ok, sb_exn, opt_some, opt_ite, bind_ite, sb_ite, dC, dVar, dPk, Fv.toVl, dBin, dUn, dTest, vTru, dTB_ev, tbK_bl, dAnd, dOr, dNot, dBV, dIf, dChain_ev, chK_bl, daNil, daCons, dTup, dLst, dIx, doNone, doSome, dSl, dFn, diVal, diRng, dCall, dRet, dRetN, dExpr, dIfS_ev, dAsg, gSet, gUn, gsNil, gsCons, itemsOf, dNext, dBreak, dCont, dRaise, dxC, dxE, dTold_ev, toldR_ok, toldR_exn, toldR_ite, dMeth, dFld, List.lookup, dSetF, putN, dPar, dPar3, vNeg, vSub_int, vAdd_int, vEq_int, vNe_int, vLt_int, vGt_int, vLe_int, vGe_int, vIx_lst, vIx_tup, atI_int, vSl_tup, vSl_lst, cutL_toI, cutL_fromI, cutL_midI, cutL_all, oLen, seqOf, oInt, oAbs, oMax2, oMin2, oTuple, oList, vIsN_non, vIsN_str, vIsN_int, vIsN_tup, vIsN_lst, dBm, tStr, tTup, tLst, dCat, lstOf, dListO, dLstO, dBmW, dTupRev, hcu, hm0, hm1, vNe_same, gd_str, gd_int, gd_bl, gd_non, gd_tup, gd_lst, gds_nil, gds_cons, gds_append, gds_str, gds_int, gds_take, gds_drop, gds_ints, T12_1__law_rest2, T3_2__law_rest2, hshw, tf1]
                exact (hI _ _ _).mpr ⟨d5, rows, _, _, _, _, _, _, _, _, rfl, rfl, hnd, hcd, by omega⟩
            · rw [if_neg (fun z => hm0 z.1)] at hcu
              simp (disch := first | assumption | (simp [gd_str, gd_int, gd_bl, gd_non, gd_tup, gd_lst, gds_nil, gds_cons, gds_append, gds_str, gds_int, gds_take, gds_drop, gds_ints]; done) | (simp only [List.length_append, List.length_take, List.length_drop, List.length_map, List.length_cons, List.length_nil, List.length_range] <;> omega) | omega) [wp_seqE, seqR_nx, seqR_rt, seqR_ct, seqR_bk, seqR_ex, seqR_ite, runF_ev, resR_nx, resR_rt, resR_ex, resR_ite, startE, wp_nxK, wp_rtK, wp_ctK, wp_bkK, wp_exK, wp_nxP, wp_rtP, wp_ite, R.bind_ok, R.bind_exn, sb_ok, sb_exn, opt_some, opt_ite, bind_ite, sb_ite, dC, dVar, dPk, Fv.toVl, dBin, dUn, dTest, vTru, dTB_ev, tbK_bl, dAnd, dOr, dNot, dBV, dIf, dChain_ev, chK_bl, daNil, daCons, dTup, dLst, dIx, doNone, doSome, dSl, dFn, diVal, diRng, dCall, dRet, dRetN, dExpr, dIfS_ev, dAsg, gSet, gUn, gsNil, gsCons, itemsOf, dNext, dBreak, dCont, dRaise, dxC, dxE, dTold_ev, toldR_ok, toldR_exn, toldR_ite, dMeth, dFld, List.lookup, dSetF, putN, dPar, dPar3, vNeg, vSub_int, vAdd_int, vEq_int, vNe_int, vLt_int, vGt_int, vLe_int, vGe_int, vIx_lst, vIx_tup, atI_int, vSl_tup, vSl_lst, cutL_toI, cutL_fromI, cutL_midI, cutL_all, oLen, seqOf, oInt, oAbs, oMax2, oMin2, oTuple, oList, vIsN_non, vIsN_str, vIsN_int, vIsN_tup, vIsN_lst, dBm, tStr, tTup, tLst, dCat, lstOf, dListO, dLstO, dBmW, dTupRev, hcu, hm0, vNe_same, gd_str, gd_int, gd_bl, gd_non, gd_tup, gd_lst, gds_nil, gds_cons, gds_append, gds_str, gds_int, gds_take, gds_drop, gds_ints, T12_1__law_rest2, T3_2__law_rest2, hshw, tf1]
              exact (hI _ _ _).mpr ⟨d5, rows, _, _, _, _, _, _, _, _, rfl, rfl, hnd, hcd, by omega⟩
          · have hs4' : ¬ (sort : Int) = 4 := by omega
            refine wp_ifF (G1 := [dO d5, packO rows]) (by simp [seqR_nx, seqR_rt, seqR_ct, seqR_bk, seqR_ex, seqR_ite, runF_ev, resR_nx, resR_rt, resR_ex, resR_ite, startE, wp_nxK, wp_rtK, wp_ctK, wp_bkK, wp_exK, wp_nxP, wp_rtP, wp_ite, R.bind_ok, R.bind_exn, sb_ok, sb_exn, opt_some, opt_ite, bind_ite, sb_ite, dC, dVar, dPk, Fv.toVl, dBin, dUn, dTest, vTru, dTB_ev, tbK_bl, dAnd, dOr, dNot, dBV, dIf, dChain_ev, chK_bl, daNil, daCons, dTup, dLst, dIx, doNone, doSome, dSl, dFn, diVal, diRng, dCall, dRet, dRetN, dExpr, dIfS_ev, dAsg, gSet, gUn, gsNil, gsCons, itemsOf, dNext, dBreak, dCont, dRaise, dxC, dxE, dTold_ev, toldR_ok, toldR_exn, toldR_ite, dMeth, dFld, List.lookup, dSetF, putN, dPar, dPar3, vNeg, vSub_int, vAdd_int, vEq_int, vNe_int, vLt_int, vGt_int, vLe_int, vGe_int, vIx_lst, vIx_tup, atI_int, vSl_tup, vSl_lst, cutL_toI, cutL_fromI, cutL_midI, cutL_all, oLen, seqOf, oInt, oAbs, oMax2, oMin2, oTuple, oList, vIsN_non, vIsN_str, vIsN_int, vIsN_tup, vIsN_lst, dBm, tStr, tTup, tLst, dCat, lstOf, dListO, dLstO, dBmW, dTupRev, hs4, hs4']) ?_
            have hta := pack_take [dO d5, packO rows] 1 rows card rfl hcc (by omega)
            have hc4 : ∀ e G, e[5]? = some (some (.val (.lst (rows.map .str)))) → e[9]? = some (some (.val (.str card))) → e.length = 14 → C4__law_rest2 e G = .ok (.lst ((rows.filter (fun x => !decide (x = card))).map .str)) G := by
              intro e G h5 h9 hl
              obtain ⟨a0, a1, a2, a3, a4, a5, a6, a7, a8, a9, a10, a11, a12, a13, rfl⟩ := len14 hl
              simp only [List.getElem?_cons_succ, List.getElem?_cons_zero, Option.some.injEq] at h5 h9
              subst h5 h9
              unfold C4__law_rest2
              rw [dLc_tm rows Vl.str (fun x => !decide (x = card)) Vl.str (G1 := G)]
              · simp [seqR_nx, seqR_rt, seqR_ct, seqR_bk, seqR_ex, seqR_ite, runF_ev, resR_nx, resR_rt, resR_ex, resR_ite, startE, wp_nxK, wp_rtK, wp_ctK, wp_bkK, wp_exK, wp_nxP, wp_rtP, wp_ite, R.bind_ok, R.bind_exn, sb_ok, sb_exn, opt_some, opt_ite, bind_ite, sb_ite, dC, dVar, dPk, Fv.toVl, dBin, dUn, dTest, vTru, dTB_ev, tbK_bl, dAnd, dOr, dNot, dBV, dIf, dChain_ev, chK_bl, daNil, daCons, dTup, dLst, dIx, doNone, doSome, dSl, dFn, diVal, diRng, dCall, dRet, dRetN, dExpr, dIfS_ev, dAsg, gSet, gUn, gsNil, gsCons, itemsOf, dNext, dBreak, dCont, dRaise, dxC, dxE, dTold_ev, toldR_ok, toldR_exn, toldR_ite, dMeth, dFld, List.lookup, dSetF, putN, dPar, dPar3, vNeg, vSub_int, vAdd_int, vEq_int, vNe_int, vLt_int, vGt_int, vLe_int, vGe_int, vIx_lst, vIx_tup, atI_int, vSl_tup, vSl_lst, cutL_toI, cutL_fromI, cutL_midI, cutL_all, oLen, seqOf, oInt, oAbs, oMax2, oMin2, oTuple, oList, vIsN_non, vIsN_str, vIsN_int, vIsN_tup, vIsN_lst, dBm, tStr, tTup, tLst, dCat, lstOf, dListO, dLstO, dBmW, dTupRev, walkOf]
              · intro c hcc
                refine ⟨_, rfl, ?_, fun _ => ?_⟩
                · simp [seqR_nx, seqR_rt, seqR_ct, seqR_bk, seqR_ex, seqR_ite, runF_ev, resR_nx, resR_rt, resR_ex, resR_ite, startE, wp_nxK, wp_rtK, wp_ctK, wp_bkK, wp_exK, wp_nxP, wp_rtP, wp_ite, R.bind_ok, R.bind_exn, sb_ok, sb_exn, opt_some, opt_ite, bind_ite, sb_ite, dC, dVar, dPk, Fv.toVl, dBin, dUn, dTest, vTru, dTB_ev, tbK_bl, dAnd, dOr, dNot, dBV, dIf, dChain_ev, chK_bl, daNil, daCons, dTup, dLst, dIx, doNone, doSome, dSl, dFn, diVal, diRng, dCall, dRet, dRetN, dExpr, dIfS_ev, dAsg, gSet, gUn, gsNil, gsCons, itemsOf, dNext, dBreak, dCont, dRaise, dxC, dxE, dTold_ev, toldR_ok, toldR_exn, toldR_ite, dMeth, dFld, List.lookup, dSetF, putN, dPar, dPar3, vNeg, vSub_int, vAdd_int, vEq_int, vNe_int, vLt_int, vGt_int, vLe_int, vGe_int, vIx_lst, vIx_tup, atI_int, vSl_tup, vSl_lst, cutL_toI, cutL_fromI, cutL_midI, cutL_all, oLen, seqOf, oInt, oAbs, oMax2, oMin2, oTuple, oList, vIsN_non, vIsN_str, vIsN_int, vIsN_tup, vIsN_lst, dBm, tStr, tTup, tLst, dCat, lstOf, dListO, dLstO, dBmW, dTupRev, wipeE, vNe_str]
                · simp [seqR_nx, seqR_rt, seqR_ct, seqR_bk, seqR_ex, seqR_ite, runF_ev, resR_nx, resR_rt, resR_ex, resR_ite, startE, wp_nxK, wp_rtK, wp_ctK, wp_bkK, wp_exK, wp_nxP, wp_rtP, wp_ite, R.bind_ok, R.bind_exn, sb_ok, sb_exn, opt_some, opt_ite, bind_ite, sb_ite, dC, dVar, dPk, Fv.toVl, dBin, dUn, dTest, vTru, dTB_ev, tbK_bl, dAnd, dOr, dNot, dBV, dIf, dChain_ev, chK_bl, daNil, daCons, dTup, dLst, dIx, doNone, doSome, dSl, dFn, diVal, diRng, dCall, dRet, dRetN, dExpr, dIfS_ev, dAsg, gSet, gUn, gsNil, gsCons, itemsOf, dNext, dBreak, dCont, dRaise, dxC, dxE, dTold_ev, toldR_ok, toldR_exn, toldR_ite, dMeth, dFld, List.lookup, dSetF, putN, dPar, dPar3, vNeg, vSub_int, vAdd_int, vEq_int, vNe_int, vLt_int, vGt_int, vLe_int, vGe_int, vIx_lst, vIx_tup, atI_int, vSl_tup, vSl_lst, cutL_toI, cutL_fromI, cutL_midI, cutL_all, oLen, seqOf, oInt, oAbs, oMax2, oMin2, oTuple, oList, vIsN_non, vIsN_str, vIsN_int, vIsN_tup, vIsN_lst, dBm, tStr, tTup, tLst, dCat, lstOf, dListO, dLstO, dBmW, dTupRev, wipeE]
              · omega
            by_cases hin : card ∈ rows
            · obtain ⟨j, ej, hj⟩ := ixOf_mem hin
              rw [ej] at hta
              dsimp only at hta
              have hf := ixOf_filter hnd ej
              rw [hf] at hc4
              have hshw := hshw (rows.take j ++ rows.drop (j + 1))
              have hnd' : (rows.take j ++ rows.drop (j + 1)).Nodup := by
                rw [← hf]; exact hnd.filter _
              have hcd' : ∀ c ∈ rows.take j ++ rows.drop (j + 1), isCd c := fun c h => by
                rw [← hf] at h
                exact hcd c (List.mem_filter.mp h).1
              have hln' : (rows.take j ++ rows.drop (j + 1)).length ≤ 9 + (k + 1) := by simp; omega
              simp only [List.set_cons_succ, List.set_cons_zero] at hta
              have hix : oLIx [dO d5, packO rows] (.lst (rows.map .str)) [.str card] = some (.int (j : Nat)) := by
                unfold oLIx
                simp [strsOf_map, ej]
              generalize rows.take j ++ rows.drop (j + 1) = rows' at hta hc4 hshw hnd' hcd' hln'
              simp (disch := first | assumption | (simp [gd_str, gd_int, gd_bl, gd_non, gd_tup, gd_lst, gds_nil, gds_cons, gds_append, gds_str, gds_int, gds_take, gds_drop, gds_ints]; done) | (simp only [List.length_append, List.length_take, List.length_drop, List.length_map, List.length_cons, List.length_nil, List.length_range] <;> omega) | omega) [wp_seqE, seqR_nx, seqR_rt, seqR_ct, seqR_bk, seqR_ex, seqR_ite, runF_ev, resR_nx, resR_rt, resR_ex, resR_ite, startE, wp_nxK, wp_rtK, wp_ctK, wp_bkK, wp_exK, wp_nxP, wp_rtP, wp_ite, R.bind_ok, R.bind_exn, sb_ok, sb_exn, opt_some, opt_ite, bind_ite, sb_ite, dC, dVar, dPk, Fv.toVl, dBin, dUn, dTest, vTru, dTB_ev, tbK_bl, dAnd, dOr, dNot, dBV, dIf, dChain_ev, chK_bl, daNil, daCons, dTup, dLst, dIx, doNone, doSome, dSl, dFn, diVal, diRng, dCall, dRet, dRetN, dExpr, dIfS_ev, dAsg, gSet, gUn, gsNil, gsCons, itemsOf, dNext, dBreak, dCont, dRaise, dxC, dxE, dTold_ev, toldR_ok, toldR_exn, toldR_ite, dMeth, dFld, List.lookup, dSetF, putN, dPar, dPar3, vNeg, vSub_int, vAdd_int, vEq_int, vNe_int, vLt_int, vGt_int, vLe_int, vGe_int, vIx_lst, vIx_tup, atI_int, vSl_tup, vSl_lst, cutL_toI, cutL_fromI, cutL_midI, cutL_all, oLen, seqOf, oInt, oAbs, oMax2, oMin2, oTuple, oList, vIsN_non, vIsN_str, vIsN_int, vIsN_tup, vIsN_lst, dBm, tStr, tTup, tLst, dCat, lstOf, dListO, dLstO, dBmW, dTupRev, hta, vIn_strsL, hin, hix, vNe_same, gd_str, gd_int, gd_bl, gd_non, gd_tup, gd_lst, gds_nil, gds_cons, gds_append, gds_str, gds_int, gds_take, gds_drop, gds_ints, T13_1__law_rest2, T3_2__law_rest2, hshw, hc4]
              exact (hI _ _ _).mpr ⟨d5, rows', _, _, _, _, _, _, _, _, rfl, rfl, hnd', hcd', hln'⟩
            · have ej : ixOf card rows = none := by
                cases q : ixOf card rows with
                | none => rfl
                | some j => exact absurd (List.mem_of_getElem? (ixOf_some q).1) hin
              rw [ej] at hta
              dsimp only at hta
              have hf : rows.filter (fun x => !decide (x = card)) = rows := List.filter_eq_self.mpr fun x hx => by
                have : ¬ x = card := fun z => hin (z ▸ hx)
                simp [this]
              rw [hf] at hc4
              simp (disch := first | assumption | (simp [gd_str, gd_int, gd_bl, gd_non, gd_tup, gd_lst, gds_nil, gds_cons, gds_append, gds_str, gds_int, gds_take, gds_drop, gds_ints]; done) | (simp only [List.length_append, List.length_take, List.length_drop, List.length_map, List.length_cons, List.length_nil, List.length_range] <;> omega) | omega) [wp_seqE, seqR_nx, seqR_rt, seqR_ct, seqR_bk, seqR_ex, seqR_ite, runF_ev, resR_nx, resR_rt, resR_ex, resR_ite, startE, wp_nxK, wp_rtK, wp_ctK, wp_bkK, wp_exK, wp_nxP, wp_rtP, wp_ite, R.bind_ok, R.bind_exn, sb_ok, sb_exn, opt_some, opt_ite, bind_ite, sb_ite, dC, dVar, dPk, Fv.toVl, dBin, dUn, dTest, vTru, dTB_ev, tbK_bl, dAnd, dOr, dNot, dBV, dIf, dChain_ev, chK_bl, daNil, daCons, dTup, dLst, dIx, doNone, doSome, dSl, dFn, diVal, diRng, dCall, dRet, dRetN, dExpr, dIfS_ev, dAsg, gSet, gUn, gsNil, gsCons, itemsOf, dNext, dBreak, dCont, dRaise, dxC, dxE, dTold_ev, toldR_ok, toldR_exn, toldR_ite, dMeth, dFld, List.lookup, dSetF, putN, dPar, dPar3, vNeg, vSub_int, vAdd_int, vEq_int, vNe_int, vLt_int, vGt_int, vLe_int, vGe_int, vIx_lst, vIx_tup, atI_int, vSl_tup, vSl_lst, cutL_toI, cutL_fromI, cutL_midI, cutL_all, oLen, seqOf, oInt, oAbs, oMax2, oMin2, oTuple, oList, vIsN_non, vIsN_str, vIsN_int, vIsN_tup, vIsN_lst, dBm, tStr, tTup, tLst, dCat, lstOf, dListO, dLstO, dBmW, dTupRev, hta, vIn_strsL, hin, vNe_same, gd_str, gd_int, gd_bl, gd_non, gd_tup, gd_lst, gds_nil, gds_cons, gds_append, gds_str, gds_int, gds_take, gds_drop, gds_ints, T13_1__law_rest2, T3_2__law_rest2, hshw, tf2, hc4]
              exact (hI _ _ _).mpr ⟨d5, rows, _, _, _, _, _, _, _, _, rfl, rfl, hnd, hcd, by omega⟩
  intro e G hIk
  obtain ⟨d, rows, z4, z7, z8, z9, z10, z11, z12, z13, rfl, rfl, hnd, hcd, hlen⟩ := (hI _ _ _).mp hIk
  clear hIk hI I
  rw [rgL_length] at hlen
  rw [wp_nxK]
  obtain ⟨G', hre⟩ := rest1 d r cards rows [] h1 h2 hc (by omega) hcd hnd (by omega)
  unfold T1_4__law_rest2
  refine wp_chk (G1 := G') ?_ ?_
  · simp [seqR_nx, seqR_rt, seqR_ct, seqR_bk, seqR_ex, seqR_ite, runF_ev, resR_nx, resR_rt, resR_ex, resR_ite, startE, wp_nxK, wp_rtK, wp_ctK, wp_bkK, wp_exK, wp_nxP, wp_rtP, wp_ite, R.bind_ok, R.bind_exn, sb_ok, sb_exn, opt_some, opt_ite, bind_ite, sb_ite, dC, dVar, dPk, Fv.toVl, dBin, dUn, dTest, vTru, dTB_ev, tbK_bl, dAnd, dOr, dNot, dBV, dIf, dChain_ev, chK_bl, daNil, daCons, dTup, dLst, dIx, doNone, doSome, dSl, dFn, diVal, diRng, dCall, dRet, dRetN, dExpr, dIfS_ev, dAsg, gSet, gUn, gsNil, gsCons, itemsOf, dNext, dBreak, dCont, dRaise, dxC, dxE, dTold_ev, toldR_ok, toldR_exn, toldR_ite, dMeth, dFld, List.lookup, dSetF, putN, dPar, dPar3, vNeg, vSub_int, vAdd_int, vEq_int, vNe_int, vLt_int, vGt_int, vLe_int, vGe_int, vIx_lst, vIx_tup, atI_int, vSl_tup, vSl_lst, cutL_toI, cutL_fromI, cutL_midI, cutL_all, oLen, seqOf, oInt, oAbs, oMax2, oMin2, oTuple, oList, vIsN_non, vIsN_str, vIsN_int, vIsN_tup, vIsN_lst, dBm, tStr, tTup, tLst, dCat, lstOf, dListO, dLstO, dBmW, dTupRev, hre]
  unfold T1_5__law_rest2
  simp [seqR_nx, seqR_rt, seqR_ct, seqR_bk, seqR_ex, seqR_ite, runF_ev, resR_nx, resR_rt, resR_ex, resR_ite, startE, wp_nxK, wp_rtK, wp_ctK, wp_bkK, wp_exK, wp_nxP, wp_rtP, wp_ite, R.bind_ok, R.bind_exn, sb_ok, sb_exn, opt_some, opt_ite, bind_ite, sb_ite, dC, dVar, dPk, Fv.toVl, dBin, dUn, dTest, vTru, dTB_ev, tbK_bl, dAnd, dOr, dNot, dBV, dIf, dChain_ev, chK_bl, daNil, daCons, dTup, dLst, dIx, doNone, doSome, dSl, dFn, diVal, diRng, dCall, dRet, dRetN, dExpr, dIfS_ev, dAsg, gSet, gUn, gsNil, gsCons, itemsOf, dNext, dBreak, dCont, dRaise, dxC, dxE, dTold_ev, toldR_ok, toldR_exn, toldR_ite, dMeth, dFld, List.lookup, dSetF, putN, dPar, dPar3, vNeg, vSub_int, vAdd_int, vEq_int, vNe_int, vLt_int, vGt_int, vLe_int, vGe_int, vIx_lst, vIx_tup, atI_int, vSl_tup, vSl_lst, cutL_toI, cutL_fromI, cutL_midI, cutL_all, oLen, seqOf, oInt, oAbs, oMax2, oMin2, oTuple, oList, vIsN_non, vIsN_str, vIsN_int, vIsN_tup, vIsN_lst, dBm, tStr, tTup, tLst, dCat, lstOf, dListO, dLstO, dBmW, dTupRev]
end CardH
end
section
set_option maxHeartbeats 8000000
namespace CardH
open PySem PySem.Spec PyProof.Rows L2
theorem law_head (ns : List Int) (G : Gst) : ∀ r : Nat, 1 ≤ r → r ≤ 13 → T2_1_law [some (.val (.scr ns)), some (.val (.ref 0)), some (.val (.int r)), none, none, none, none] G = T2_4_law [some (.val (.scr ns)), some (.val (.ref 0)), some (.val (.int r)), some (.val (.lst ((deckR r).map .str))), none, none, none] G
  | 0, h, _ => absurd h (by omega)
  | 1, _, _ => by kernel_rfl
  | 2, _, _ => by kernel_rfl
  | 3, _, _ => by kernel_rfl
  | 4, _, _ => by kernel_rfl
  | 5, _, _ => by kernel_rfl
  | 6, _, _ => by kernel_rfl
  | 7, _, _ => by kernel_rfl
  | 8, _, _ => by kernel_rfl
  | 9, _, _ => by kernel_rfl
  | 10, _, _ => by kernel_rfl
  | 11, _, _ => by kernel_rfl
  | 12, _, _ => by kernel_rfl
  | 13, _, _ => by kernel_rfl
  | n + 14, _, h => absurd h (by omega)
theorem law_ok (ns : List Int) : ∃ G', M_law [.scr ns] [] = .ok (.bl true) G' := by
  obtain ⟨d0, hr⟩ := round1 ns
  refine runF_true ?_
  simp only [startE, List.map_cons, List.map_nil, List.length_cons, List.length_nil, List.cons_append, List.nil_append, Nat.reduceAdd, Nat.reduceSub, List.replicate]
  unfold D_law
  refine wp_seq ?_
  simp [seqR_nx, seqR_rt, seqR_ct, seqR_bk, seqR_ex, seqR_ite, runF_ev, resR_nx, resR_rt, resR_ex, resR_ite, startE, wp_nxK, wp_rtK, wp_ctK, wp_bkK, wp_exK, wp_nxP, wp_rtP, wp_ite, R.bind_ok, R.bind_exn, sb_ok, sb_exn, opt_some, opt_ite, bind_ite, sb_ite, dC, dVar, dPk, Fv.toVl, dBin, dUn, dTest, vTru, dTB_ev, tbK_bl, dAnd, dOr, dNot, dBV, dIf, dChain_ev, chK_bl, daNil, daCons, dTup, dLst, dIx, doNone, doSome, dSl, dFn, diVal, diRng, dCall, dRet, dRetN, dExpr, dIfS_ev, dAsg, gSet, gUn, gsNil, gsCons, itemsOf, dNext, dBreak, dCont, dRaise, dxC, dxE, dTold_ev, toldR_ok, toldR_exn, toldR_ite, dMeth, dFld, List.lookup, dSetF, putN, dPar, dPar3, vNeg, vSub_int, vAdd_int, vEq_int, vNe_int, vLt_int, vGt_int, vLe_int, vGe_int, vIx_lst, vIx_tup, atI_int, vSl_tup, vSl_lst, cutL_toI, cutL_fromI, cutL_midI, cutL_all, oLen, seqOf, oInt, oAbs, oMax2, oMin2, oTuple, oList, vIsN_non, vIsN_str, vIsN_int, vIsN_tup, vIsN_lst, dBm, tStr, tTup, tLst, dCat, lstOf, dListO, dLstO, dBmW, dTupRev, dFor, hr, walkOf]
  refine wp_for1 ?_
  simp only [List.set_cons_succ, List.set_cons_zero]
  unfold T2_0_law
  refine wp_seq ?_
  simp [seqR_nx, seqR_rt, seqR_ct, seqR_bk, seqR_ex, seqR_ite, runF_ev, resR_nx, resR_rt, resR_ex, resR_ite, startE, wp_nxK, wp_rtK, wp_ctK, wp_bkK, wp_exK, wp_nxP, wp_rtP, wp_ite, R.bind_ok, R.bind_exn, sb_ok, sb_exn, opt_some, opt_ite, bind_ite, sb_ite, dC, dVar, dPk, Fv.toVl, dBin, dUn, dTest, vTru, dTB_ev, tbK_bl, dAnd, dOr, dNot, dBV, dIf, dChain_ev, chK_bl, daNil, daCons, dTup, dLst, dIx, doNone, doSome, dSl, dFn, diVal, diRng, dCall, dRet, dRetN, dExpr, dIfS_ev, dAsg, gSet, gUn, gsNil, gsCons, itemsOf, dNext, dBreak, dCont, dRaise, dxC, dxE, dTold_ev, toldR_ok, toldR_exn, toldR_ite, dMeth, dFld, List.lookup, dSetF, putN, dPar, dPar3, vNeg, vSub_int, vAdd_int, vEq_int, vNe_int, vLt_int, vGt_int, vLe_int, vGe_int, vIx_lst, vIx_tup, atI_int, vSl_tup, vSl_lst, cutL_toI, cutL_fromI, cutL_midI, cutL_all, oLen, seqOf, oInt, oAbs, oMax2, oMin2, oTuple, oList, vIsN_non, vIsN_str, vIsN_int, vIsN_tup, vIsN_lst, dBm, tStr, tTup, tLst, dCat, lstOf, dListO, dLstO, dBmW, dTupRev, roll0]
  have h_k := rv_lt (m := 13) d0 (by decide)
  generalize rv 13 d0 = k at h_k ⊢
  generalize rd 13 d0 = d1
  have hR : (1 : Int) + k = ((1 + k : Nat) : Int) := by omega
  generalize hRR : 1 + k = r at hR
  rw [hR, law_head ns [dO d1] r (by omega) (by omega)]
  unfold T2_4_law
  obtain ⟨G', hre⟩ := rest2 d1 r (by omega) (by omega)
  refine wp_chk1 (G1 := G') ?_ ?_
  · simp [seqR_nx, seqR_rt, seqR_ct, seqR_bk, seqR_ex, seqR_ite, runF_ev, resR_nx, resR_rt, resR_ex, resR_ite, startE, wp_nxK, wp_rtK, wp_ctK, wp_bkK, wp_exK, wp_nxP, wp_rtP, wp_ite, R.bind_ok, R.bind_exn, sb_ok, sb_exn, opt_some, opt_ite, bind_ite, sb_ite, dC, dVar, dPk, Fv.toVl, dBin, dUn, dTest, vTru, dTB_ev, tbK_bl, dAnd, dOr, dNot, dBV, dIf, dChain_ev, chK_bl, daNil, daCons, dTup, dLst, dIx, doNone, doSome, dSl, dFn, diVal, diRng, dCall, dRet, dRetN, dExpr, dIfS_ev, dAsg, gSet, gUn, gsNil, gsCons, itemsOf, dNext, dBreak, dCont, dRaise, dxC, dxE, dTold_ev, toldR_ok, toldR_exn, toldR_ite, dMeth, dFld, List.lookup, dSetF, putN, dPar, dPar3, vNeg, vSub_int, vAdd_int, vEq_int, vNe_int, vLt_int, vGt_int, vLe_int, vGe_int, vIx_lst, vIx_tup, atI_int, vSl_tup, vSl_lst, cutL_toI, cutL_fromI, cutL_midI, cutL_all, oLen, seqOf, oInt, oAbs, oMax2, oMin2, oTuple, oList, vIsN_non, vIsN_str, vIsN_int, vIsN_tup, vIsN_lst, dBm, tStr, tTup, tLst, dCat, lstOf, dListO, dLstO, dBmW, dTupRev, hre]
  · rw [wp_nxP]
    unfold T1_1_law
    simp [seqR_nx, seqR_rt, seqR_ct, seqR_bk, seqR_ex, seqR_ite, runF_ev, resR_nx, resR_rt, resR_ex, resR_ite, startE, wp_nxK, wp_rtK, wp_ctK, wp_bkK, wp_exK, wp_nxP, wp_rtP, wp_ite, R.bind_ok, R.bind_exn, sb_ok, sb_exn, opt_some, opt_ite, bind_ite, sb_ite, dC, dVar, dPk, Fv.toVl, dBin, dUn, dTest, vTru, dTB_ev, tbK_bl, dAnd, dOr, dNot, dBV, dIf, dChain_ev, chK_bl, daNil, daCons, dTup, dLst, dIx, doNone, doSome, dSl, dFn, diVal, diRng, dCall, dRet, dRetN, dExpr, dIfS_ev, dAsg, gSet, gUn, gsNil, gsCons, itemsOf, dNext, dBreak, dCont, dRaise, dxC, dxE, dTold_ev, toldR_ok, toldR_exn, toldR_ite, dMeth, dFld, List.lookup, dSetF, putN, dPar, dPar3, vNeg, vSub_int, vAdd_int, vEq_int, vNe_int, vLt_int, vGt_int, vLe_int, vGe_int, vIx_lst, vIx_tup, atI_int, vSl_tup, vSl_lst, cutL_toI, cutL_fromI, cutL_midI, cutL_all, oLen, seqOf, oInt, oAbs, oMax2, oMin2, oTuple, oList, vIsN_non, vIsN_str, vIsN_int, vIsN_tup, vIsN_lst, dBm, tStr, tTup, tLst, dCat, lstOf, dListO, dLstO, dBmW, dTupRev]
end CardH
end
section
set_option maxHeartbeats 0
namespace CardH
open PySem PySem.Spec PyProof.Rows L2 LamX
section
variable {w : World} {K : PySem.W.Frag} {mg : PySem.Str → Option Value} {h : Heap} {f : Addr}
theorem lawAt (pl : ∀ ns : List Int, ns.length ≤ 63 → (∀ z ∈ ns, Builtin.Int.intBits z ≤ 1048576) → ∃ G', M_law [.scr ns] [] = .ok (.bl true) G') (X : K.In h) (G : h.Ns mainGlobals mg) (hf : mg "law" = some (.ref f)) (c : He.SaysX fa fn [] tf apB w h K) :
    LawAtS PySem.Challenge.rw_cardhall_k01_cards w K (L2.CX PySem.Challenge.rw_cardhall_k01_cards.prog w) 10 63 "script" mg f h := by
  obtain ⟨fd, F⟩ := c.t.d.def_ 33 (d := d_law) rfl
  have gl : ∀ x, He.Fa.glo x ∈ fa → mg x = some (.ref (He.ga K x)) := fun x hx => He.glo_ok X G (c.t.d.facts hx)
  have e := hf.symm.trans (gl "law" (List.mem_of_getElem? (i := 22) rfl))
  cases e
  refine ⟨fd, tf.map (He.cT K), spD (ktD K mg) 1 M_law, fun p hp => ?_, fun p hp => ?_, fun p hp => ?_, fun s v => (FunD.bindsA (ps := ["script"]) F fun _ _ _ _ _ _ us hl => match us, hl with | [_], _ => rfl) s [v] rfl, fun H a ns hl hb hT hS => ?_, fun base KB GB TB => ?_⟩
  · obtain ⟨q, hq, rfl⟩ := List.mem_map.mp hp
    exact c.empty q hq
  · obtain ⟨q, hq, rfl⟩ := List.mem_map.mp hp
    exact c.out q hq
  · obtain ⟨q, hq, rfl⟩ := List.mem_map.mp hp
    exact PySem.W.codeHd_of_K X (c.hd q hq)
  · refine sp_law (kt := ktD K mg) (Tl := tblL K) rfl (fun p hp => ?_) hS (pl ns hl hb)
    obtain ⟨q, hq, rfl⟩ := List.mem_map.mp hp
    exact hT (He.cT K q.1) (List.mem_map.mpr ⟨q.1, List.mem_map.mpr ⟨q, hq, rfl⟩, rfl⟩)
  · have kn : Kn K mg base := ⟨c.t.d, gl, fun x hx => He.free_ok X G (c.t.d.facts hx), fun x z hx => He.str_ok X G (c.t.d.facts hx), fun x i hx => He.int_ok X G (c.t.d.facts hx), fun p hp => TB _ (List.mem_map.mpr ⟨p, hp, rfl⟩), c.more⟩
    exact fnOk_ofD (kt := ktD K mg) (pp := ("law", none)) F sc_law D_law (fun A outer s H E W0 hr => B_law kn A outer s H E W0 hr)
end
end CardH
open PySem PySem.W PySem.Calls PyProof.Rows
theorem end_cardhall_k01_cards (pl : ∀ ns : List Int, ns.length ≤ 63 → (∀ z ∈ ns, Builtin.Int.intBits z ≤ 1048576) → ∃ G', CardH.M_law [.scr ns] [] = .ok (.bl true) G') : PySem.Challenge.rw_cardhall_k01_cards.Holds := by
  w_on; o_law
  refine HandSHeadRun.head_any (r := OpenLaw.row PySem.Challenge.rw_cardhall_k01_cards) (q := view (OpenLaw.row PySem.Challenge.rw_cardhall_k01_cards).prog [37]) (H := CardH.hk) (ob := CardH.ob) (M := 1000000) (loose := CardH.loose) (d := HandSHeadRun.topDef (OpenLaw.row PySem.Challenge.rw_cardhall_k01_cards).prog 37) (kwd := []) CardH.ob_eq
    (by kernel_rfl) (fun s => by kernel_rfl) CardH.run (by kernel_rfl) (by kernel_rfl) (by kernel_rfl) (by rfl) (by first | assumption | decide +kernel) (by decide +kernel) ⟨rfl, rfl, rfl, rfl, rfl, by decide +kernel⟩ ?hw ?hc
  case hw => w_witness2
  case hc =>
    refine LamX.walk_ofTsE (l := PySem.Challenge.rw_cardhall_k01_cards) (n := 63) (k := 10) (x := "script") (CX := fun w => L2.CX PySem.Challenge.rw_cardhall_k01_cards.prog w) rfl (by decide) (by kernel_rfl) ⟨rfl, by decide, by decide⟩ ?F (fun w H s e s' ⟨_, _, _, _, _, _, _, _, _, _, _, _, z⟩ => z)
    intro w mg fa h Y G hmg0
    obtain ⟨K, KX, c⟩ := Y
    have hmg : mg ("law" : PySem.Str) = some (.ref fa) := by
      have e : (HandSHeadRun.topDef (OpenLaw.row PySem.Challenge.rw_cardhall_k01_cards).prog 37).name = ("law" : PySem.Str) := by kernel_rfl
      rw [← e]
      exact hmg0
    exact ⟨K, KX, CardH.lawAt pl KX G hmg c⟩
end
open PySem PySem.W PyProof.Rows
set_option maxRecDepth 100000 in
set_option maxHeartbeats 8000000 in
theorem PySem.Challenge.cw_cardhall_k01_cards_holds : PySem.Challenge.rw_cardhall_k01_cards.Holds := by
  exact end_cardhall_k01_cards fun ns _ _ => CardH.law_ok ns
