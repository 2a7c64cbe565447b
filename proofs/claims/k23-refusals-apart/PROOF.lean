import PyProof.Rows.All
import Wide.All
import OpenK.AllK
import Wide.FinOn
import HandS.ForMost
import HandS.ForExc
import HandS.TryMany
import HandS.Lambda
import HandS.EndTab
import HandS.Walk
import HandS.Codes
import HandS.RaiseMore
import HandS.More
import HandS.Nested
import HandS.TupAny
import HandS.Wide
import HandS.Conv
import KE.DataCmp
import PyProof.Rows.InDataRows
import HandS.Dict
import HandS.Iter
import HandS.Rev
import HandS.Comp
import HandS.WordsExc
import HandS.Sort
import HandS.SortInts
import HandS.IsInst
import HandS.Small
import HandS.Style
import HandS.Defaults
import HandS.HeadHook4
import HandS.NestedK
import KE.GoesMore
import KE.GoesEnum
import HandS.GenList
import PyProof.GenCompD
import PyProof.CodeObjX
import PyProof.ConsumeS
import PyProof.SumAny
import HandS.Replace
import HandS.Strs
import HandS.RevTup
import HandS.DictTup
import HandS.DictComp
import KE.SortData
import KE.DataMinMax
import HandS.SetFor
import HandS.Flt
import HandS.Zip
import PyProof.TupleOfStr
import HandS.Text
import PyProof.Rows.StrMeet
import KE.SortKeyHeap
import HandS.SortKw
import HandS.Keys
import HandS.Deep
import PyProof.DictWalks
import KE.GoesNew
import HandS.Flow
import KE.DataMinKey
import PyProof.WalksMore
import PyProof.SeqRoads2
import KE.KItemsList
import HandS.ListItems
import PyProof.TupleOfGen
import KE.DataFind
import KE.KDictZip
import KE.DataAny
import KE.KEqNest
import PyProof.NeKinds
import KE.KExcSuper
import KE.KExcInit
import KE.KSuper
import PyProof.ExcBaseAll.ValueError
import HandS.ExcInit
import HandS.ExcIs
import KE.KExcIs
import HandS.StrSplit
import PyProof.StrBlock2
import KE.KStateDown
import HandS.Base
import HandS.Call
import HandS.Ends
import HandS.Words
import HandS.Head0
import HandS.Head1
import HandS.Head2
import HandS.HeadEnd
import HandS.HeadHook1
import HandS.HeadHook2
import HandS.HeadHook3
import HandS.HeadWalk
import PyProof.StrLawsOcc
import PySem.Challenge.RW_cardhall_k23_refusals_apart
set_option Elab.async false
set_option linter.all false
set_option maxRecDepth 100000
section
set_option maxHeartbeats 2000000
namespace CardH
open PySem PySem.Spec PyProof.Rows L2

inductive Vl where
  | non | bl (b : Bool) | int (i : Int) | str (x : Str)
  | tup (xs : List Vl) | lst (xs : List Vl) | dct (t : Bool) (kvs : List (Vl × Vl)) | ref (i : Nat)
  /-- the law's script: read only -/
  | scr (ns : List Int)
  /-- a tuple of the module's own; one that no more is told of (a dict's key) -/
  | ktp (xs : List Vl) | stp (xs : List Vl)
inductive Fv where
  | val (x : Vl) | ol (xs : List Vl) | od (t : Bool) (kvs : List (Vl × Vl))
def Fv.toVl : Fv → Vl
  | .val x => x
  | .ol xs => .lst xs
  | .od t kvs => .dct t kvs
inductive Ob where
  | lst (xs : List Vl) | ins (C : Nat) (fs : List (Nat × Fv))
  /-- a dict; lk: it is walked just now; t: its keys are tuples -/
  | dct (lk t : Bool) (kvs : List (Vl × Vl))
  /-- a list that is walked just now -/
  | frl (xs : List Vl)
structure Ex where
  cls : Nat
  row : Option Int := none
abbrev Gst := List Ob
abbrev LEnv := List (Option Fv)
inductive R (α : Type) where
  | ok (a : α) (G : Gst) | exn (c : Ex) (G : Gst) | bad
inductive SR where
  | nx (e : LEnv) (G : Gst) | rt (v : Vl) (G : Gst) | bk (e : LEnv) (G : Gst) | ct (e : LEnv) (G : Gst) | ex (c : Ex) (e : LEnv) (G : Gst) | bad
abbrev DE := LEnv → Gst → R Vl
abbrev DT := LEnv → Gst → R Bool
abbrev DA := LEnv → Gst → R (List Vl)
abbrev DS := LEnv → Gst → SR

inductive Role where
  | no | froz | slot (i : Nat) | fld (i : Nat) (f : Nat) | obj (i : Nat)
  /-- a list being made: nobody else knows it -/
  | tmp
  deriving DecidableEq
def keyOf : Vl → Option Key
  | .int i => some (.inl i)
  | .str x => some (.inr x)
  | _ => none
def keysOf : List Vl → Option (List Key)
  | [] => some []
  | x :: xs => match keyOf x, keysOf xs with
    | some k, some ks => some (k :: ks)
    | _, _ => none
def okK1 : Vl → Bool
  | .str x => x.cps.all (· < 0x110000)
  | _ => true
def okK : Vl → Bool
  | .stp xs => xs.all okK1
  | x => okK1 x
def keyTOf : Vl → Option (List Key)
  | .stp xs => keysOf xs
  | _ => none

def KTup (K : PySem.W.Frag) (a : Addr) (xs : List V) : Prop := ∃ (o : Obj) (its : Array Value) (n : Nat), K.lookup a = some o ∧ o.cls = .type "tuple" ∧ o.data = .seq its n ∧ its.size ≤ sizeLine ∧ Vals xs its.toList
def KLst (K : PySem.W.Frag) (a : Addr) (xs : List V) : Prop := ∃ (o : Obj) (its : Array Value) (n : Nat), K.lookup a = some o ∧ o.cls = .type "list" ∧ o.dict = none ∧ o.data = .seq its n ∧ its.size ≤ sizeLine ∧ Vals xs its.toList

def okStr (x : Str) : Bool := x.cps.all (· < 0x110000)
structure Wd where
  Γ : Addr → Role
  ρ : List Addr
  H : Hp

section
variable (K : PySem.W.Frag) (W : Wd)
mutual
def Rep : Vl → V → Prop
  | .non, v => v = .non
  | .bl b, v => v = .bl b
  | .int i, v => v = .int i
  | .str x, v => v = .str x ∧ okStr x = true
  | .tup xs, v => ∃ a vs o, v = .ref a ∧ W.Γ a = .no ∧ W.H a = some (.frz o (.tup vs)) ∧ o.dict = none ∧ Reps xs vs
  | .stp xs, v => ∃ a vs, v = .ref a ∧ W.H a = some (.tup vs) ∧ Reps xs vs
  | .lst xs, v => ∃ a vs, v = .ref a ∧ W.Γ a = .froz ∧ W.H a = some (.lst vs) ∧ Reps xs vs
  | .dct false kvs, v => ∃ a o ks, v = .ref a ∧ W.Γ a = .froz ∧ W.H a = some (.frz o (.dK ks)) ∧ RepK kvs ks
  | .dct true kvs, v => ∃ a o ks, v = .ref a ∧ W.Γ a = .froz ∧ W.H a = some (.frz o (.dT ks)) ∧ RepT kvs ks
  | .ref i, v => ∃ a, v = .ref a ∧ W.ρ[i]? = some a
  | .ktp xs, v => ∃ a vs, v = .ref a ∧ KTup K a vs ∧ Reps xs vs
  | .scr ns, v => ∃ a, v = .ref a ∧ ((W.Γ a = .no ∧ Rd W.H a (.lst (ns.map V.int))) ∨ KLst K a (ns.map V.int))
def Reps : List Vl → List V → Prop
  | [], vs => vs = []
  | x :: xs, vs => ∃ v r, vs = v :: r ∧ Rep x v ∧ Reps xs r
def RepK : List (Vl × Vl) → List (Key × V) → Prop
  | [], ks => ks = []
  | (k, x) :: kvs, ks => ∃ q v r, ks = (q, v) :: r ∧ (keyOf k = some q ∧ okK k = true) ∧ Rep x v ∧ RepK kvs r
def RepT : List (Vl × Vl) → List (List Key × V) → Prop
  | [], ks => ks = []
  | (k, x) :: kvs, ks => ∃ q v r, ks = (q, v) :: r ∧ (keyTOf k = some q ∧ okK k = true) ∧ Rep x v ∧ RepT kvs r
end
end

def Role.still : Role → Bool
  | .obj _ => false
  | .fld _ _ => false
  | _ => true
structure Ext (p : Bool) (W W' : Wd) : Prop where
  role : ∀ a, W.H a ≠ none → W'.Γ a = W.Γ a
  keep : ∀ a o, W.H a = some o → (∀ ps, o ≠ .tbl ps) → (p = true ∨ (W.Γ a).still = true) → W'.H a = some o
  tups : ∀ a xs, W.H a = some (.tup xs) → W'.H a = some (.tup xs)
  frz : ∀ a o u, W.H a = some (.frz o u) → W'.H a = some (.frz o u)
  there : ∀ a, W.H a ≠ none → W'.H a ≠ none
  pre : ∃ r, W'.ρ = W.ρ ++ r
structure ExtR (p : Bool) (S : Role → Bool) (W W' : Wd) : Prop where
  role : ∀ a, W.H a ≠ none → S (W.Γ a) = false → W'.Γ a = W.Γ a
  keep : ∀ a o, W.H a = some o → (∀ ps, o ≠ .tbl ps) → S (W.Γ a) = false → (p = true ∨ (W.Γ a).still = true) → W'.H a = some o
  tups : ∀ a xs, W.H a = some (.tup xs) → W'.H a = some (.tup xs)
  frz : ∀ a o u, W.H a = some (.frz o u) → S (W.Γ a) = false → W'.H a = some (.frz o u)
  there : ∀ a, W.H a ≠ none → W'.H a ≠ none
  pre : ∃ r, W'.ρ = W.ρ ++ r
theorem Ext.toR {p : Bool} {W W' : Wd} (e : Ext p W W') : ExtR p (fun _ => false) W W' := ⟨fun a h _ => e.role a h, fun a o h nt _ hp => e.keep a o h nt hp, e.tups, fun a o u h _ => e.frz a o u h, e.there, e.pre⟩
theorem Ext.refl {p : Bool} {W : Wd} : Ext p W W := ⟨fun _ _ => rfl, fun _ _ h _ _ => h, fun _ _ h => h, fun _ _ _ h => h, fun _ h => h, [], by simp⟩
theorem Ext.trans {p q : Bool} {W W1 W2 : Wd} (a : Ext p W W1) (b : Ext q W1 W2) : Ext (p && q) W W2 where
  role := fun x h => (b.role x (a.there x h)).trans (a.role x h)
  keep := fun x o h nt hp => by
    have h1 : W1.H x = some o := a.keep x o h nt (hp.imp (fun z => (Bool.and_eq_true _ _ ▸ z).1) id)
    exact b.keep x o h1 nt (hp.imp (fun z => (Bool.and_eq_true _ _ ▸ z).2) fun z => by rw [a.role x (by rw [h]; simp)]; exact z)
  tups := fun x xs h => b.tups x xs (a.tups x xs h)
  frz := fun x o u h => b.frz x o u (a.frz x o u h)
  there := fun x h => b.there x (a.there x h)
  pre := by
    obtain ⟨r, e⟩ := a.pre
    obtain ⟨r', e'⟩ := b.pre
    exact ⟨r ++ r', by rw [e', e, List.append_assoc]⟩
theorem Ext.mono {p q : Bool} {W W' : Wd} (a : Ext p W W') (h : q = true → p = true) : Ext q W W' :=
  ⟨a.role, fun x o hx nt hp => a.keep x o hx nt (hp.imp h id), a.tups, a.frz, a.there, a.pre⟩
theorem Ext.weak {p : Bool} {W W' : Wd} (a : Ext true W W') : Ext p W W' := a.mono fun _ => rfl
theorem ExtR.refl {p : Bool} {S : Role → Bool} {W : Wd} : ExtR p S W W := ⟨fun _ _ _ => rfl, fun _ _ h _ _ _ => h, fun _ _ h => h, fun _ _ _ h _ => h, fun _ h => h, [], by simp⟩
theorem ExtR.trans {p : Bool} {S : Role → Bool} {W W1 W2 : Wd} (a : ExtR p S W W1) (b : ExtR p S W1 W2) : ExtR p S W W2 where
  role := fun x h hs => by
    have h1 := a.role x h hs
    exact (b.role x (a.there x h) (by rw [h1]; exact hs)).trans h1
  keep := fun x o h nt hs hp => by
    have hn : W.H x ≠ none := by rw [h]; simp
    have h1 := a.role x hn hs
    exact b.keep x o (a.keep x o h nt hs hp) nt (by rw [h1]; exact hs) (by rw [h1]; exact hp)
  tups := fun x xs h => b.tups x xs (a.tups x xs h)
  frz := fun x o u h hs => b.frz x o u (a.frz x o u h hs) (by rw [a.role x (by rw [h]; simp) hs]; exact hs)
  there := fun x h => b.there x (a.there x h)
  pre := by
    obtain ⟨r, e⟩ := a.pre
    obtain ⟨r', e'⟩ := b.pre
    exact ⟨r ++ r', by rw [e', e, List.append_assoc]⟩
def isSl : Role → Bool
  | .slot _ => true
  | _ => false
abbrev ExtS (W W' : Wd) : Prop := ExtR false isSl W W'
theorem Ext.toS {p : Bool} {W W' : Wd} (e : Ext p W W') : ExtS W W' := ⟨fun a h _ => e.role a h, fun a o h nt _ hp => e.keep a o h nt (hp.imp (fun z => nomatch z) id), e.tups, fun a o u h _ => e.frz a o u h, e.there, e.pre⟩
theorem ExtR.ref {p : Bool} {S : Role → Bool} {W W' : Wd} (a : ExtR p S W W') {i : Nat} {x : Addr} (h : W.ρ[i]? = some x) : W'.ρ[i]? = some x := by
  obtain ⟨r, e⟩ := a.pre
  rw [e, List.getElem?_append_left (List.getElem?_eq_some_iff.mp h).1, h]
theorem rd_some {H : Hp} {a : Addr} {u : HO} (h : Rd H a u) : H a ≠ none := by
  rcases h with h | ⟨o, h⟩ <;> rw [h] <;> simp
theorem rd_keep {p : Bool} {S : Role → Bool} {W W' : Wd} (e : ExtR p S W W') {a : Addr} {u : HO} (ht : S (W.Γ a) = false) (hp : p = true ∨ (W.Γ a).still = true) (nt : ∀ ps, u ≠ .tbl ps) (h : Rd W.H a u) : Rd W'.H a u := by
  rcases h with h | ⟨o, h⟩
  · exact .inl (e.keep a _ h nt ht hp)
  · exact .inr ⟨o, e.keep a _ h (fun _ z => nomatch z) ht hp⟩

section
variable {K : PySem.W.Frag} {p : Bool} {S : Role → Bool} {W W' : Wd}
mutual
theorem Rep.extR (e : ExtR p S W W') (h0 : S .no = false) (h1' : S .froz = false) : ∀ (x : Vl) (v : V), Rep K W x v → Rep K W' x v
  | .non, _, h => h
  | .bl _, _, h => h
  | .int _, _, h => h
  | .str _, _, h => h
  | .tup xs, v, h => by
    obtain ⟨a, vs, o, e1, g, h1, hd, h2⟩ := h
    exact ⟨a, vs, o, e1, (e.role a (by rw [h1]; simp) (by rw [g]; exact h0)).trans g, e.keep a _ h1 (fun _ z => nomatch z) (by rw [g]; exact h0) (.inr (by rw [g]; rfl)), hd, Reps.extR e h0 h1' xs vs h2⟩
  | .stp xs, v, h => by
    obtain ⟨a, vs, e1, h1, h2⟩ := h
    exact ⟨a, vs, e1, e.tups a vs h1, Reps.extR e h0 h1' xs vs h2⟩
  | .lst xs, v, h => by
    obtain ⟨a, vs, e1, g, h1, h2⟩ := h
    exact ⟨a, vs, e1, (e.role a (by rw [h1]; simp) (by rw [g]; exact h1')).trans g, e.keep a _ h1 (fun _ z => nomatch z) (by rw [g]; exact h1') (.inr (by rw [g]; rfl)), Reps.extR e h0 h1' xs vs h2⟩
  | .dct false kvs, v, h => by
    obtain ⟨a, o, ks, e1, g, r, h2⟩ := h
    exact ⟨a, o, ks, e1, (e.role a (by rw [r]; simp) (by rw [g]; exact h1')).trans g, e.frz a _ _ r (by rw [g]; exact h1'), RepK.extR e h0 h1' kvs ks h2⟩
  | .dct true kvs, v, h => by
    obtain ⟨a, o, ks, e1, g, r, h2⟩ := h
    exact ⟨a, o, ks, e1, (e.role a (by rw [r]; simp) (by rw [g]; exact h1')).trans g, e.frz a _ _ r (by rw [g]; exact h1'), RepT.extR e h0 h1' kvs ks h2⟩
  | .ref i, v, h => by
    obtain ⟨a, e1, h1⟩ := h
    exact ⟨a, e1, e.ref h1⟩
  | .ktp xs, v, h => by
    obtain ⟨a, vs, e1, h1, h2⟩ := h
    exact ⟨a, vs, e1, h1, Reps.extR e h0 h1' xs vs h2⟩
  | .scr ns, v, h => by
    obtain ⟨a, e1, h1⟩ := h
    exact ⟨a, e1, h1.imp (fun ⟨g, r⟩ => ⟨(e.role a (rd_some r) (by rw [g]; exact h0)).trans g, rd_keep e (by rw [g]; exact h0) (.inr (by rw [g]; rfl)) (fun _ z => nomatch z) r⟩) id⟩
theorem Reps.extR (e : ExtR p S W W') (h0 : S .no = false) (h1' : S .froz = false) : ∀ (xs : List Vl) (vs : List V), Reps K W xs vs → Reps K W' xs vs
  | [], _, h => h
  | x :: xs, vs, h => by
    obtain ⟨v, r, e1, h1, h2⟩ := h
    exact ⟨v, r, e1, Rep.extR e h0 h1' x v h1, Reps.extR e h0 h1' xs r h2⟩
theorem RepK.extR (e : ExtR p S W W') (h0 : S .no = false) (h1' : S .froz = false) : ∀ (kvs : List (Vl × Vl)) (ks : List (Key × V)), RepK K W kvs ks → RepK K W' kvs ks
  | [], _, h => h
  | (k, x) :: kvs, ks, h => by
    obtain ⟨q, v, r, e1, e2, h1, h2⟩ := h
    exact ⟨q, v, r, e1, e2, Rep.extR e h0 h1' x v h1, RepK.extR e h0 h1' kvs r h2⟩
theorem RepT.extR (e : ExtR p S W W') (h0 : S .no = false) (h1' : S .froz = false) : ∀ (kvs : List (Vl × Vl)) (ks : List (List Key × V)), RepT K W kvs ks → RepT K W' kvs ks
  | [], _, h => h
  | (k, x) :: kvs, ks, h => by
    obtain ⟨q, v, r, e1, e2, h1, h2⟩ := h
    exact ⟨q, v, r, e1, e2, Rep.extR e h0 h1' x v h1, RepT.extR e h0 h1' kvs r h2⟩
end

theorem Rep.ext (e : Ext p W W') (x : Vl) (v : V) (h : Rep K W x v) : Rep K W' x v := Rep.extR e.toR rfl rfl x v h
theorem Reps.ext (e : Ext p W W') (xs : List Vl) (vs : List V) (h : Reps K W xs vs) : Reps K W' xs vs := Reps.extR e.toR rfl rfl xs vs h
theorem RepK.ext (e : Ext p W W') (kvs : List (Vl × Vl)) (ks : List (Key × V)) (h : RepK K W kvs ks) : RepK K W' kvs ks := RepK.extR e.toR rfl rfl kvs ks h
theorem RepT.ext (e : Ext p W W') (kvs : List (Vl × Vl)) (ks : List (List Key × V)) (h : RepT K W kvs ks) : RepT K W' kvs ks := RepT.extR e.toR rfl rfl kvs ks h

theorem Reps.length : ∀ {xs : List Vl} {vs : List V}, Reps K W xs vs → xs.length = vs.length
  | [], _, h => by cases h; rfl
  | _ :: xs, _, h => by
    obtain ⟨v, r, rfl, _, h2⟩ := h
    simp [Reps.length h2]
theorem Reps.get : ∀ {xs : List Vl} {vs : List V} {i : Nat} {x : Vl}, Reps K W xs vs → xs[i]? = some x → ∃ v, vs[i]? = some v ∧ Rep K W x v
  | [], _, _, _, _, h => by simp at h
  | y :: xs, _, 0, x, h, e => by
    obtain ⟨v, r, rfl, h1, _⟩ := h
    simp at e; subst e; exact ⟨v, rfl, h1⟩
  | y :: xs, _, i + 1, x, h, e => by
    obtain ⟨v, r, rfl, _, h2⟩ := h
    obtain ⟨u, a, b⟩ := Reps.get (i := i) h2 (by simpa using e)
    exact ⟨u, by simpa using a, b⟩
theorem Reps.get' : ∀ {xs : List Vl} {vs : List V} {i : Nat} {v : V}, Reps K W xs vs → vs[i]? = some v → ∃ x, xs[i]? = some x ∧ Rep K W x v := fun {xs vs i v} h e => by
  have l := h.length
  have hi : i < vs.length := (List.getElem?_eq_some_iff.mp e).1
  obtain ⟨u, a, b⟩ := h.get (i := i) (x := xs[i]'(by omega)) (by simp [l, hi])
  rw [e] at a; cases a
  exact ⟨_, by simp [l, hi], b⟩
theorem Reps.append : ∀ {xs ys : List Vl} {vs us : List V}, Reps K W xs vs → Reps K W ys us → Reps K W (xs ++ ys) (vs ++ us)
  | [], _, _, _, h, g => by cases h; exact g
  | _ :: _, _, _, _, h, g => by
    obtain ⟨v, r, rfl, h1, h2⟩ := h
    exact ⟨v, _, rfl, h1, Reps.append h2 g⟩
theorem Reps.take : ∀ {xs : List Vl} {vs : List V} (n : Nat), Reps K W xs vs → Reps K W (xs.take n) (vs.take n)
  | _, _, 0, _ => by simp [Reps]
  | [], _, _ + 1, h => by cases h; simp [Reps]
  | _ :: _, _, n + 1, h => by
    obtain ⟨v, r, rfl, h1, h2⟩ := h
    exact ⟨v, _, rfl, h1, Reps.take n h2⟩
theorem Reps.drop : ∀ {xs : List Vl} {vs : List V} (n : Nat), Reps K W xs vs → Reps K W (xs.drop n) (vs.drop n)
  | _, _, 0, h => h
  | [], _, _ + 1, h => by cases h; simp [Reps]
  | _ :: _, _, n + 1, h => by
    obtain ⟨v, r, rfl, h1, h2⟩ := h
    exact Reps.drop n h2
theorem Reps.reverse {xs : List Vl} {vs : List V} (h : Reps K W xs vs) : Reps K W xs.reverse vs.reverse := by
  induction xs generalizing vs with
  | nil => cases h; simp [Reps]
  | cons x xs ih =>
    obtain ⟨v, r, rfl, h1, h2⟩ := h
    simp only [List.reverse_cons]
    exact (ih h2).append ⟨v, [], rfl, h1, rfl⟩
theorem Reps.set : ∀ {xs : List Vl} {vs : List V} (i : Nat) {x : Vl} {v : V}, Reps K W xs vs → Rep K W x v → Reps K W (xs.set i x) (vs.set i v)
  | [], _, _, _, _, h, _ => by cases h; simp [Reps]
  | _ :: _, _, 0, _, _, h, g => by
    obtain ⟨v, r, rfl, h1, h2⟩ := h
    exact ⟨_, r, rfl, g, h2⟩
  | _ :: _, _, i + 1, _, _, h, g => by
    obtain ⟨v, r, rfl, h1, h2⟩ := h
    exact ⟨v, _, rfl, h1, Reps.set i h2 g⟩
theorem Reps.one {x : Vl} {v : V} (h : Rep K W x v) : Reps K W [x] [v] := ⟨v, [], rfl, h, rfl⟩
end

structure Kt where
  K : PySem.W.Frag
  mg : Str → Option Value
  cls : Nat → Addr
  exc : Nat → Value
  names : List Str
  T : List NdefX.NTab

def FvRep (K : PySem.W.Frag) (W : Wd) (r : Role) : Fv → V → Prop
  | .val x, v => Rep K W x v
  | .ol xs, v => ∃ a vs, v = .ref a ∧ W.Γ a = r ∧ W.H a = some (.lst vs) ∧ Reps K W xs vs
  | .od false kvs, v => ∃ a ks, v = .ref a ∧ W.Γ a = r ∧ Rd W.H a (.dK ks) ∧ RepK K W kvs ks
  | .od true kvs, v => ∃ a ks, v = .ref a ∧ W.Γ a = r ∧ Rd W.H a (.dT ks) ∧ RepT K W kvs ks
def Fv.own : Fv → Bool
  | .val _ => false
  | _ => true
theorem FvRep.extR {K : PySem.W.Frag} {p : Bool} {S : Role → Bool} {W W' : Wd} {r : Role} (e : ExtR p S W W') (h0 : S .no = false) (h1' : S .froz = false) (ht : S r = false) (hp : p = true ∨ r.still = true) : ∀ (x : Fv) (v : V), FvRep K W r x v → FvRep K W' r x v
  | .val x, v, h => Rep.extR e h0 h1' x v h
  | .ol xs, v, h => by
    obtain ⟨a, vs, e1, g, h1, h2⟩ := h
    exact ⟨a, vs, e1, (e.role a (by rw [h1]; simp) (by rw [g]; exact ht)).trans g, e.keep a _ h1 (fun _ z => nomatch z) (by rw [g]; exact ht) (by rw [g]; exact hp), Reps.extR e h0 h1' _ _ h2⟩
  | .od false kvs, v, h => by
    obtain ⟨a, ks, e1, g, h1, h2⟩ := h
    exact ⟨a, ks, e1, (e.role a (rd_some h1) (by rw [g]; exact ht)).trans g, rd_keep e (by rw [g]; exact ht) (by rw [g]; exact hp) (fun _ z => nomatch z) h1, RepK.extR e h0 h1' _ _ h2⟩
  | .od true kvs, v, h => by
    obtain ⟨a, ks, e1, g, h1, h2⟩ := h
    exact ⟨a, ks, e1, (e.role a (rd_some h1) (by rw [g]; exact ht)).trans g, rd_keep e (by rw [g]; exact ht) (by rw [g]; exact hp) (fun _ z => nomatch z) h1, RepT.extR e h0 h1' _ _ h2⟩
def FldsRep (kt : Kt) (W : Wd) (i : Nat) : List (Nat × Fv) → List (Str × V) → Prop
  | [], fv => fv = []
  | (f, x) :: fs, fv => ∃ nm v r, kt.names[f]? = some nm ∧ fv = (nm, v) :: r ∧ FvRep kt.K W (.fld i f) x v ∧ FldsRep kt W i fs r
theorem FldsRep.extR {kt : Kt} {S : Role → Bool} {W W' : Wd} {i : Nat} (e : ExtR true S W W') (h0 : S .no = false) (h1' : S .froz = false) (hf : ∀ f, S (.fld i f) = false) : ∀ (fs : List (Nat × Fv)) (fv : List (Str × V)), FldsRep kt W i fs fv → FldsRep kt W' i fs fv
  | [], _, h => h
  | (f, x) :: fs, fv, h => by
    obtain ⟨nm, v, r, hn, e1, h1, h2⟩ := h
    exact ⟨nm, v, r, hn, e1, FvRep.extR e h0 h1' (hf f) (.inl rfl) _ _ h1, FldsRep.extR e h0 h1' hf fs r h2⟩
def FldsOk (kt : Kt) (C : Nat) (fs : List (Nat × Fv)) : Prop := Cls kt.K (kt.cls C) ∧ ∀ f nm, f ∈ fs.map (·.1) → kt.names[f]? = some nm → NoAttr kt.K (kt.cls C) nm
def DRep (K : PySem.W.Frag) (W : Wd) (t : Bool) (kvs : List (Vl × Vl)) (u : HO) : Prop := match t with
  | false => ∃ ks, u = .dK ks ∧ RepK K W kvs ks
  | true => ∃ ks, u = .dT ks ∧ RepT K W kvs ks
def DAt (W : Wd) (a : Addr) (lk : Bool) (u : HO) : Prop := match lk with
  | false => W.H a = some u
  | true => ∃ o, W.H a = some (.frz o u)
theorem DRep.extR {K : PySem.W.Frag} {p : Bool} {S : Role → Bool} {W W' : Wd} {t : Bool} {kvs : List (Vl × Vl)} {u : HO} (e : ExtR p S W W') (h0 : S .no = false) (h1' : S .froz = false) (h : DRep K W t kvs u) : DRep K W' t kvs u := by
  cases t with
  | false => obtain ⟨ks, e1, r⟩ := h; exact ⟨ks, e1, RepK.extR e h0 h1' _ _ r⟩
  | true => obtain ⟨ks, e1, r⟩ := h; exact ⟨ks, e1, RepT.extR e h0 h1' _ _ r⟩
theorem DRep.ext {K : PySem.W.Frag} {p : Bool} {W W' : Wd} {t : Bool} {kvs : List (Vl × Vl)} {u : HO} (e : Ext p W W') (h : DRep K W t kvs u) : DRep K W' t kvs u := h.extR e.toR rfl rfl
theorem DRep.plain {K : PySem.W.Frag} {W : Wd} {t : Bool} {kvs : List (Vl × Vl)} {u : HO} (h : DRep K W t kvs u) : ∀ ps, u ≠ .tbl ps := fun ps z => by
  cases t <;> obtain ⟨ks, e1, r⟩ := h <;> rw [e1] at z <;> cases z
theorem DAt.some {W : Wd} {a : Addr} {lk : Bool} {u : HO} (h : DAt W a lk u) : W.H a ≠ none := by
  cases lk with
  | false => have h : W.H a = _ := h; rw [h]; simp
  | true => obtain ⟨o, h⟩ := h; rw [h]; simp
theorem DAt.rd {W : Wd} {a : Addr} {lk : Bool} {u : HO} (h : DAt W a lk u) : Rd W.H a u := by
  cases lk with
  | false => exact .inl h
  | true => exact .inr h
theorem DAt.keep {S : Role → Bool} {W W' : Wd} {a : Addr} {lk : Bool} {u : HO} (e : ExtR true S W W') (hs : S (W.Γ a) = false) (nt : ∀ ps, u ≠ .tbl ps) (h : DAt W a lk u) : DAt W' a lk u := by
  cases lk with
  | false => exact e.keep a u h nt hs (.inl rfl)
  | true => obtain ⟨o, h⟩ := h; exact ⟨o, e.frz a o u h hs⟩
theorem DAt.same {W W' : Wd} {a : Addr} {lk : Bool} {u : HO} (e : W'.H a = W.H a) (h : DAt W a lk u) : DAt W' a lk u := by
  cases lk with
  | false => exact e.trans h
  | true => obtain ⟨o, h⟩ := h; exact ⟨o, e.trans h⟩
def ObRep (kt : Kt) (W : Wd) (i : Nat) (a : Addr) : Ob → Prop
  | .dct lk t kvs => ∃ u, DRep kt.K W t kvs u ∧ DAt W a lk u
  | .lst xs => ∃ vs, W.H a = some (.lst vs) ∧ Reps kt.K W xs vs
  | .ins C fs => ∃ dx fv, W.H a = some (.ins (kt.cls C) dx fv) ∧ FldsRep kt W i fs fv ∧ FldsOk kt C fs
  | .frl xs => ∃ od vs, W.H a = some (.frz od (.lst vs)) ∧ Reps kt.K W xs vs
structure RG (kt : Kt) (W : Wd) (G : Gst) : Prop where
  len : W.ρ.length = G.length
  ob : ∀ i o, G[i]? = some o → ∃ a, W.ρ[i]? = some a ∧ W.Γ a = .obj i ∧ ObRep kt W i a o
structure WOk (kt : Kt) (W : Wd) (G : Gst) : Prop where
  tr : ∀ a, W.Γ a ≠ .no → W.H a ≠ none
  rg : RG kt W G
  tabs : NdefX.TabsN kt.T W.H
  tb : ∀ b ps, W.H b = some (.tbl ps) → True
def Role.lockable : Role → Bool
  | .slot _ => false
  | .fld _ _ => false
  | _ => true
def NoLock (W : Wd) : Prop := ∀ a o u, W.H a = some (.frz o u) → (W.Γ a).lockable = true
structure Bs where
  W0 : Wd
  p : Bool
  lk : Bool
structure RE (kt : Kt) (H0 : Hp) (W : Wd) (σ : L2.St) (env : LEnv) : Prop where
  len : env.length = σ.length
  sl : ∀ i fv, env[i]? = some (some fv) → ∃ v, σ[i]? = some (some v) ∧ FvRep kt.K W (.slot i) fv v ∧ (fv.own = true → ∀ a, v = .ref a → H0 a = none)
structure RAll (kt : Kt) (B : Bs) (W : Wd) (σ : L2.St) (env : LEnv) (G : Gst) : Prop where
  ok : WOk kt W G
  re : RE kt B.W0.H W σ env
  si : Ext B.p B.W0 W
  nl : B.lk = false → NoLock W
def Wd.alloc (W : Wd) (p : Addr) (o : HO) (r : Role) : Wd := ⟨fun a => if a = p then r else W.Γ a, W.ρ, upd W.H p o⟩
def okO : HO → Bool
  | .lst _ => true
  | .tup _ => true
  | .dK _ => true
  | .dT _ => true
  | .frz _ (.tup _) => true
  | .frz _ (.dK _) => true
  | .frz _ (.dT _) => true
  | .rng _ _ => true
  | _ => false
def okA (o : HO) (r : Role) : Bool := match o with
  | .frz _ _ => decide (r = .no ∨ r = .froz)
  | _ => true
section
variable {kt : Kt} {B : Bs} {W W' : Wd} {σ : L2.St} {env : LEnv} {G : Gst} {p : Addr} {o : HO} {r : Role}
theorem Ext.alloc (hp : W.H p = none) : Ext true W (W.alloc p o r) where
  role := fun a ha => if_neg (fun e => ha (by rw [e]; exact hp))
  keep := fun a u h _ _ => (upd_ne (ne_of_none h hp)).trans h
  tups := fun a xs h => (upd_ne (ne_of_none h hp)).trans h
  frz := fun a o u h => (upd_ne (ne_of_none h hp)).trans h
  there := fun a h => by
    show upd W.H p o a ≠ none
    rw [upd_ne (fun e => h (by rw [e]; exact hp))]; exact h
  pre := ⟨[], by simp [Wd.alloc]⟩
theorem RE.extR {H0 : Hp} (h : RE kt H0 W σ env) {q : Bool} {S : Role → Bool} (e : ExtR q S W W') (h0 : S .no = false) (h1' : S .froz = false) (hs : ∀ i, S (.slot i) = false) : RE kt H0 W' σ env :=
  ⟨h.len, fun i fv hi => let ⟨v, a, b, c⟩ := h.sl i fv hi; ⟨v, a, FvRep.extR e h0 h1' (hs i) (.inr rfl) _ _ b, c⟩⟩
theorem RE.ext {H0 : Hp} (h : RE kt H0 W σ env) {q : Bool} (e : Ext q W W') : RE kt H0 W' σ env := h.extR e.toR rfl rfl fun _ => rfl
theorem RG.extR (h : RG kt W G) {S : Role → Bool} (e : ExtR true S W W') (h0 : S .no = false) (h1' : S .froz = false) (ho : ∀ i, S (.obj i) = false) (hf : ∀ i f, S (.fld i f) = false) (hr : W'.ρ = W.ρ) : RG kt W' G := by
  refine ⟨by rw [hr]; exact h.len, fun i o hi => ?_⟩
  obtain ⟨a, h1, h2, h3⟩ := h.ob i o hi
  refine ⟨a, by rw [hr]; exact h1, ?_, ?_⟩
  · refine (e.role a ?_ (by rw [h2]; exact ho i)).trans h2
    cases o with
    | lst xs => obtain ⟨vs, q, _⟩ := h3; rw [q]; simp
    | dct lk t kvs => obtain ⟨u, _, q⟩ := h3; exact q.some
    | ins C fs => obtain ⟨dx, fv, q, _⟩ := h3; rw [q]; simp
    | frl xs => obtain ⟨od, vs, q, _⟩ := h3; rw [q]; simp
  · cases o with
    | lst xs =>
      obtain ⟨vs, q, z⟩ := h3
      exact ⟨vs, e.keep a _ q (fun _ z => nomatch z) (by rw [h2]; exact ho i) (.inl rfl), Reps.extR e h0 h1' _ _ z⟩
    | dct lk t kvs =>
      obtain ⟨u, q, z⟩ := h3
      exact ⟨u, q.extR e h0 h1', z.keep e (by rw [h2]; exact ho i) q.plain⟩
    | ins C fs =>
      obtain ⟨dx, fv, q, z, k⟩ := h3
      exact ⟨dx, fv, e.keep a _ q (fun _ z => nomatch z) (by rw [h2]; exact ho i) (.inl rfl), FldsRep.extR e h0 h1' (hf i) _ _ z, k⟩
    | frl xs =>
      obtain ⟨od, vs, q, z⟩ := h3
      exact ⟨od, vs, e.frz a _ _ q (by rw [h2]; exact ho i), Reps.extR e h0 h1' _ _ z⟩
theorem RG.ext (h : RG kt W G) (e : Ext true W W') (hr : W'.ρ = W.ρ) : RG kt W' G := h.extR e.toR rfl rfl (fun _ => rfl) (fun _ _ => rfl) hr
theorem tabsN_upd {T : List NdefX.NTab} {H : Hp} (h : NdefX.TabsN T H) (hp : H p = none) : NdefX.TabsN T (upd H p o) :=
  h.ext fun b u q => (upd_ne (ne_of_none q hp)).trans q
theorem WOk.alloc (h : WOk kt W G) (hp : W.H p = none) (ho : okO o = true) : WOk kt (W.alloc p o r) G where
  tr := fun a ha => by
    show upd W.H p o a ≠ none
    by_cases e : a = p
    · rw [e, upd_same]; simp
    · rw [upd_ne e]
      refine h.tr a fun z => ha ?_
      show (if a = p then r else W.Γ a) = .no
      rw [if_neg e]; exact z
  rg := h.rg.ext (Ext.alloc hp) rfl
  tabs := tabsN_upd h.tabs hp
  tb := fun b ps q => by
    have q : upd W.H p o b = some (.tbl ps) := q
    by_cases e : b = p
    · rw [e, upd_same] at q; cases q; cases ho
    · rw [upd_ne e] at q; exact h.tb b ps q
theorem NoLock.alloc (h : NoLock W) (ho : okA o r = true) : NoLock (W.alloc p o r) := fun a u z q => by
  have q : upd W.H p o a = some (.frz u z) := q
  by_cases e : a = p
  · rw [e, upd_same] at q
    cases q
    have hr : r = .no ∨ r = .froz := of_decide_eq_true ho
    have g : (W.alloc p (.frz u z) r).Γ a = r := if_pos e
    rw [g]
    rcases hr with hr | hr <;> rw [hr] <;> rfl
  · rw [upd_ne e] at q
    have g : (W.alloc p o r).Γ a = W.Γ a := if_neg e
    rw [g]
    exact h a u z q
theorem RAll.alloc (h : RAll kt B W σ env G) (hp : W.H p = none) (ho : okO o = true) (ha : okA o r = true) : RAll kt B (W.alloc p o r) σ env G :=
  ⟨h.ok.alloc hp ho, h.re.ext (Ext.alloc hp), (h.si.trans (Ext.alloc (o := o) (r := r) hp)).mono (fun z => by rw [z]; rfl), fun z => (h.nl z).alloc ha⟩
end

inductive Md where
  | s | k | f
def Md.lets : Md → Role → Bool
  | .s, _ => false
  | _, .tmp => false
  | .k, .slot _ => true
  | .k, _ => false
  | .f, _ => true
def Pk (K : PySem.W.Frag) (W : Wd) (m : Md) (x : Vl) (v : V) : Prop := Rep K W x v ∨ ∃ r fv, m.lets r = true ∧ fv.toVl = x ∧ FvRep K W r fv v
theorem Pk.ext {K : PySem.W.Frag} {p : Bool} {W W' : Wd} {m : Md} {x : Vl} {v : V} (e : Ext p W W') (hp : p = true ∨ m ≠ .f) (h : Pk K W m x v) : Pk K W' m x v := by
  rcases h with h | ⟨r, fv, h1, h2, h3⟩
  · exact .inl (h.ext e)
  · refine .inr ⟨r, fv, h1, h2, FvRep.extR e.toR rfl rfl rfl ?_ _ _ h3⟩
    rcases hp with hp | hp
    · exact .inl hp
    · right
      cases m <;> cases r <;> first | rfl | exact absurd rfl hp | cases h1
theorem Pk.strict {K : PySem.W.Frag} {W : Wd} {x : Vl} {v : V} (h : Pk K W .s x v) : Rep K W x v := by
  rcases h with h | ⟨r, fv, h1, _⟩
  · exact h
  · cases h1
theorem Pk.any {K : PySem.W.Frag} {W : Wd} {m : Md} {x : Vl} {v : V} (h : Pk K W m x v) : Pk K W .f x v := h.imp id fun ⟨r, fv, h1, h2, h3⟩ => ⟨r, fv, by cases m <;> cases r <;> (first | rfl | (cases h1)), h2, h3⟩
theorem Pk.weak {K : PySem.W.Frag} {W : Wd} {m : Md} {x : Vl} {v : V} (h : Pk K W .s x v) : Pk K W m x v := .inl h.strict

def ExOk (c : Ex) (od : Option Addr) (H : Hp) : Prop := match c.row with
  | none => od = none
  | some i => ∃ d, od = some d ∧ H d = some (.xd [("row", .int i)])

def hgt0 : Nat := Nat.zero
def hgt1 : Nat := hgt0
def hgt2 : Nat := hgt1
def hgt3 : Nat := hgt2
def R.bind {α β : Type} (r : R α) (f : α → Gst → R β) : R β := (fun _ : Nat => match r with
  | .ok a G => f a G
  | .exn c G => .exn c G
  | .bad => .bad) hgt3
@[simp] theorem R.bind_ok {α β : Type} (a : α) (G : Gst) (f : α → Gst → R β) : (R.ok a G).bind f = f a G := rfl
@[simp] theorem R.bind_exn {α β : Type} (c : Ex) (G : Gst) (f : α → Gst → R β) : (R.exn c G : R α).bind f = .exn c G := rfl
@[simp] theorem R.bind_bad {α β : Type} (f : α → Gst → R β) : (R.bad : R α).bind f = .bad := rfl

section
variable (kt : Kt) (B : Bs) (p : Bool) (σ : L2.St) (env : LEnv) (W : Wd) (Wish : WX)
def PoX {α β : Type} (Z : Wd → α → β → Prop) (r : R α) (Q : β → Hp → Prop) : Prop := match r with
  | .bad => False
  | .ok x G' => ∀ W' v, Ext p W W' → RAll kt B W' σ env G' → Z W' x v → Q v W'.H
  | .exn c G' => ∀ W' od, Ext p W W' → RAll kt B W' σ env G' → ExOk c od W'.H → Wish (kt.exc c.cls) od σ W'.H
def rdX {α β : Type} (Z : Wd → α → β → Prop) (d : LEnv → Gst → R α) : L2.St → Hp → (β → Hp → Prop) → Prop := fun σ H Q =>
  ∃ W env G, W.H = H ∧ RAll kt B W σ env G ∧ PoX kt B p σ env W Wish Z (d env G) Q
end
def ZB : Wd → Bool → Bool → Prop := fun _ a b => a = b
section
variable {kt : Kt} {B : Bs} {p q : Bool} {σ : L2.St} {env : LEnv} {W W1 : Wd} {Wish : WX} {α β γ δ : Type} {Z : Wd → α → β → Prop} {Z' : Wd → γ → δ → Prop}
theorem PoX.mono {r : R α} {Q Q' : β → Hp → Prop} (h : PoX kt B p σ env W Wish Z r Q) (hq : ∀ v H, Q v H → Q' v H) : PoX kt B p σ env W Wish Z r Q' := by
  cases r with
  | bad => exact h
  | exn c G => exact h
  | ok x G => exact fun W' v e A z => hq _ _ (h W' v e A z)
theorem PoX.shift {r : R α} {Q : β → Hp → Prop} (h : PoX kt B (p && q) σ env W Wish Z r Q) (e : Ext p W W1) : PoX kt B q σ env W1 Wish Z r Q := by
  cases r with
  | bad => exact h
  | exn c G => exact fun W' od e' A z => h W' od (e.trans e') A z
  | ok x G => exact fun W' v e' A z => h W' v (e.trans e') A z
theorem PoX.bindE {r : R α} {f : α → Gst → R γ} {Q : δ → Hp → Prop} (h : PoX kt B (p && q) σ env W Wish Z' (r.bind f) Q) :
    PoX kt B p σ env W Wish Z r (fun v H1 => ∃ W1 x G1, W1.H = H1 ∧ Ext p W W1 ∧ RAll kt B W1 σ env G1 ∧ Z W1 x v ∧ PoX kt B q σ env W1 Wish Z' (f x G1) Q) := by
  cases r with
  | bad => exact h
  | exn c G => exact fun W' od e A z => h W' od (e.mono fun z => (Bool.and_eq_true _ _ ▸ z).1) A z
  | ok x G => exact fun W' v e A z => ⟨W', x, G, rfl, e, A, z, PoX.shift h e⟩
end

theorem _root_.L2.PE.imp {X : Cx} {e : Expr} {t t' : TE} (h : PE X e t) (i : ∀ σ H Q, t' σ H Q → t σ H Q) : PE X e t' := ⟨fun pins s σ H Q I q => h.run pins s σ H Q I (i σ H Q q)⟩
theorem _root_.L2.PT.imp {X : Cx} {e : Expr} {t t' : TT} (h : PT X e t) (i : ∀ σ H Q, t' σ H Q → t σ H Q) : PT X e t' := ⟨fun pins s σ H Q I q => h.run pins s σ H Q I (i σ H Q q)⟩
theorem _root_.L2.PW.imp {X : Cx} {e : Expr} {t t' : TT} (h : PW X e t) (i : ∀ σ H Q, t' σ H Q → t σ H Q) : PW X e t' := ⟨fun w pins s σ H Q I q => h.run w pins s σ H Q I (i σ H Q q)⟩
theorem _root_.L2.PA.imp {X : Cx} {e : List Expr} {t t' : TA} (h : PA X e t) (i : ∀ σ H Q, t' σ H Q → t σ H Q) : PA X e t' := ⟨fun pos pins s σ H Q I q => h.run pos pins s σ H Q I (i σ H Q q)⟩
theorem _root_.L2.PS.imp {X : Cx} {e : Stmt} {t t' : TS} (h : PS X e t) (i : ∀ D σ H, t' D σ H → t D σ H) : PS X e t' := ⟨fun pins s σ H D I q => h.run pins s σ H D I (i D σ H q)⟩
theorem _root_.L2.PSs.imp {X : Cx} {e : List Stmt} {t t' : TS} (h : PSs X e t) (i : ∀ D σ H, t' D σ H → t D σ H) : PSs X e t' := ⟨fun pins s σ H D I q => h.run pins s σ H D I (i D σ H q)⟩

def SX (kt : Kt) (B : Bs) (X : Cx) (p : Bool) (m : Md) (e : Expr) (d : DE) : Prop := ∀ Wish, Takes X Wish → PE X e (rdX kt B p Wish (fun W x v => Pk kt.K W m x v) d)
def ST (kt : Kt) (B : Bs) (X : Cx) (p : Bool) (e : Expr) (d : DT) : Prop := ∀ Wish, Takes X Wish → PT X e (rdX kt B p Wish ZB d)
def SW (kt : Kt) (B : Bs) (X : Cx) (p : Bool) (e : Expr) (d : DT) : Prop := ∀ Wish, Takes X Wish → PW X e (rdX kt B p Wish ZB d)
end CardH
end
section
set_option maxHeartbeats 2000000
namespace CardH
open PySem PySem.Spec PyProof.Rows L2

section
variable {K : PySem.W.Frag} {W : Wd} {m : Md} {v : V}
theorem Pk.val {x : Vl} (h : Pk K W m x v) (h1 : ∀ xs, x ≠ .lst xs) (h2 : ∀ t kvs, x ≠ .dct t kvs) : Rep K W x v := by
  rcases h with h | ⟨r, fv, _, e, h⟩
  · exact h
  · cases fv with
    | val y => cases e; exact h
    | ol xs => exact absurd e.symm (h1 xs)
    | od t kvs => exact absurd e.symm (h2 t kvs)
theorem Pk.int {i : Int} (h : Pk K W m (.int i) v) : v = .int i := h.val (fun _ z => nomatch z) fun _ _ z => nomatch z
theorem Pk.bl {b : Bool} (h : Pk K W m (.bl b) v) : v = .bl b := h.val (fun _ z => nomatch z) fun _ _ z => nomatch z
theorem Pk.non (h : Pk K W m .non v) : v = .non := h.val (fun _ z => nomatch z) fun _ _ z => nomatch z
theorem Pk.str {x : Str} (h : Pk K W m (.str x) v) : v = .str x ∧ okStr x = true := h.val (fun _ z => nomatch z) fun _ _ z => nomatch z
theorem Pk.tup' {xs : List Vl} (h : Pk K W m (.tup xs) v) : ∃ a vs o, v = .ref a ∧ W.Γ a = .no ∧ W.H a = some (.frz o (.tup vs)) ∧ o.dict = none ∧ Reps K W xs vs := h.val (fun _ z => nomatch z) fun _ _ z => nomatch z
theorem Pk.tup {xs : List Vl} (h : Pk K W m (.tup xs) v) : ∃ a vs, v = .ref a ∧ SqT K W.H a vs ∧ Reps K W xs vs := by
  obtain ⟨a, vs, o, e, _, t, _, r⟩ := h.tup'
  exact ⟨a, vs, e, .inl (.inr ⟨o, t⟩), r⟩
theorem Pk.stp {xs : List Vl} (h : Pk K W m (.stp xs) v) : ∃ a vs, v = .ref a ∧ SqT K W.H a vs ∧ Reps K W xs vs := by
  obtain ⟨a, vs, e, t, r⟩ := h.val (fun _ z => nomatch z) fun _ _ z => nomatch z
  exact ⟨a, vs, e, SqT.of t, r⟩
theorem Pk.ktp {xs : List Vl} (h : Pk K W m (.ktp xs) v) : ∃ a vs, v = .ref a ∧ SqT K W.H a vs ∧ Reps K W xs vs := by
  obtain ⟨a, vs, e, t, r⟩ := h.val (fun _ z => nomatch z) fun _ _ z => nomatch z
  exact ⟨a, vs, e, .inr t, r⟩
theorem Pk.ref {i : Nat} (h : Pk K W m (.ref i) v) : ∃ a, v = .ref a ∧ W.ρ[i]? = some a := h.val (fun _ z => nomatch z) fun _ _ z => nomatch z
theorem Pk.scr {ns : List Int} (h : Pk K W m (.scr ns) v) : ∃ a, v = .ref a ∧ SqL K W.H a (ns.map V.int) := by
  obtain ⟨a, e, t⟩ := h.val (fun _ z => nomatch z) fun _ _ z => nomatch z
  exact ⟨a, e, t.imp (fun z => z.2) id⟩
theorem Pk.lst {xs : List Vl} (h : Pk K W m (.lst xs) v) : ∃ a vs, v = .ref a ∧ W.H a = some (.lst vs) ∧ Reps K W xs vs := by
  rcases h with h | ⟨r, fv, _, e, h⟩
  · obtain ⟨a, vs, e, _, t, r⟩ := h
    exact ⟨a, vs, e, t, r⟩
  · cases fv with
    | val y =>
      cases e
      obtain ⟨a, vs, e, _, t, r⟩ := h
      exact ⟨a, vs, e, t, r⟩
    | ol ys =>
      cases e
      obtain ⟨a, vs, e, _, t, r⟩ := h
      exact ⟨a, vs, e, t, r⟩
    | od t kvs => cases e
theorem Pk.dK {kvs : List (Vl × Vl)} (h : Pk K W m (.dct false kvs) v) : ∃ a ks, v = .ref a ∧ Rd W.H a (.dK ks) ∧ RepK K W kvs ks := by
  rcases h with h | ⟨r, fv, _, e, h⟩
  · obtain ⟨a, o, vs, e, _, t, r⟩ := h
    exact ⟨a, vs, e, .inr ⟨o, t⟩, r⟩
  · cases fv with
    | val y =>
      cases e
      obtain ⟨a, o, vs, e, _, t, r⟩ := h
      exact ⟨a, vs, e, .inr ⟨o, t⟩, r⟩
    | ol ys => cases e
    | od t kvs' =>
      cases e
      obtain ⟨a, vs, e, _, t, r⟩ := h
      exact ⟨a, vs, e, t, r⟩
theorem Pk.dT {kvs : List (Vl × Vl)} (h : Pk K W m (.dct true kvs) v) : ∃ a ks, v = .ref a ∧ Rd W.H a (.dT ks) ∧ RepT K W kvs ks := by
  rcases h with h | ⟨r, fv, _, e, h⟩
  · obtain ⟨a, o, vs, e, _, t, r⟩ := h
    exact ⟨a, vs, e, .inr ⟨o, t⟩, r⟩
  · cases fv with
    | val y =>
      cases e
      obtain ⟨a, o, vs, e, _, t, r⟩ := h
      exact ⟨a, vs, e, .inr ⟨o, t⟩, r⟩
    | ol ys => cases e
    | od t kvs' =>
      cases e
      obtain ⟨a, vs, e, _, t, r⟩ := h
      exact ⟨a, vs, e, t, r⟩
end
section
variable {kt : Kt} {B : Bs} {W : Wd} {σ : L2.St} {env : LEnv} {G : Gst} {p : Addr}
theorem new_lst (A : RAll kt B W σ env G) (hp : W.H p = none) {xs : List Vl} {vs : List V} (h : Reps kt.K W xs vs) :
    Ext true W (W.alloc p (.lst vs) .froz) ∧ RAll kt B (W.alloc p (.lst vs) .froz) σ env G ∧ Rep kt.K (W.alloc p (.lst vs) .froz) (.lst xs) (.ref p) :=
  ⟨Ext.alloc hp, A.alloc hp rfl rfl, p, vs, rfl, if_pos rfl, upd_same, h.ext (Ext.alloc hp)⟩
theorem new_tup (A : RAll kt B W σ env G) (hp : W.H p = none) {o : Obj} (hd : o.dict = none) {xs : List Vl} {vs : List V} (h : Reps kt.K W xs vs) :
    Ext true W (W.alloc p (.frz o (.tup vs)) .no) ∧ RAll kt B (W.alloc p (.frz o (.tup vs)) .no) σ env G ∧ Rep kt.K (W.alloc p (.frz o (.tup vs)) .no) (.tup xs) (.ref p) :=
  ⟨Ext.alloc hp, A.alloc hp rfl rfl, p, vs, o, rfl, if_pos rfl, upd_same, hd, h.ext (Ext.alloc hp)⟩
end

section
variable {X : Cx}
def rCatP (K : PySem.W.Frag) : R2 := fun x y H Q => ∃ a b xs ys, x = .ref a ∧ y = .ref b ∧ SqT K H a xs ∧ SqT K H b ys ∧ xs.length + ys.length ≤ sizeLine ∧
  (xs = [] → Q (.ref b) H) ∧ (xs ≠ [] → ys = [] → Q (.ref a) H) ∧ (xs ≠ [] → ys ≠ [] → ∀ p o, H p = none → o.dict = none → Q (.ref p) (upd H p (.frz o (.tup (xs ++ ys)))))
theorem op_catP : OpR X (binaryOp .Add) (rCatP X.K) := by
  intro pins s σ H x y v u Q I rx ry h
  obtain ⟨a, b, xs, ys, rfl, rfl, ha, hb, hz, q0, q1, q2⟩ := h
  cases rx
  cases ry
  obtain ⟨its, r1, p1, _⟩ := I.tuple ha
  obtain ⟨its2, r2, p2, _⟩ := I.tuple hb
  by_cases hx : xs = []
  · subst hx
    cases r1
    exact cat_tup0 p1 p2 ⟨.ref b, H, I, rfl, q0 rfl⟩
  · refine HT.cat_tup p1 p2 (fun z => hx (r1.nil_iff.mp z)) (fun z => ⟨.ref a, H, I, rfl, q1 hx (r2.nil_iff.mp z)⟩) (fun z => ?_) (by rw [← r1.length, ← r2.length]; exact hz)
    refine ⟨.ref s.heap.objs.size, upd _ _ (.frz { cls := .type "tuple", data := .seq (its ++ its2).toArray } (.tup (xs ++ ys))), I.laid (t' := s.toks) (fun b ob q => Heap.get?_push_of_some _ q) (Nat.le_refl _) ?_, rfl, q2 hx (fun w => z (r2.nil_iff.mpr w)) _ _ (I.hok.fresh (Nat.le_refl _)) rfl⟩
    exact ⟨Heap.get?_push_size _ rfl, by rw [List.length_append]; exact hz, _, r1.append r2, IsTup.new _ _⟩
def rSlP (K : PySem.W.Frag) : V → Option Int → Option Int → Hp → VK → Prop := fun x lo hi H Q => ∃ a xs, x = .ref a ∧ SqT K H a xs ∧
  (HT.sIx xs.length 0 lo = 0 ∧ HT.sIx xs.length xs.length hi = xs.length → Q (.ref a) H) ∧ (¬ (HT.sIx xs.length 0 lo = 0 ∧ HT.sIx xs.length xs.length hi = xs.length) → ∀ p o, H p = none → o.dict = none → Q (.ref p) (upd H p (.frz o (.tup (cutV xs lo hi)))))
theorem sl_tupP : SlR X (rSlP X.K) := by
  intro pins s σ H x v vl vu lo hi sl Q I rx hs pl pu h
  obtain ⟨a, xs, rfl, hx, q1, q2⟩ := h
  cases rx
  obtain ⟨its, r, ht, hz⟩ := I.tuple hx
  have hlen : its.toArray.size = xs.length := by rw [List.size_toArray]; exact r.length.symm
  refine ⟨"tuple", _, PyProof.Rows.slot_tuple_getitem.lookup, ht.typeIs, ?_⟩
  by_cases hw : HT.sIx xs.length 0 lo = 0 ∧ HT.sIx xs.length xs.length hi = xs.length
  · exact getItem_tuple_whole ht hs pl pu (by rw [hlen]; exact hw) ⟨.ref a, H, I, rfl, q1 hw⟩
  · refine HT.getItem_tuple_cut ht hs pl pu (by rw [hlen]; exact hw) ?_ (by rw [hlen]; exact hz)
    rw [hlen]
    refine ⟨.ref s.heap.objs.size, upd _ _ (.frz { cls := .type "tuple", data := .seq (List.take (HT.sIx xs.length xs.length hi - HT.sIx xs.length 0 lo) (List.drop (HT.sIx xs.length 0 lo) its.toArray.toList)).toArray } (.tup (cutV xs lo hi))), I.laid (t' := s.toks) (fun b ob q => Heap.get?_push_of_some _ q) (Nat.le_refl _) ?_, rfl, q2 hw _ _ (I.hok.fresh (Nat.le_refl _)) rfl⟩
    exact ⟨Heap.get?_push_size _ rfl, Nat.le_trans (cutV_length xs lo hi) hz, _, (r.drop (HT.sIx xs.length 0 lo)).take (HT.sIx xs.length xs.length hi - HT.sIx xs.length 0 lo), IsTup.new _ _⟩
theorem call_tupleP : CallR X (.type "tuple") (fun xs H Q => ∃ p ys, xs = [.ref p] ∧ ((SqL X.K H p ys ∧ ∀ l o, H l = none → o.dict = none → Q (.ref l) (upd H l (.frz o (.tup ys)))) ∨ (SqT X.K H p ys ∧ Q (.ref p) H))) := by
  intro pins s σ H xs us Q I r h
  obtain ⟨p, ys, rfl, h⟩ := h
  obtain ⟨u, rfl, rx⟩ := vals1 r
  cases rx
  rcases h with ⟨hq, q⟩ | ⟨hq, q⟩
  · obtain ⟨its, r', pl, hz⟩ := I.list hq
    have hlen := r'.length
    refine call_tuple_list pl.isList (fun h' kp => ?_) (by simp only [List.size_toArray] <;> omega)
    have I1 : Inv X pins σ H { s with heap := h' } := I.kept (t' := s.toks) kp
    have I2 := I1.laid (t' := s.toks) (h' := h'.push { cls := .type "tuple", data := .seq its.toArray }) (a := h'.objs.size) (o := .frz { cls := .type "tuple", data := .seq its.toArray } (.tup ys)) (fun b o e => Heap.get?_push_of_some _ e) (Nat.le_refl _)
      ⟨Heap.get?_push_size _ rfl, hz, its, r', IsTup.new _ _⟩
    exact ⟨.ref h'.objs.size, _, I2, rfl, q _ _ (I1.hok.fresh (Nat.le_refl _)) rfl⟩
  · obtain ⟨its, r', pl, hz⟩ := I.tuple hq
    exact call_tuple_same pl ⟨.ref p, H, I, rfl, q⟩
def tTupP (t : TA) : TE := fun σ H Q => t σ H fun xs H1 => xs.length ≤ sizeLine ∧ ∀ p o, H1 p = none → o.dict = none → Q (.ref p) (upd H1 p (.frz o (.tup xs)))
theorem pe_tupP {es : List Expr} {t : TA} {pos : Pos} {x1} (h : PA X es t) : PE X (.Tuple es x1 pos) (tTupP t) := by
  refine ⟨fun pins s σ H Q I hq => ?_⟩
  refine wpAny_Tuple_spliced (thn (h.run pos pins s σ H _ I hq) fun us s1 ⟨xs, H1, I1, r, z, q⟩ => ⟨by rw [← r.length]; exact z, ?_⟩)
  have hf : H1 s1.heap.objs.size = none := I1.hok.fresh (Nat.le_refl _)
  refine ⟨.ref s1.heap.objs.size, upd _ _ (.frz { cls := .type "tuple", data := .seq us.toArray } (.tup xs)), I1.laid (t' := s1.toks) (o := .frz { cls := .type "tuple", data := .seq us.toArray } (.tup xs)) (fun b u e => Heap.get?_push_of_some _ e) (Nat.le_refl _) ?_, rfl, q _ _ hf rfl⟩
  exact ⟨Heap.get?_push_size _ rfl, z, us, r, ⟨_, Heap.get?_push_size _ rfl, rfl, _, rfl⟩⟩
end

theorem okStr_append {a b : Str} (h : okStr a = true) (g : okStr b = true) : okStr (a ++ b) = true := by
  show (a.cps ++ b.cps).all _ = true
  rw [Array.all_append]
  simp only [okStr] at h g
  rw [h, g]; rfl

def OpS (kt : Kt) (X : Cx) (f : Value → Value → Sem Value) (o : Vl → Vl → Option Vl) : Prop :=
  ∃ r : R2, OpR X f r ∧ ∀ (B : Bs) (σ : L2.St) (env : LEnv) (G : Gst) (W : Wd) (x y : Vl) (v u : V) (z : Vl) (Q : VK), RAll kt B W σ env G → Pk kt.K W .f x v → Pk kt.K W .f y u → o x y = some z →
    (∀ W' w, Ext true W W' → RAll kt B W' σ env G → Rep kt.K W' z w → Q w W'.H) → r v u W.H Q

def vAdd : Vl → Vl → Option Vl
  | .int i, .int j => some (.int (i + j))
  | .str a, .str b => if a.length + b.length ≤ 16777216 then some (.str (a ++ b)) else none
  | .tup a, .tup b => if a.length + b.length ≤ 16777216 then some (.tup (a ++ b)) else none
  | .lst a, .lst b => if a.length + b.length ≤ 16777216 then some (.lst (a ++ b)) else none
  | _, _ => none
section
variable {kt : Kt} {X : Cx}
theorem ops_add (hK : X.K = kt.K := by rfl) : OpS kt X (binaryOp .Add) vAdd := by
  refine ⟨_, op_add.or (op_add_str.or (op_catP.or op_cat)), fun B σ env G W x y v u z Q A hx hy e q => ?_⟩
  unfold vAdd at e
  split at e
  · cases e
    obtain rfl := hx.int; obtain rfl := hy.int
    exact .inl ⟨_, _, rfl, rfl, q W _ Ext.refl A rfl⟩
  · split at e
    · cases e
      obtain ⟨rfl, h1⟩ := hx.str; obtain ⟨rfl, h2⟩ := hy.str
      exact .inr (.inl ⟨_, _, rfl, rfl, ‹_›, q W _ Ext.refl A ⟨rfl, okStr_append h1 h2⟩⟩)
    · cases e
  · split at e
    · cases e
      obtain ⟨a, vs, rfl, h1, r1⟩ := hx.tup; obtain ⟨b, us, rfl, h2, r2⟩ := hy.tup
      rename_i xs ys hz
      refine .inr (.inr (.inl ⟨a, b, vs, us, rfl, rfl, by rw [hK]; exact h1, by rw [hK]; exact h2, by rw [← r1.length, ← r2.length]; exact hz, fun z => ?_, fun _ z => ?_, fun _ _ p o hp hd => ?_⟩))
      · subst z
        have e1 : xs = [] := List.length_eq_zero_iff.mp (by rw [r1.length]; rfl)
        subst e1
        exact q W _ Ext.refl A (hy.val (fun _ z => nomatch z) fun _ _ z => nomatch z)
      · subst z
        have e1 : ys = [] := List.length_eq_zero_iff.mp (by rw [r2.length]; rfl)
        subst e1
        rw [List.append_nil] at q
        exact q W _ Ext.refl A (hx.val (fun _ z => nomatch z) fun _ _ z => nomatch z)
      · obtain ⟨e1, a1, r⟩ := new_tup A hp hd (r1.append r2)
        exact q _ _ e1 a1 r
    · cases e
  · split at e
    · cases e
      obtain ⟨a, vs, rfl, h1, r1⟩ := hx.lst; obtain ⟨b, us, rfl, h2, r2⟩ := hy.lst
      rename_i xs ys hz
      refine .inr (.inr (.inr ⟨a, b, vs, us, rfl, rfl, h1, h2, by rw [← r1.length, ← r2.length]; exact hz, fun p hp => ?_⟩))
      obtain ⟨e1, a1, r⟩ := new_lst A hp (r1.append r2)
      exact q _ _ e1 a1 r
    · cases e
  · cases e

theorem ops_int {f : Value → Value → Sem Value} {C : Int → Int → Prop} {g : Int → Int → Vl} {g' : Int → Int → V} {c : Int → Int → Bool} {o : Vl → Vl → Option Vl} (h : OpR X f (rI C g')) (hc : ∀ i j, c i j = true → C i j)
    (hg : ∀ K W i j, Rep K W (g i j) (g' i j)) (ho : ∀ x y z, o x y = some z → ∃ i j, x = .int i ∧ y = .int j ∧ c i j = true ∧ z = g i j) : OpS kt X f o := by
  refine ⟨_, h, fun B σ env G W x y v u z Q A hx hy e q => ?_⟩
  obtain ⟨i, j, rfl, rfl, hc', rfl⟩ := ho x y z e
  obtain rfl := hx.int; obtain rfl := hy.int
  exact ⟨i, j, rfl, rfl, hc i j hc', q W _ Ext.refl A (hg _ _ i j)⟩
def vInt (c : Int → Int → Bool) (g : Int → Int → Vl) : Vl → Vl → Option Vl
  | .int i, .int j => if c i j = true then some (g i j) else none
  | _, _ => none
theorem vInt_some {c : Int → Int → Bool} {g : Int → Int → Vl} (x y z : Vl) (h : vInt c g x y = some z) : ∃ i j, x = .int i ∧ y = .int j ∧ c i j = true ∧ z = g i j := by
  unfold vInt at h
  split at h
  · split at h
    · cases h; exact ⟨_, _, rfl, rfl, ‹_›, rfl⟩
    · cases h
  · cases h
theorem rI0_rI {f : Value → Value → Sem Value} {g : Int → Int → V} (h : OpR X f (rI0 g)) : OpR X f (rI (fun _ _ => True) g) :=
  fun pins s σ H x y v u Q I rx ry ⟨i, j, e1, e2, _, q⟩ => h pins s σ H x y v u Q I rx ry ⟨i, j, e1, e2, q⟩
def vSub : Vl → Vl → Option Vl
  | .int i, .int j => some (.int (i - j))
  | _, _ => none
theorem ops_sub : OpS kt X (binaryOp .Sub) vSub :=
  ops_int (c := fun _ _ => true) (g := fun i j => .int (i - j)) (rI0_rI op_sub) (fun _ _ _ => trivial) (fun _ _ _ _ => rfl) fun x y z h => by
    unfold vSub at h; split at h
    · cases h; exact ⟨_, _, rfl, rfl, rfl, rfl⟩
    · cases h
def sm62 (i : Int) : Bool := Nat.blt i.natAbs 4611686018427387904
def sm64 (i : Int) : Bool := Nat.blt i.natAbs 18446744073709551616
theorem sm62_ok {i : Int} (h : sm62 i = true) : -(2 ^ 62) ≤ i ∧ i < 2 ^ 62 := by
  unfold sm62 at h
  rw [Nat.blt_eq] at h
  omega
theorem sm64_ok {i : Int} (h : sm64 i = true) : -(2 ^ 64) < i ∧ i < 2 ^ 64 := by
  unfold sm64 at h
  rw [Nat.blt_eq] at h
  omega
theorem sm62_of {i : Int} (h : -4611686018427387904 < i ∧ i < 4611686018427387904) : sm62 i = true := by
  unfold sm62
  rw [Nat.blt_eq]
  omega
theorem sm64_of {i : Int} (h : -18446744073709551616 < i ∧ i < 18446744073709551616) : sm64 i = true := by
  unfold sm64
  rw [Nat.blt_eq]
  omega
def mulOk (i j : Int) : Bool := sm64 i || sm64 j
theorem mulOk_c {i j : Int} (h : mulOk i j = true) : CMul i j := by
  unfold mulOk at h
  rw [Bool.or_eq_true] at h
  exact h.imp sm64_ok sm64_ok
def vFdiv : Vl → Vl → Option Vl := vInt (fun _ j => decide (0 < j) && sm62 j) fun i j => .int (i / j)
def vMod : Vl → Vl → Option Vl := vInt (fun _ j => decide (0 < j)) fun i j => .int (i % j)
def vPow : Vl → Vl → Option Vl := vInt (fun i j => decide (0 ≤ j) && Nat.ble j.natAbs 1000000 && sm64 i) fun i j => .int (i ^ j.toNat)
theorem powOk_c {i j : Int} (h : (decide (0 ≤ j) && Nat.ble j.natAbs 1000000 && sm64 i) = true) : CPow i j := by
  simp only [Bool.and_eq_true, decide_eq_true_eq, Nat.ble_eq] at h
  have h2 := sm64_ok h.2
  exact (show 0 ≤ j ∧ j ≤ 1000000 ∧ i.natAbs < 2 ^ 64 from ⟨h.1.1, by omega, by omega⟩)
theorem ops_fdiv : OpS kt X (binaryOp .FloorDiv) vFdiv :=
  ops_int (g := fun i j => .int (i / j)) op_fdivW (fun i j h => by
    rw [Bool.and_eq_true] at h
    have h := And.intro (of_decide_eq_true h.1) (sm62_ok h.2).2
    exact ⟨h.1, Nat.lt_trans (PySem.Flt.log2_lt_of (k := 62) (by decide) (by omega)) (by decide)⟩) (fun _ _ _ _ => rfl) vInt_some
theorem ops_mod : OpS kt X (binaryOp .Mod) vMod :=
  ops_int (g := fun i j => .int (i % j)) op_mod (fun i j h => of_decide_eq_true h) (fun _ _ _ _ => rfl) vInt_some
theorem ops_pow : OpS kt X (binaryOp .Pow) vPow :=
  ops_int (g := fun i j => .int (i ^ j.toNat)) op_pow (fun i j h => powOk_c h) (fun _ _ _ _ => rfl) vInt_some
def vMul : Vl → Vl → Option Vl
  | .int i, .int j => if mulOk i j = true then some (.int (i * j)) else none
  | .lst xs, .int k => if sm62 k = true ∧ xs.length * k.toNat ≤ 16777216 then some (.lst (List.replicate k.toNat xs).flatten) else none
  | _, _ => none
theorem Reps.rep {K : PySem.W.Frag} {W : Wd} {xs : List Vl} {vs : List V} (h : Reps K W xs vs) : ∀ k : Nat, Reps K W (List.replicate k xs).flatten (List.replicate k vs).flatten
  | 0 => rfl
  | k + 1 => by
    rw [List.replicate_succ, List.replicate_succ, List.flatten_cons, List.flatten_cons]
    exact h.append (Reps.rep h k)
theorem ops_mul : OpS kt X (binaryOp .Mult) vMul := by
  refine ⟨_, op_mul.or op_rep, fun B σ env G W x y v u z Q A hx hy e q => ?_⟩
  unfold vMul at e
  split at e
  · split at e
    · cases e
      obtain rfl := hx.int; obtain rfl := hy.int
      exact .inl ⟨_, _, rfl, rfl, mulOk_c ‹_›, q W _ Ext.refl A rfl⟩
    · cases e
  · split at e
    · cases e
      obtain ⟨a, vs, rfl, h1, r1⟩ := hx.lst; obtain rfl := hy.int
      rename_i xs k hz
      have hz1 := sm62_ok hz.1
      have hz0 : k ≠ -(2 ^ 62) := fun z => by subst z; exact absurd hz.1 (by decide)
      refine .inr ⟨a, k, vs, rfl, rfl, h1, by omega, by omega, by rw [← r1.length]; exact hz.2, fun p hp => ?_⟩
      obtain ⟨e1, a1, r⟩ := new_lst A hp (r1.rep k.toNat)
      exact q _ _ e1 a1 r
    · cases e
  · cases e
end
end CardH
end
section
set_option maxHeartbeats 2000000
namespace CardH
open PySem PySem.Spec PyProof.Rows L2

def okM (p : Bool) (m : Md) : Bool := p || (match m with | .f => false | _ => true)
theorem okM_or {p : Bool} {m : Md} (h : okM p m = true) : p = true ∨ m ≠ .f := by
  cases m
  · exact .inr (fun z => nomatch z)
  · exact .inr (fun z => nomatch z)
  · left; cases p <;> simp_all [okM]
section
variable {kt : Kt} {B : Bs} {p q : Bool} {σ : L2.St} {env : LEnv} {W W1 : Wd} {Wish : WX} {α β γ δ : Type} {Z : Wd → α → β → Prop} {Z' : Wd → γ → δ → Prop}
theorem PoX.bindL {r : R α} {f : α → Gst → R γ} {Q : δ → Hp → Prop} (h : PoX kt B p σ env W Wish Z' (r.bind f) Q) :
    PoX kt B p σ env W Wish Z r (fun v H1 => ∃ W1 x G1, W1.H = H1 ∧ Ext p W W1 ∧ RAll kt B W1 σ env G1 ∧ Z W1 x v ∧ PoX kt B true σ env W1 Wish Z' (f x G1) Q) :=
  PoX.bindE (p := p) (q := true) (by rw [Bool.and_true]; exact h)
def opt {α : Type} (o : Option α) (G : Gst) : R α := match o with
  | some z => .ok z G
  | none => .bad
end
def dC (x : Vl) : DE := fun _ G => .ok x G
def dVar (i : Nat) : DE := fun env G => match env[i]? with
  | some (some (.val x)) => .ok x G
  | _ => .bad
def dPk (i : Nat) : DE := fun env G => match env[i]? with
  | some (some fv) => .ok fv.toVl G
  | _ => .bad
def dBin (o : Vl → Vl → Option Vl) (da db : DE) : DE := fun env G => (da env G).bind fun x G1 => (db env G1).bind fun y G2 => opt (o x y) G2
def dUn (o : Vl → Option Vl) (da : DE) : DE := fun env G => (da env G).bind fun x G1 => opt (o x) G1
def vTru : Vl → Option Bool
  | .non => some false
  | .bl b => some b
  | .int i => some (i != 0)
  | .str x => if x.length ≤ 16777216 then some ((x.length : Int) != 0) else none
  | .tup xs => some (!xs.isEmpty)
  | .lst xs => some (!xs.isEmpty)
  | _ => none
def dTest (da : DE) : DT := fun env G => (da env G).bind fun x G1 => opt (vTru x) G1
def dTB (da : DE) : DT := fun env G => (da env G).bind fun x G1 => match x with
  | .bl b => .ok b G1
  | _ => .bad
def dAnd (t u : DT) : DT := fun env G => (t env G).bind fun c G1 => if c = true then u env G1 else .ok false G1
def dOr (t u : DT) : DT := fun env G => (t env G).bind fun c G1 => if c = true then .ok true G1 else u env G1
def dNot (t : DT) : DT := fun env G => (t env G).bind fun c G1 => .ok (!c) G1
def dBV (t : DT) : DE := fun env G => (t env G).bind fun c G1 => .ok (.bl c) G1
def dIf (t : DT) (da db : DE) : DE := fun env G => (t env G).bind fun c G1 => if c = true then da env G1 else db env G1
def dChain (o o' : Vl → Vl → Option Vl) (da db dc : DE) : DE := fun env G => (da env G).bind fun x G1 => (db env G1).bind fun y G2 => match o x y with
  | some (.bl true) => (dc env G2).bind fun z G3 => opt (o' y z) G3
  | some (.bl false) => .ok (.bl false) G2
  | _ => .bad

section
variable {kt : Kt} {B : Bs} {X : Cx} {p pa pb pc : Bool} {m ma mb mc : Md} {a b c : Expr} {da db dc : DE} {t u : DT} {pos : Pos} {i : Nat}
theorem sx_int {n : Int} {j} : SX kt B X true .s (.Constant (.int n) j pos) (dC (.int n)) := fun Wish _ => pe_int.imp fun σ H Q ⟨W, env, G, e, A, h⟩ => by
  subst e; exact h W _ Ext.refl A (.inl rfl)
theorem sx_bl {n : Bool} {j} : SX kt B X true .s (.Constant (.bool n) j pos) (dC (.bl n)) := fun Wish _ => pe_bl.imp fun σ H Q ⟨W, env, G, e, A, h⟩ => by
  subst e; exact h W _ Ext.refl A (.inl rfl)
theorem sx_str {x : Str} {j} (ok : okStr x = true := by decide +kernel) : SX kt B X true .s (.Constant (.str x) j pos) (dC (.str x)) := fun Wish _ => pe_str.imp fun σ H Q ⟨W, env, G, e, A, h⟩ => by
  subst e; exact h W _ Ext.refl A (.inl ⟨rfl, ok⟩)
theorem sx_var (i : Nat) {x : Str} (hN : X.N[i]? = some x := by rfl) (hv : Vis X.env.scope x := by first | exact Or.inl rfl | exact Or.inr (Or.inl rfl) | exact Or.inr (Or.inr rfl))
    (hd : (x == ("__debug__" : Str)) = false := by decide) (hcd : (x == ("__classdict__" : Str)) = false := by decide) : SX kt B X true .s (.Name x pos) (dVar i) := fun Wish _ =>
  (pe_var hN hv hd hcd).imp fun σ H Q ⟨W, env, G, e, A, h⟩ => by
    subst e
    unfold dVar at h
    split at h
    · rename_i y hy
      obtain ⟨v, h1, h2, _⟩ := A.re.sl i _ hy
      exact ⟨v, h1, h W _ Ext.refl A (.inl h2)⟩
    · exact h.elim
theorem sx_peek (i : Nat) {x : Str} (hN : X.N[i]? = some x := by rfl) (hv : Vis X.env.scope x := by first | exact Or.inl rfl | exact Or.inr (Or.inl rfl) | exact Or.inr (Or.inr rfl))
    (hd : (x == ("__debug__" : Str)) = false := by decide) (hcd : (x == ("__classdict__" : Str)) = false := by decide) : SX kt B X true .k (.Name x pos) (dPk i) := fun Wish _ =>
  (pe_var hN hv hd hcd).imp fun σ H Q ⟨W, env, G, e, A, h⟩ => by
    subst e
    unfold dPk at h
    split at h
    · rename_i y hy
      obtain ⟨v, h1, h2, _⟩ := A.re.sl i _ hy
      exact ⟨v, h1, h W _ Ext.refl A (.inr ⟨.slot i, y, rfl, rfl, h2⟩)⟩
    · exact h.elim
def GlobIs (kt : Kt) (x : Str) (y : Vl) : Prop := ∃ v u, kt.mg x = some u ∧ RelV v u ∧ ∀ W, Rep kt.K W y v
theorem sx_glob {x : Str} {y : Vl} (g : GlobIs kt x y) (hm : X.mg = kt.mg := by rfl) (hg : Gl X x := by rfl) (hd : (x == ("__debug__" : Str)) = false := by decide) : SX kt B X true .s (.Name x pos) (dC y) := fun Wish _ => by
  obtain ⟨v, u, h1, r, h2⟩ := g
  exact (pe_glob hg (by rw [hm]; exact h1) r hd).imp fun σ H Q ⟨W, env, G, e, A, h⟩ => by
    subst e; exact h W _ Ext.refl A (.inl (h2 W))
theorem opsPo {σ : L2.St} {env : LEnv} {W : Wd} {Wish : WX} {Q : VK} {o : Option Vl} {G : Gst} (h : PoX kt B true σ env W Wish (fun W x v => Pk kt.K W .s x v) (opt o G) Q) :
    ∃ z, o = some z ∧ ∀ W' w, Ext true W W' → RAll kt B W' σ env G → Rep kt.K W' z w → Q w W'.H := by
  cases o with
  | none => exact h.elim
  | some z => exact ⟨z, rfl, fun W' w e A r => h W' w e A (.inl r)⟩
theorem sx_bin {op : Operator} {o : Vl → Vl → Option Vl} (ho : OpS kt X (binaryOp op) o) (ha : SX kt B X pa ma a da) (hb : SX kt B X pb mb b db) (hm : okM pb ma = true := by rfl) :
    SX kt B X (pa && pb) .s (.BinOp a op b pos) (dBin o da db) := fun Wish tk => by
  obtain ⟨r, hr, hs⟩ := ho
  refine (pe_op hr (ha Wish tk) (hb Wish tk)).imp fun σ H Q ⟨W, env, G, e, A, h⟩ => ?_
  subst e
  refine ⟨W, env, G, rfl, A, h.bindE.mono ?_⟩
  rintro v H1 ⟨W1, x, G1, rfl, e1, A1, z1, h1⟩
  refine ⟨W1, env, G1, rfl, A1, h1.bindL.mono ?_⟩
  rintro u H2 ⟨W2, y, G2, rfl, e2, A2, z2, h2⟩
  obtain ⟨z, ez, q⟩ := opsPo h2
  exact hs B σ env G2 W2 x y v u z Q A2 (z1.ext e2 (okM_or hm)).any z2.any ez q
theorem sx_cmp {op : CmpOp} {o : Vl → Vl → Option Vl} (ho : OpS kt X (compareOp op) o) (ha : SX kt B X pa ma a da) (hb : SX kt B X pb mb b db) (hm : okM pb ma = true := by rfl) (hk : behindInMarks op b = false := by first | exact nomark _ | rfl) :
    SX kt B X (pa && pb) .s (.Compare a [op] [b] pos) (dBin o da db) := fun Wish tk => by
  obtain ⟨r, hr, hs⟩ := ho
  refine (pe_cmpR hr (ha Wish tk) (hb Wish tk) hk).imp fun σ H Q ⟨W, env, G, e, A, h⟩ => ?_
  subst e
  refine ⟨W, env, G, rfl, A, h.bindE.mono ?_⟩
  rintro v H1 ⟨W1, x, G1, rfl, e1, A1, z1, h1⟩
  refine ⟨W1, env, G1, rfl, A1, h1.bindL.mono ?_⟩
  rintro u H2 ⟨W2, y, G2, rfl, e2, A2, z2, h2⟩
  obtain ⟨z, ez, q⟩ := opsPo h2
  exact hs B σ env G2 W2 x y v u z Q A2 (z1.ext e2 (okM_or hm)).any z2.any ez q
theorem st_cmp {op : CmpOp} {o : Vl → Vl → Option Vl} (ho : OpS kt X (compareOp op) o) (ha : SX kt B X pa ma a da) (hb : SX kt B X pb mb b db) (hm : okM pb ma = true := by rfl) (hk : behindInMarks op b = false := by first | exact nomark _ | rfl) :
    ST kt B X (pa && pb) (.Compare a [op] [b] pos) (dTB (dBin o da db)) := fun Wish tk => by
  obtain ⟨r, hr, hs⟩ := ho
  refine (pt_cmpR hr (ha Wish tk) (hb Wish tk) hk).imp fun σ H Q ⟨W, env, G, e, A, h⟩ => ?_
  subst e
  unfold dTB dBin at h
  have h : PoX kt B (pa && pb) σ env W Wish ZB ((da env G).bind fun x G1 => (db env G1).bind fun y G2 => (opt (o x y) G2).bind fun x G1 => match x with | .bl b => .ok b G1 | _ => .bad) Q := by
    cases q : da env G with
    | bad => rw [q] at h; exact h
    | exn c G' => rw [q] at h; exact h
    | ok x G' =>
      rw [q] at h
      show PoX kt B (pa && pb) σ env W Wish ZB ((db env G').bind _) Q
      cases q' : db env G' with
      | bad => simp only [q', R.bind_ok] at h; exact h
      | exn c G' => simp only [q', R.bind_ok] at h; exact h
      | ok y G' => simp only [q', R.bind_ok] at h; exact h
  refine ⟨W, env, G, rfl, A, h.bindE.mono ?_⟩
  rintro v H1 ⟨W1, x, G1, rfl, e1, A1, z1, h1⟩
  refine ⟨W1, env, G1, rfl, A1, h1.bindL.mono ?_⟩
  rintro u H2 ⟨W2, y, G2, rfl, e2, A2, z2, h2⟩
  cases ez : o x y with
  | none => rw [ez] at h2; exact h2.elim
  | some z =>
    rw [ez] at h2
    refine hs B σ env G2 W2 x y v u z (fun x H' => ∃ k, x = .bl k ∧ Q k H') A2 (z1.ext e2 (okM_or hm)).any z2.any ez fun W' w e' A' r' => ?_
    cases z with
    | bl k => exact ⟨k, r', h2 W' k e' A' rfl⟩
    | _ => exact h2.elim
end

section
variable {kt : Kt} {B : Bs} {X : Cx} {p pa pb pc : Bool} {m ma mb mc : Md} {a b c : Expr} {da db dc : DE} {t u : DT} {pos : Pos} {rest : List Expr}
theorem tru_of {W : Wd} {x : Vl} {v : V} {k : Bool} (hK : X.K = kt.K) (h : Pk kt.K W .f x v) (e : vTru x = some k) : TruV X.K v W.H k := by
  cases x with
  | non => cases e; obtain rfl := h.non; rfl
  | bl b => cases e; obtain rfl := h.bl; rfl
  | int i => cases e; obtain rfl := h.int; rfl
  | str x =>
    have e : (if x.length ≤ 16777216 then some ((x.length : Int) != 0) else none) = some k := e
    obtain ⟨rfl, _⟩ := h.str
    split at e
    · cases e; exact ⟨‹_›, rfl⟩
    · cases e
  | tup xs =>
    cases e
    obtain ⟨a, vs, rfl, h1, r⟩ := h.tup
    refine .inr (.inl ⟨vs, by rw [hK]; exact h1, ?_⟩)
    have l := r.length
    cases xs <;> cases vs <;> simp_all
  | lst xs =>
    cases e
    obtain ⟨a, vs, rfl, h1, r⟩ := h.lst
    refine .inl ⟨vs, SqL.of h1, ?_⟩
    have l := r.length
    cases xs <;> cases vs <;> simp_all
  | _ => cases e
theorem st_val (ha : SX kt B X p m a da) (hK : X.K = kt.K := by rfl) (he : ∀ whole, isTrue a X.env whole = (do let v ← whole; standAt a.pos; holding [v] (truthy v)) := by intro _; rfl) : ST kt B X p a (dTest da) := fun Wish tk => by
  refine (pt_truth (ha Wish tk) he).imp fun σ H Q ⟨W, env, G, e, A, h⟩ => ?_
  subst e
  refine ⟨W, env, G, rfl, A, h.bindL.mono ?_⟩
  rintro v H1 ⟨W1, x, G1, rfl, e1, A1, z1, h1⟩
  cases ek : vTru x with
  | none => rw [ek] at h1; exact h1.elim
  | some k =>
    rw [ek] at h1
    exact ⟨k, tru_of hK z1.any ek, h1 W1 k Ext.refl A1 rfl⟩
theorem sw_and1 (h : ST kt B X p a t) : SW kt B X p (.BoolOp .And [a] pos) t := fun Wish tk => (pw_and1 (h Wish tk))
theorem sw_or1 (h : ST kt B X p a t) : SW kt B X p (.BoolOp .Or [a] pos) t := fun Wish tk => (pw_or1 (h Wish tk))
theorem sw_and (ha : ST kt B X pa a t) (hb : SW kt B X pb (.BoolOp .And (b :: rest) pos) u) : SW kt B X (pa && pb) (.BoolOp .And (a :: b :: rest) pos) (dAnd t u) := fun Wish tk => by
  refine (pw_and (ha Wish tk) (hb Wish tk)).imp fun σ H Q ⟨W, env, G, e, A, h⟩ => ?_
  subst e
  refine ⟨W, env, G, rfl, A, h.bindE.mono ?_⟩
  rintro c H1 ⟨W1, x, G1, rfl, e1, A1, z1, h1⟩
  obtain rfl : x = c := z1
  cases x with
  | true => exact ⟨W1, env, G1, rfl, A1, h1⟩
  | false => exact h1 W1 false Ext.refl A1 rfl
theorem sw_or (ha : ST kt B X pa a t) (hb : SW kt B X pb (.BoolOp .Or (b :: rest) pos) u) : SW kt B X (pa && pb) (.BoolOp .Or (a :: b :: rest) pos) (dOr t u) := fun Wish tk => by
  refine (pw_or (ha Wish tk) (hb Wish tk)).imp fun σ H Q ⟨W, env, G, e, A, h⟩ => ?_
  subst e
  refine ⟨W, env, G, rfl, A, h.bindE.mono ?_⟩
  rintro c H1 ⟨W1, x, G1, rfl, e1, A1, z1, h1⟩
  obtain rfl : x = c := z1
  cases x with
  | false => exact ⟨W1, env, G1, rfl, A1, h1⟩
  | true => exact h1 W1 true Ext.refl A1 rfl
theorem st_w (h : SW kt B X p a t) : ST kt B X p a t := fun Wish tk => (h Wish tk).pt
theorem st_not (h : ST kt B X p a t) : ST kt B X p (.UnaryOp .Not a pos) (dNot t) := fun Wish tk => by
  refine (pt_not (h Wish tk)).imp fun σ H Q ⟨W, env, G, e, A, h⟩ => ?_
  subst e
  refine ⟨W, env, G, rfl, A, h.bindL.mono ?_⟩
  rintro c H1 ⟨W1, x, G1, rfl, e1, A1, z1, h1⟩
  obtain rfl : x = c := z1
  exact h1 W1 _ Ext.refl A1 rfl
def dAndV (da db : DE) : DE := fun env G => (da env G).bind fun x G1 => match x with
  | .bl true => db env G1
  | .bl false => .ok (.bl false) G1
  | _ => .bad
def dOrV (da db : DE) : DE := fun env G => (da env G).bind fun x G1 => match x with
  | .bl false => db env G1
  | .bl true => .ok (.bl true) G1
  | _ => .bad
theorem PoX.weakP {α β : Type} {Z : Wd → α → β → Prop} {σ : L2.St} {env : LEnv} {W : Wd} {Wish : WX} {r : R α} {Q : β → Hp → Prop} {p q : Bool} (h : PoX kt B p σ env W Wish Z r Q) (hp : p = true → q = true) : PoX kt B q σ env W Wish Z r Q := by
  cases r with
  | bad => exact h
  | exn c G => exact fun W' od e A z => h W' od (e.mono hp) A z
  | ok x G => exact fun W' v e A z => h W' v (e.mono hp) A z
theorem chain_imp {op op' : CmpOp} {o o' : Vl → Vl → Option Vl} {Wish : WX} (ho : OpS kt X (compareOp op) o) (ho' : OpS kt X (compareOp op') o') (hm : okM pb ma = true) (hm' : okM pc mb = true) :
    ∃ r r', OpR X (compareOp op) r ∧ OpR X (compareOp op') r' ∧ ∀ σ H Q, rdX kt B (pa && (pb && pc)) Wish (fun W x v => Pk kt.K W .s x v) (dChain o o' da db dc) σ H Q →
      tChain r r' (rdX kt B pa Wish (fun W x v => Pk kt.K W ma x v) da) (rdX kt B pb Wish (fun W x v => Pk kt.K W mb x v) db) (rdX kt B pc Wish (fun W x v => Pk kt.K W mc x v) dc) σ H Q := by
  obtain ⟨r, hr, hs⟩ := ho
  obtain ⟨r', hr', hs'⟩ := ho'
  refine ⟨r, r', hr, hr', fun σ H Q ⟨W, env, G, e, A, h⟩ => ?_⟩
  subst e
  refine ⟨W, env, G, rfl, A, h.bindE.mono ?_⟩
  rintro v H1 ⟨W1, x, G1, rfl, e1, A1, z1, h1⟩
  refine ⟨W1, env, G1, rfl, A1, h1.bindE.mono ?_⟩
  rintro u H2 ⟨W2, y, G2, rfl, e2, A2, z2, h2⟩
  have z1' := z1.ext e2 (okM_or hm)
  split at h2
  · rename_i q
    refine hs B σ env G2 W2 x y v u (.bl true) _ A2 z1'.any z2.any q fun W' w e' A' r => ⟨true, r, ?_⟩
    rw [if_pos rfl]
    have h2 := PoX.shift (p := true) (q := pc) h2 e'
    refine ⟨W', env, G2, rfl, A', h2.bindL.mono ?_⟩
    rintro w' H3 ⟨W3, z, G3, rfl, e3, A3, z3, h3⟩
    obtain ⟨y', ey, qq⟩ := opsPo h3
    exact hs' B σ env G3 W3 y z u w' y' Q A3 ((z2.ext e' (.inl rfl)).ext e3 (okM_or hm')).any z3.any ey qq
  · rename_i q
    refine hs B σ env G2 W2 x y v u (.bl false) _ A2 z1'.any z2.any q fun W' w e' A' r => ⟨false, r, ?_⟩
    rw [if_neg Bool.false_ne_true]
    exact h2 W' _ (e'.weak) A' (.inl rfl)
  · exact h2.elim
theorem rd_tb {d : DE} {Wish : WX} {σ : L2.St} {H : Hp} {Q : Bool → Hp → Prop} (h : rdX kt B p Wish ZB (dTB d) σ H Q) : rdX kt B p Wish (fun W x v => Pk kt.K W m x v) d σ H (fun x H' => ∃ k, x = .bl k ∧ Q k H') := by
  obtain ⟨W, env, G, e, A, h⟩ := h
  refine ⟨W, env, G, e, A, ?_⟩
  unfold dTB at h
  refine h.bindL.mono ?_
  rintro v H1 ⟨W1, x, G1, rfl, e1, A1, z1, h1⟩
  cases x with
  | bl b => obtain rfl := z1.bl; exact ⟨b, rfl, h1 W1 b Ext.refl A1 rfl⟩
  | _ => exact h1.elim
theorem st_chain {op op' : CmpOp} {o o' : Vl → Vl → Option Vl} (ho : OpS kt X (compareOp op) o) (ho' : OpS kt X (compareOp op') o') (ha : SX kt B X pa ma a da) (hb : SX kt B X pb mb b db) (hc : SX kt B X pc mc c dc)
    (hm : okM pb ma = true := by rfl) (hm' : okM pc mb = true := by rfl) (hl : lastMarks [op, op'] [b, c] = false := by with_unfolding_all rfl) : ST kt B X (pa && (pb && pc)) (.Compare a [op, op'] [b, c] pos) (dTB (dChain o o' da db dc)) := fun Wish tk => by
  obtain ⟨r, r', hr, hr', hi⟩ := chain_imp (B := B) (pa := pa) (da := da) (db := db) (mc := mc) (dc := dc) (Wish := Wish) ho ho' hm hm'
  exact (pt_chain hr hr' (ha Wish tk) (hb Wish tk) (hc Wish tk) hl).imp fun σ H Q h => hi _ _ _ (rd_tb h)
end
end CardH
end
section
set_option maxHeartbeats 2000000
namespace CardH
open PySem PySem.Spec PyProof.Rows L2

mutual
def py : Vl → Nat → Option PyData
  | .non, _ => some .none
  | .bl b, _ => some (.bool b)
  | .int i, _ => some (.int i)
  | .str x, _ => some (.str x)
  | .tup xs, n + 1 => (pys xs n).map .tuple
  | .ktp xs, n + 1 => (pys xs n).map .tuple
  | .stp xs, n + 1 => (pys xs n).map .tuple
  | .lst xs, n + 1 => (pys xs n).map .list
  | _, _ => none
def pys : List Vl → Nat → Option (List PyData)
  | [], _ => some []
  | x :: xs, n => match py x n, pys xs n with
    | some d, some ds => some (d :: ds)
    | _, _ => none
end
section
variable {K : PySem.W.Frag} {W : Wd}
mutual
theorem py_spec : ∀ (x : Vl) (n : Nat) (d : PyData) (v : V), Rep K W x v → py x n = some d → Dp K W.H v d ∧ d.canLay0 = true ∧ d.depth ≤ n
  | .non, _, _, _, h, e => by cases e; cases h; exact ⟨.non, rfl, Nat.zero_le _⟩
  | .bl b, _, _, _, h, e => by cases e; cases h; exact ⟨.bl b, rfl, Nat.zero_le _⟩
  | .int i, _, _, _, h, e => by cases e; cases h; exact ⟨.int i, rfl, Nat.zero_le _⟩
  | .str x, _, _, _, h, e => by
    cases e; obtain ⟨rfl, h⟩ := h
    exact ⟨.str x, by rw [PyData.canLay0]; exact h, Nat.zero_le _⟩
  | .tup xs, n + 1, d, v, h, e => by
    obtain ⟨a, vs, o, rfl, _, h1, _, h2⟩ := h
    obtain ⟨ds, e1, rfl⟩ := Option.map_eq_some_iff.mp e
    obtain ⟨q1, q2, q3⟩ := pys_spec xs n ds vs h2 e1
    exact ⟨.tup (.inl (.inr ⟨o, h1⟩)) q1, by simpa [PyData.canLay0] using q2, by simp only [PyData.depth]; omega⟩
  | .stp xs, n + 1, d, v, h, e => by
    obtain ⟨a, vs, rfl, h1, h2⟩ := h
    obtain ⟨ds, e1, rfl⟩ := Option.map_eq_some_iff.mp e
    obtain ⟨q1, q2, q3⟩ := pys_spec xs n ds vs h2 e1
    exact ⟨.tup (SqT.of h1) q1, by simpa [PyData.canLay0] using q2, by simp only [PyData.depth]; omega⟩
  | .ktp xs, n + 1, d, v, h, e => by
    obtain ⟨a, vs, rfl, h1, h2⟩ := h
    obtain ⟨ds, e1, rfl⟩ := Option.map_eq_some_iff.mp e
    obtain ⟨q1, q2, q3⟩ := pys_spec xs n ds vs h2 e1
    exact ⟨.tup (.inr h1) q1, by simpa [PyData.canLay0] using q2, by simp only [PyData.depth]; omega⟩
  | .lst xs, n + 1, d, v, h, e => by
    obtain ⟨a, vs, rfl, _, h1, h2⟩ := h
    obtain ⟨ds, e1, rfl⟩ := Option.map_eq_some_iff.mp e
    obtain ⟨q1, q2, q3⟩ := pys_spec xs n ds vs h2 e1
    exact ⟨.lst (SqL.of h1) q1, by simpa [PyData.canLay0] using q2, by simp only [PyData.depth]; omega⟩
  | .tup _, 0, _, _, _, e => by cases e
  | .ktp _, 0, _, _, _, e => by cases e
  | .stp _, 0, _, _, _, e => by cases e
  | .lst _, 0, _, _, _, e => by cases e
  | .dct _ _, _, _, _, _, e => by cases e
  | .ref _, _, _, _, _, e => by cases e
  | .scr _, _, _, _, _, e => by cases e
theorem pys_spec : ∀ (xs : List Vl) (n : Nat) (ds : List PyData) (vs : List V), Reps K W xs vs → pys xs n = some ds → DpAll K W.H vs ds ∧ PyData.canLayAll0 ds = true ∧ PyData.depthAll ds ≤ n
  | [], _, _, _, h, e => by cases e; cases h; exact ⟨.nil, rfl, Nat.zero_le _⟩
  | x :: xs, n, ds, vs, h, e => by
    obtain ⟨v, r, rfl, h1, h2⟩ := h
    unfold pys at e
    split at e
    · rename_i d ds' e1 e2
      cases e
      obtain ⟨a1, a2, a3⟩ := py_spec x n d v h1 e1
      obtain ⟨b1, b2, b3⟩ := pys_spec xs n ds' r h2 e2
      exact ⟨.cons a1 b1, by simp [PyData.canLayAll0, a2, b2], by simp only [PyData.depthAll]; omega⟩
    · cases e
end
theorem pk_py {m : Md} {x : Vl} {n : Nat} {d : PyData} {v : V} (h : Pk K W m x v) (e : py x n = some d) : Dp K W.H v d ∧ d.canLay0 = true ∧ d.depth ≤ n := by
  cases x with
  | lst xs =>
    cases n with
    | zero => cases e
    | succ n =>
      obtain ⟨a, vs, rfl, h1, h2⟩ := h.lst
      obtain ⟨ds, e1, rfl⟩ := Option.map_eq_some_iff.mp e
      obtain ⟨q1, q2, q3⟩ := pys_spec xs n ds vs h2 e1
      exact ⟨.lst (SqL.of h1) q1, by simpa [PyData.canLay0] using q2, by simp only [PyData.depth]; omega⟩
  | dct t kvs => cases e
  | _ => exact py_spec _ n d v (h.val (fun _ z => nomatch z) fun _ _ z => nomatch z) e
end
def vEq (x y : Vl) : Option Vl := match py x 60, py y 60 with
  | some d, some e => some (.bl (PyData.eqv d e))
  | _, _ => none
def vNe (x y : Vl) : Option Vl := match py x 60, py y 60 with
  | some d, some e => some (.bl (!PyData.eqv d e))
  | _, _ => none
section
variable {kt : Kt} {X : Cx}
theorem shaped60 {d : PyData} (h : d.canLay0 = true) (g : d.depth ≤ 60) : SeqAt.shaped d = true := by
  unfold SeqAt.shaped
  rw [h, Bool.true_and]
  exact decide_eq_true (by omega)
theorem ops_eq (hu : X.A.units + 64 < cLine) (hK : X.K = kt.K := by rfl) : OpS kt X (compareOp .Eq) vEq := by
  refine ⟨_, op_eqD hu, fun B σ env G W x y v u z Q A hx hy e q => ?_⟩
  unfold vEq at e
  split at e
  · rename_i d f e1 e2
    cases e
    obtain ⟨a1, a2, a3⟩ := pk_py hx e1
    obtain ⟨b1, b2, b3⟩ := pk_py hy e2
    rw [← hK] at a1 b1
    exact ⟨d, f, a1, b1, shaped60 a2 a3, shaped60 b2 b3, q W _ Ext.refl A rfl⟩
  · cases e
theorem ops_ne (hu : X.A.units + 64 < cLine) (hK : X.K = kt.K := by rfl) : OpS kt X (compareOp .NotEq) vNe := by
  refine ⟨_, op_neD hu, fun B σ env G W x y v u z Q A hx hy e q => ?_⟩
  unfold vNe at e
  split at e
  · rename_i d f e1 e2
    cases e
    obtain ⟨a1, a2, a3⟩ := pk_py hx e1
    obtain ⟨b1, b2, b3⟩ := pk_py hy e2
    rw [← hK] at a1 b1
    exact ⟨d, f, a1, b1, shaped60 a2 a3, shaped60 b2 b3, q W _ Ext.refl A rfl⟩
  · cases e
def isN : PyData → Bool
  | .none => true
  | _ => false
def ordD (f : PyData → PyData → Bool) (x y : Vl) : Option Vl := match py x 60, py y 60 with
  | some d, some e => if PySem.W.alike d e = true ∧ isN d = false then some (.bl (f d e)) else none
  | _, _ => none
def vLt : Vl → Vl → Option Vl
  | .int i, .int j => some (.bl (decide (i < j)))
  | x, y => ordD (fun d e => PySem.W.dataLt d e) x y
def vGt : Vl → Vl → Option Vl
  | .int i, .int j => some (.bl (decide (j < i)))
  | x, y => ordD (fun d e => PySem.W.dataLt e d) x y
def vLe : Vl → Vl → Option Vl
  | .int i, .int j => some (.bl (decide (i ≤ j)))
  | x, y => ordD (fun d e => !PySem.W.dataLt e d) x y
def vGe : Vl → Vl → Option Vl
  | .int i, .int j => some (.bl (decide (j ≤ i)))
  | x, y => ordD (fun d e => !PySem.W.dataLt d e) x y
def rOrd (K : PySem.W.Frag) (f : PyData → PyData → Bool) : R2 := fun x y H Q => ∃ d e, Dp K H x d ∧ Dp K H y e ∧ SeqAt.shaped d = true ∧ SeqAt.shaped e = true ∧ PySem.W.alike d e = true ∧ d ≠ .none ∧ Q (.bl (f d e)) H
theorem op_ltD (hu : X.A.units + 64 < cLine) : OpR X (compareOp .Lt) (rOrd X.K fun d e => PySem.W.dataLt d e) := by
  intro pins s σ H x y v u Q I rx ry h
  obtain ⟨d, e, hd, he, sd, se, al, nn, q⟩ := h
  obtain ⟨as, r1⟩ := Dp.reads I d x v hd rx
  obtain ⟨bs, r2⟩ := Dp.reads I e y u he ry
  exact PySem.W.lt_data r1 r2 al nn (SeqAt.room_of_shaped sd hu) ⟨.bl _, H, I, rfl, q⟩
theorem op_gtD (hu : X.A.units + 64 < cLine) : OpR X (compareOp .Gt) (rOrd X.K fun d e => PySem.W.dataLt e d) := by
  intro pins s σ H x y v u Q I rx ry h
  obtain ⟨d, e, hd, he, sd, se, al, nn, q⟩ := h
  obtain ⟨as, r1⟩ := Dp.reads I d x v hd rx
  obtain ⟨bs, r2⟩ := Dp.reads I e y u he ry
  exact PySem.W.gt_data r1 r2 al nn (SeqAt.room_of_shaped sd hu) ⟨.bl _, H, I, rfl, q⟩
theorem op_leD (hu : X.A.units + 64 < cLine) : OpR X (compareOp .LtE) (rOrd X.K fun d e => !PySem.W.dataLt e d) := by
  intro pins s σ H x y v u Q I rx ry h
  obtain ⟨d, e, hd, he, sd, se, al, nn, q⟩ := h
  obtain ⟨as, r1⟩ := Dp.reads I d x v hd rx
  obtain ⟨bs, r2⟩ := Dp.reads I e y u he ry
  exact PySem.W.le_data r1 r2 al nn (SeqAt.room_of_shaped sd hu) ⟨.bl _, H, I, rfl, q⟩
theorem op_geD (hu : X.A.units + 64 < cLine) : OpR X (compareOp .GtE) (rOrd X.K fun d e => !PySem.W.dataLt d e) := by
  intro pins s σ H x y v u Q I rx ry h
  obtain ⟨d, e, hd, he, sd, se, al, nn, q⟩ := h
  obtain ⟨as, r1⟩ := Dp.reads I d x v hd rx
  obtain ⟨bs, r2⟩ := Dp.reads I e y u he ry
  exact PySem.W.ge_data r1 r2 al nn (SeqAt.room_of_shaped sd hu) ⟨.bl _, H, I, rfl, q⟩
theorem ordD_r {f : PyData → PyData → Bool} {x y z : Vl} {v u : V} {W : Wd} {Q : VK} (hK : X.K = kt.K) (hx : Pk kt.K W .f x v) (hy : Pk kt.K W .f y u) (e : ordD f x y = some z) (q : ∀ b, z = .bl b → Q (.bl b) W.H) : rOrd X.K f v u W.H Q := by
  unfold ordD at e
  split at e
  · rename_i d d' e1 e2
    by_cases h : PySem.W.alike d d' = true ∧ isN d = false
    · rw [if_pos h] at e
      cases e
      obtain ⟨a1, a2, a3⟩ := pk_py hx e1
      obtain ⟨b1, b2, b3⟩ := pk_py hy e2
      rw [← hK] at a1 b1
      exact ⟨d, d', a1, b1, shaped60 a2 a3, shaped60 b2 b3, h.1, (fun z => by rw [z] at h; cases h.2), q _ rfl⟩
    · rw [if_neg h] at e
      cases e
  · cases e
theorem ops_lt (hu : X.A.units + 64 < cLine) (hK : X.K = kt.K := by rfl) : OpS kt X (compareOp .Lt) vLt := by
  refine ⟨_, op_lt.or (op_ltD hu), fun B σ env G W x y v u z Q A hx hy e q => ?_⟩
  unfold vLt at e
  split at e
  · cases e
    obtain rfl := hx.int; obtain rfl := hy.int
    exact .inl ⟨_, _, rfl, rfl, q W _ Ext.refl A rfl⟩
  · exact .inr (ordD_r hK hx hy e fun b eb => q W _ Ext.refl A (by rw [eb]; rfl))
theorem ops_gt (hu : X.A.units + 64 < cLine) (hK : X.K = kt.K := by rfl) : OpS kt X (compareOp .Gt) vGt := by
  refine ⟨_, op_gt.or (op_gtD hu), fun B σ env G W x y v u z Q A hx hy e q => ?_⟩
  unfold vGt at e
  split at e
  · cases e
    obtain rfl := hx.int; obtain rfl := hy.int
    exact .inl ⟨_, _, rfl, rfl, q W _ Ext.refl A rfl⟩
  · exact .inr (ordD_r hK hx hy e fun b eb => q W _ Ext.refl A (by rw [eb]; rfl))
theorem ops_le (hu : X.A.units + 64 < cLine) (hK : X.K = kt.K := by rfl) : OpS kt X (compareOp .LtE) vLe := by
  refine ⟨_, op_le.or (op_leD hu), fun B σ env G W x y v u z Q A hx hy e q => ?_⟩
  unfold vLe at e
  split at e
  · cases e
    obtain rfl := hx.int; obtain rfl := hy.int
    exact .inl ⟨_, _, rfl, rfl, q W _ Ext.refl A rfl⟩
  · exact .inr (ordD_r hK hx hy e fun b eb => q W _ Ext.refl A (by rw [eb]; rfl))
theorem ops_ge (hu : X.A.units + 64 < cLine) (hK : X.K = kt.K := by rfl) : OpS kt X (compareOp .GtE) vGe := by
  refine ⟨_, op_ge.or (op_geD hu), fun B σ env G W x y v u z Q A hx hy e q => ?_⟩
  unfold vGe at e
  split at e
  · cases e
    obtain rfl := hx.int; obtain rfl := hy.int
    exact .inl ⟨_, _, rfl, rfl, q W _ Ext.refl A rfl⟩
  · exact .inr (ordD_r hK hx hy e fun b eb => q W _ Ext.refl A (by rw [eb]; rfl))
end

section
variable {κ : Type} [DecidableEq κ]
def dgetF (f : Vl → Option κ) (kvs : List (Vl × Vl)) (q : κ) : Option Vl := (kvs.find? fun kv => decide (f kv.1 = some q)).map (·.2)
def dputF (f : Vl → Option κ) (kvs : List (Vl × Vl)) (k : Vl) (q : κ) (x : Vl) : List (Vl × Vl) :=
  if (kvs.any fun kv => decide (f kv.1 = some q)) = true then kvs.map (fun kv => if f kv.1 = some q then (kv.1, x) else kv) else kvs ++ [(k, x)]
def ddropF (f : Vl → Option κ) (kvs : List (Vl × Vl)) (q : κ) : List (Vl × Vl) := kvs.filter fun kv => decide (f kv.1 ≠ some q)
def RepD (K : PySem.W.Frag) (W : Wd) (f : Vl → Option κ) : List (Vl × Vl) → List (κ × V) → Prop := Paired fun kv p => (f kv.1 = some p.1 ∧ okK kv.1 = true) ∧ Rep K W kv.2 p.2
def GetR (K : PySem.W.Frag) (W : Wd) : Option Vl → Option V → Prop
  | some x, o => ∃ v, o = some v ∧ Rep K W x v
  | none, o => o = none
variable {K : PySem.W.Frag} {W : Wd} {f : Vl → Option κ}
theorem RepD.get : ∀ {kvs : List (Vl × Vl)} {ks : List (κ × V)} (q : κ), RepD K W f kvs ks → GetR K W (dgetF f kvs q) (valV ks q)
  | _, _, q, .nil => rfl
  | kv :: kvs, p :: ks, q, .cons r t => by
    have ih := RepD.get q t
    by_cases e : p.1 = q
    · have e1 : f kv.1 = some q := by rw [r.1.1, e]
      have h1 : dgetF f (kv :: kvs) q = some kv.2 := by simp [dgetF, List.find?_cons, e1]
      rw [h1]
      exact ⟨p.2, valV_pos e, r.2⟩
    · have e1 : ¬ f kv.1 = some q := by rw [r.1.1]; simpa using e
      have h1 : dgetF f (kv :: kvs) q = dgetF f kvs q := by simp [dgetF, List.find?_cons, e1]
      rw [h1, valV_neg e]
      exact ih
theorem RepD.any : ∀ {kvs : List (Vl × Vl)} {ks : List (κ × V)} (q : κ), RepD K W f kvs ks → (kvs.any fun kv => decide (f kv.1 = some q)) = ks.any fun p => decide (p.1 = q)
  | _, _, q, .nil => rfl
  | kv :: kvs, p :: ks, q, .cons r t => by
    simp only [List.any_cons, RepD.any q t, r.1.1, Option.some.injEq]
theorem RepD.append : ∀ {kvs kvs' : List (Vl × Vl)} {ks ks' : List (κ × V)}, RepD K W f kvs ks → RepD K W f kvs' ks' → RepD K W f (kvs ++ kvs') (ks ++ ks')
  | _, _, _, _, .nil, g => g
  | _, _, _, _, .cons r t, g => .cons r (RepD.append t g)
theorem RepD.mapPut {x : Vl} {q : κ} {v : V} (hx : Rep K W x v) : ∀ {kvs : List (Vl × Vl)} {ks : List (κ × V)}, RepD K W f kvs ks → RepD K W f (kvs.map (fun kv => if f kv.1 = some q then (kv.1, x) else kv)) (ks.map fun kv => if kv.1 = q then (kv.1, v) else kv)
  | _, _, .nil => .nil
  | kv :: kvs, p :: ks, .cons r t => by
    refine .cons ?_ (RepD.mapPut hx t)
    dsimp only
    by_cases e : p.1 = q
    · rw [if_pos (show f kv.1 = some q by rw [r.1.1, e]), if_pos e]
      exact ⟨r.1, hx⟩
    · rw [if_neg (show ¬ f kv.1 = some q by rw [r.1.1]; simpa using e), if_neg e]
      exact r
theorem RepD.put {kvs : List (Vl × Vl)} {ks : List (κ × V)} {k x : Vl} {q : κ} {v : V} (h : RepD K W f kvs ks) (hk : f k = some q ∧ okK k = true) (hx : Rep K W x v) : RepD K W f (dputF f kvs k q x) (putK ks q v) := by
  unfold dputF putK
  rw [h.any q]
  split
  · exact h.mapPut hx
  · exact h.append (.cons ⟨hk, hx⟩ .nil)
theorem RepD.drop : ∀ {kvs : List (Vl × Vl)} {ks : List (κ × V)} (q : κ), RepD K W f kvs ks → RepD K W f (ddropF f kvs q) (dropK ks q)
  | _, _, _, .nil => .nil
  | kv :: kvs, p :: ks, q, .cons r t => by
    have ih := RepD.drop q t
    unfold ddropF dropK at ih ⊢
    by_cases e : p.1 = q
    · rw [List.filter_cons_of_neg (by rw [r.1.1]; simpa using e), List.filter_cons_of_neg (by simpa using e)]
      exact ih
    · rw [List.filter_cons_of_pos (by rw [r.1.1]; simpa using e), List.filter_cons_of_pos (by simpa using e)]
      exact .cons r ih
end
section
variable {K : PySem.W.Frag} {W : Wd}
theorem RepK.to : ∀ {kvs : List (Vl × Vl)} {ks : List (Key × V)}, RepK K W kvs ks → RepD K W keyOf kvs ks
  | [], _, h => by cases h; exact .nil
  | (k, x) :: kvs, _, h => by
    obtain ⟨q, v, r, rfl, h1, h2, h3⟩ := h
    exact .cons ⟨h1, h2⟩ (RepK.to h3)
theorem RepK.of : ∀ {kvs : List (Vl × Vl)} {ks : List (Key × V)}, RepD K W keyOf kvs ks → RepK K W kvs ks
  | [], _, .nil => rfl
  | (k, x) :: kvs, (q, v) :: r, .cons a b => ⟨q, v, r, rfl, a.1, a.2, RepK.of b⟩
theorem RepT.to : ∀ {kvs : List (Vl × Vl)} {ks : List (List Key × V)}, RepT K W kvs ks → RepD K W keyTOf kvs ks
  | [], _, h => by cases h; exact .nil
  | (k, x) :: kvs, _, h => by
    obtain ⟨q, v, r, rfl, h1, h2, h3⟩ := h
    exact .cons ⟨h1, h2⟩ (RepT.to h3)
theorem RepT.of : ∀ {kvs : List (Vl × Vl)} {ks : List (List Key × V)}, RepD K W keyTOf kvs ks → RepT K W kvs ks
  | [], _, .nil => rfl
  | (k, x) :: kvs, (q, v) :: r, .cons a b => ⟨q, v, r, rfl, a.1, a.2, RepT.of b⟩
theorem keyOf_rep {x : Vl} {v : V} {q : Key} (h : Rep K W x v) (e : keyOf x = some q) : v = kV q := by
  cases x <;> cases e
  · exact h
  · exact h.1
theorem ok1_rep {x : Vl} {v : V} (h : Rep K W x v) : okK1 x = true := by
  cases x with
  | str z => exact h.2
  | _ => rfl
theorem oks_rep : ∀ {xs : List Vl} {vs : List V}, Reps K W xs vs → xs.all okK1 = true
  | [], _, _ => rfl
  | x :: xs, _, h => by
    obtain ⟨v, r, rfl, h1, h2⟩ := h
    simp [ok1_rep h1, oks_rep h2]
theorem ok_rep {x : Vl} {v : V} (h : Rep K W x v) : okK x = true := by
  cases x with
  | stp xs => obtain ⟨a, vs, rfl, h1, h2⟩ := h; exact oks_rep h2
  | str z => exact h.2
  | _ => rfl
theorem keysOf_rep : ∀ {xs : List Vl} {vs : List V} {ks : List Key}, Reps K W xs vs → keysOf xs = some ks → vs = ks.map kV
  | [], _, _, h, e => by cases h; cases e; rfl
  | x :: xs, _, ks, h, e => by
    obtain ⟨v, r, rfl, h1, h2⟩ := h
    unfold keysOf at e
    split at e
    · rename_i k ks' e1 e2
      cases e
      rw [keyOf_rep h1 e1, keysOf_rep h2 e2]; rfl
    · cases e
theorem keyTOf_rep {x : Vl} {v : V} {q : List Key} (h : Rep K W x v) (e : keyTOf x = some q) : ∃ b, v = .ref b ∧ W.H b = some (.tup (q.map kV)) := by
  cases x with
  | stp xs =>
    obtain ⟨a, vs, rfl, h1, h2⟩ := h
    rw [keysOf_rep h2 e] at h1
    exact ⟨a, rfl, h1⟩
  | _ => cases e
end
def dAt (t : Bool) (kvs : List (Vl × Vl)) (k : Vl) : Option (Option Vl) := match t with
  | false => (keyOf k).map fun q => dgetF keyOf kvs q
  | true => (keyTOf k).map fun q => dgetF keyTOf kvs q
section
variable {K : PySem.W.Frag} {W : Wd} {m : Md}
theorem dAt_get {t : Bool} {kvs : List (Vl × Vl)} {k : Vl} {v u : V} {o : Option Vl} (h : Pk K W m (.dct t kvs) v) (hk : Rep K W k u) (e : dAt t kvs k = some o) :
    ∃ a o', v = .ref a ∧ DGet W.H a u o' ∧ GetR K W o o' := by
  cases t with
  | false =>
    obtain ⟨q, eq, rfl⟩ := Option.map_eq_some_iff.mp e
    obtain ⟨a, ks, rfl, h1, h2⟩ := h.dK
    refine ⟨a, _, rfl, .inl ⟨ks, q, h1, keyOf_rep hk eq, rfl⟩, ?_⟩
    exact h2.to.get q
  | true =>
    obtain ⟨q, eq, rfl⟩ := Option.map_eq_some_iff.mp e
    obtain ⟨a, ks, rfl, h1, h2⟩ := h.dT
    obtain ⟨b, eb, hb⟩ := keyTOf_rep hk eq
    refine ⟨a, _, rfl, .inr ⟨ks, q, b, h1, eb, hb, rfl⟩, ?_⟩
    exact h2.to.get q
end
def vIn (x : Vl) : Vl → Option Bool
  | .str z => match x with
    | .str a => match a.cps.toList with
      | [c] => some (decide (c ∈ z.cps.toList))
      | _ => none
    | _ => none
  | .dct t kvs => (dAt t kvs x).map (·.isSome)
  | .lst ys => match py x 60, pys ys 59 with
    | some d, some ds => some (ds.any fun z => PyData.eqv z d)
    | _, _ => none
  | .tup ys => match py x 60, pys ys 59 with
    | some d, some ds => some (ds.any fun z => PyData.eqv z d)
    | _, _ => none
  | .stp ys => match py x 60, pys ys 59 with
    | some d, some ds => some (ds.any fun z => PyData.eqv z d)
    | _, _ => none
  | .ktp ys => match py x 60, pys ys 59 with
    | some d, some ds => some (ds.any fun z => PyData.eqv z d)
    | _, _ => none
  | _ => none
def vInV (x y : Vl) : Option Vl := (vIn x y).map .bl
def vNotInV (x y : Vl) : Option Vl := (vIn x y).map fun b => .bl (!b)
def rInT (K : PySem.W.Frag) (f : Bool → Bool) : R2 := fun x y H Q => ∃ d ds, Dp K H x d ∧ (Dp K H y (.list ds) ∨ Dp K H y (.tuple ds)) ∧ SeqAt.shaped d = true ∧ SeqAt.shaped (.list ds) = true ∧ Q (.bl (f (ds.any fun z => PyData.eqv z d))) H
def rInDc (f : Bool → Bool) : R2 := fun x y H Q => ∃ a o, y = .ref a ∧ DGet H a x o ∧ Q (.bl (f o.isSome)) H
section
variable {kt : Kt} {X : Cx}
theorem op_inT (hu : X.A.units + 65 < cLine) : OpR X (compareOp .In) (rInT X.K id) := by
  intro pins s σ H x y v u Q I rx ry h
  obtain ⟨d, ds, hd, he, sd, se, q⟩ := h
  obtain ⟨as, r1⟩ := Dp.reads I d x v hd rx
  rcases he with he | he
  · obtain ⟨bs, r2⟩ := Dp.reads I (.list ds) y u he ry
    exact SeqAt.in_list_reads r2 r1 (SeqAt.canLay_of_shaped se) (SeqAt.canLay_of_shaped sd) (room_in_shaped sd hu) ⟨.bl _, H, I, rfl, q⟩
  · obtain ⟨bs, r2⟩ := Dp.reads I (.tuple ds) y u he ry
    exact SeqAt.in_tuple_reads r2 r1 (SeqAt.canLay_of_shaped se) (SeqAt.canLay_of_shaped sd) (room_in_shaped sd hu) ⟨.bl _, H, I, rfl, q⟩
theorem op_notInT (hu : X.A.units + 65 < cLine) : OpR X (compareOp .NotIn) (rInT X.K not) := by
  intro pins s σ H x y v u Q I rx ry h
  obtain ⟨d, ds, hd, he, sd, se, q⟩ := h
  obtain ⟨as, r1⟩ := Dp.reads I d x v hd rx
  rcases he with he | he
  · obtain ⟨bs, r2⟩ := Dp.reads I (.list ds) y u he ry
    exact SeqAt.notIn_list_reads r2 r1 (SeqAt.canLay_of_shaped se) (SeqAt.canLay_of_shaped sd) (room_in_shaped sd hu) ⟨.bl _, H, I, rfl, q⟩
  · obtain ⟨bs, r2⟩ := Dp.reads I (.tuple ds) y u he ry
    exact SeqAt.notIn_tuple_reads r2 r1 (SeqAt.canLay_of_shaped se) (SeqAt.canLay_of_shaped sd) (room_in_shaped sd hu) ⟨.bl _, H, I, rfl, q⟩
theorem op_inDc (hu : X.A.units + 65 < cLine) : OpR X (compareOp .In) (rInDc id) := by
  intro pins s σ H x y v u Q I rx ry h
  obtain ⟨a, o, rfl, g, q⟩ := h
  cases ry
  exact d_in (by omega) I g rx fun s' I' => ⟨.bl _, H, I', rfl, q⟩
theorem op_notInDc (hu : X.A.units + 65 < cLine) : OpR X (compareOp .NotIn) (rInDc not) := by
  intro pins s σ H x y v u Q I rx ry h
  obtain ⟨a, o, rfl, g, q⟩ := h
  cases ry
  exact d_notIn (by omega) I g rx fun s' I' => ⟨.bl _, H, I', rfl, q⟩
theorem str_one {a : Str} {c : Nat} (h : a.cps.toList = [c]) : a = ⟨#[c]⟩ := by
  obtain ⟨a⟩ := a
  exact congrArg Str.mk (by rw [← Array.toList_inj, h])
theorem vIn_r {f : Bool → Bool} {x y : Vl} {v u : V} {W : Wd} {Q : VK} {b : Bool} (hK : X.K = kt.K) (hx : Pk kt.K W .f x v) (hy : Pk kt.K W .f y u) (e : vIn x y = some b) (q : Q (.bl (f b)) W.H) :
    (∃ (c : Nat) (z : Str), v = .str ⟨#[c]⟩ ∧ u = .str z ∧ Q (.bl (f (decide (c ∈ z.cps.toList)))) W.H) ∨ rInT X.K f v u W.H Q ∨ rInDc f v u W.H Q := by
  have data : ∀ {d : PyData} {ds : List PyData}, py x 60 = some d → Dp X.K W.H u (.list ds) ∨ Dp X.K W.H u (.tuple ds) → PyData.canLayAll0 ds = true → PyData.depthAll ds ≤ 59 → (ds.any fun z => PyData.eqv z d) = b → rInT X.K f v u W.H Q := by
    intro d ds e1 h1 h2 h3 eb
    obtain ⟨a1, a2, a3⟩ := pk_py hx e1
    rw [← hK] at a1
    exact ⟨d, ds, a1, h1, shaped60 a2 a3, shaped60 (by simpa [PyData.canLay0] using h2) (by simp only [PyData.depth]; omega), by rw [eb]; exact q⟩
  cases y with
  | str z =>
    obtain ⟨rfl, _⟩ := hy.str
    cases x with
    | str a =>
      have e : (match a.cps.toList with | [c] => some (decide (c ∈ z.cps.toList)) | _ => none) = some b := e
      split at e
      · rename_i c ec
        cases e
        obtain ⟨rfl, _⟩ := hx.str
        exact .inl ⟨c, z, by rw [str_one ec], rfl, q⟩
      · cases e
    | _ => cases e
  | dct t kvs =>
    obtain ⟨o, eo, rfl⟩ := Option.map_eq_some_iff.mp e
    have hx' : Rep kt.K W x v := hx.val (fun xs z => by subst z; cases t <;> cases eo) fun t' kvs' z => by subst z; cases t <;> cases eo
    obtain ⟨a, o', rfl, g, h⟩ := dAt_get hy hx' eo
    refine .inr (.inr ⟨a, o', rfl, g, ?_⟩)
    cases o with
    | some x => obtain ⟨w, rfl, _⟩ := h; exact q
    | none => subst h; exact q
  | lst ys =>
    have e : (match py x 60, pys ys 59 with | some d, some ds => some (ds.any fun z => PyData.eqv z d) | _, _ => none) = some b := e
    split at e
    · rename_i d ds e1 e2
      obtain ⟨a, vs, rfl, h1, h2⟩ := hy.lst
      obtain ⟨q1, q2, q3⟩ := pys_spec ys 59 ds vs h2 e2
      exact .inr (.inl (data e1 (.inl (.lst (SqL.of h1) (by rw [hK]; exact q1))) q2 q3 (Option.some.inj e)))
    · cases e
  | tup ys =>
    have e : (match py x 60, pys ys 59 with | some d, some ds => some (ds.any fun z => PyData.eqv z d) | _, _ => none) = some b := e
    split at e
    · rename_i d ds e1 e2
      obtain ⟨a, vs, rfl, h1, h2⟩ := hy.tup
      obtain ⟨q1, q2, q3⟩ := pys_spec ys 59 ds vs h2 e2
      exact .inr (.inl (data e1 (.inr (.tup (by rw [hK]; exact h1) (by rw [hK]; exact q1))) q2 q3 (Option.some.inj e)))
    · cases e
  | ktp ys =>
    have e : (match py x 60, pys ys 59 with | some d, some ds => some (ds.any fun z => PyData.eqv z d) | _, _ => none) = some b := e
    split at e
    · rename_i d ds e1 e2
      obtain ⟨a, vs, rfl, h1, h2⟩ := hy.ktp
      obtain ⟨q1, q2, q3⟩ := pys_spec ys 59 ds vs h2 e2
      exact .inr (.inl (data e1 (.inr (.tup (by rw [hK]; exact h1) (by rw [hK]; exact q1))) q2 q3 (Option.some.inj e)))
    · cases e
  | stp ys =>
    have e : (match py x 60, pys ys 59 with | some d, some ds => some (ds.any fun z => PyData.eqv z d) | _, _ => none) = some b := e
    split at e
    · rename_i d ds e1 e2
      obtain ⟨a, vs, rfl, h1, h2⟩ := hy.stp
      obtain ⟨q1, q2, q3⟩ := pys_spec ys 59 ds vs h2 e2
      exact .inr (.inl (data e1 (.inr (.tup (by rw [hK]; exact h1) (by rw [hK]; exact q1))) q2 q3 (Option.some.inj e)))
    · cases e
  | _ => cases e
theorem ops_in (hu : X.A.units + 65 < cLine) (hK : X.K = kt.K := by rfl) : OpS kt X (compareOp .In) vInV := by
  refine ⟨_, op_in_sign.or ((op_inT hu).or (op_inDc hu)), fun B σ env G W x y v u z Q A hx hy e q => ?_⟩
  obtain ⟨b, eb, rfl⟩ := Option.map_eq_some_iff.mp e
  exact vIn_r (f := id) hK hx hy eb (q W _ Ext.refl A rfl)
theorem ops_notIn (hu : X.A.units + 65 < cLine) (hK : X.K = kt.K := by rfl) : OpS kt X (compareOp .NotIn) vNotInV := by
  refine ⟨_, op_notIn_sign.or ((op_notInT hu).or (op_notInDc hu)), fun B σ env G W x y v u z Q A hx hy e q => ?_⟩
  obtain ⟨b, eb, rfl⟩ := Option.map_eq_some_iff.mp e
  exact vIn_r (f := not) hK hx hy eb (q W _ Ext.refl A rfl)
end
end CardH
end
section
set_option maxHeartbeats 2000000
namespace CardH
open PySem PySem.Spec PyProof.Rows L2

def PkS (K : PySem.W.Frag) (W : Wd) (m : Md) : List Vl → List V → Prop
  | [], vs => vs = []
  | x :: xs, vs => ∃ v r, vs = v :: r ∧ Pk K W m x v ∧ PkS K W m xs r
theorem PkS.ext {K : PySem.W.Frag} {p : Bool} {W W' : Wd} {m : Md} (e : Ext p W W') (hp : p = true ∨ m ≠ .f) : ∀ {xs : List Vl} {vs : List V}, PkS K W m xs vs → PkS K W' m xs vs
  | [], _, h => h
  | _ :: _, _, h => by
    obtain ⟨v, r, e1, h1, h2⟩ := h
    exact ⟨v, r, e1, h1.ext e hp, PkS.ext e hp h2⟩
theorem PkS.strict {K : PySem.W.Frag} {W : Wd} : ∀ {xs : List Vl} {vs : List V}, PkS K W .s xs vs → Reps K W xs vs
  | [], _, h => h
  | _ :: _, _, h => by
    obtain ⟨v, r, e1, h1, h2⟩ := h
    exact ⟨v, r, e1, h1.strict, PkS.strict h2⟩
theorem PkS.any {K : PySem.W.Frag} {W : Wd} {m : Md} : ∀ {xs : List Vl} {vs : List V}, PkS K W m xs vs → PkS K W .f xs vs
  | [], _, h => h
  | _ :: _, _, h => by
    obtain ⟨v, r, e1, h1, h2⟩ := h
    exact ⟨v, r, e1, h1.any, PkS.any h2⟩
theorem PkS.one {K : PySem.W.Frag} {W : Wd} {m : Md} {x : Vl} {vs : List V} (h : PkS K W m [x] vs) : ∃ v, vs = [v] ∧ Pk K W m x v := by
  obtain ⟨v, r, e1, h1, h2⟩ := h
  cases h2
  exact ⟨v, e1, h1⟩
def SAm (kt : Kt) (B : Bs) (X : Cx) (p : Bool) (m : Md) (es : List Expr) (d : DA) : Prop := ∀ Wish, Takes X Wish → PA X es (rdX kt B p Wish (fun W x v => PkS kt.K W m x v) d)
def daNil : DA := fun _ G => .ok [] G
def daCons (d : DE) (ds : DA) : DA := fun env G => (d env G).bind fun x G1 => (ds env G1).bind fun xs G2 => .ok (x :: xs) G2
def okMs (p : Bool) : Md → Bool
  | .f => p
  | _ => true
section
variable {kt : Kt} {B : Bs} {X : Cx} {p pa pb pc : Bool} {m ma mb mc : Md} {a b c e : Expr} {es : List Expr} {da db dc d : DE} {ds : DA} {t u : DT} {pos : Pos} {i : Nat}
theorem sa_nil : SAm kt B X true m [] daNil := fun Wish _ => pa_nil.imp fun σ H Q ⟨W, env, G, e, A, h⟩ => by
  subst e; exact h W _ Ext.refl A rfl
theorem sa_cons (h1 : SX kt B X pa m e d) (h2 : SAm kt B X pb m es ds) (hm : okMs pb m = true := by rfl) (hs : starEach (e :: es) X.env = (false, eval e X.env) :: starEach es X.env := by rfl) :
    SAm kt B X (pa && pb) m (e :: es) (daCons d ds) := fun Wish tk => by
  refine (pa_cons (h1 Wish tk) (h2 Wish tk) hs).imp fun σ H Q ⟨W, env, G, e, A, h⟩ => ?_
  subst e
  refine ⟨W, env, G, rfl, A, h.bindE.mono ?_⟩
  rintro v H1 ⟨W1, x, G1, rfl, e1, A1, z1, h1⟩
  refine ⟨W1, env, G1, rfl, A1, h1.bindL.mono ?_⟩
  rintro vs H2 ⟨W2, xs, G2, rfl, e2, A2, z2, h2⟩
  refine h2 W2 _ Ext.refl A2 ⟨v, vs, rfl, z1.ext e2 ?_, z2⟩
  cases m with
  | s => exact .inr (fun z => nomatch z)
  | k => exact .inr (fun z => nomatch z)
  | f => exact .inl hm

def dTup (ds : DA) : DE := fun env G => (ds env G).bind fun xs G1 => if xs.length ≤ 16777216 then .ok (.tup xs) G1 else .bad
def dLst (ds : DA) : DE := fun env G => (ds env G).bind fun xs G1 => if xs.length ≤ 16777216 then .ok (.lst xs) G1 else .bad
theorem sx_tup {k} (h : SAm kt B X p .s es ds) : SX kt B X p .s (.Tuple es k pos) (dTup ds) := fun Wish tk => by
  refine (pe_tupP (h Wish tk)).imp fun σ H Q ⟨W, env, G, e, A, h⟩ => ?_
  subst e
  refine ⟨W, env, G, rfl, A, h.bindL.mono ?_⟩
  rintro vs H1 ⟨W1, xs, G1, rfl, e1, A1, z1, h1⟩
  have z1 := z1.strict
  split at h1
  · refine ⟨by rw [← z1.length]; rw [sizeLine_eq]; assumption, fun p o hp hd => ?_⟩
    obtain ⟨e2, A2, r⟩ := new_tup A1 hp hd z1
    exact h1 _ _ e2.weak A2 (.inl r)
  · exact h1.elim
theorem sx_lst (h : SAm kt B X p .s es ds) : SX kt B X p .s (.List es pos) (dLst ds) := fun Wish tk => by
  refine (pe_lst (h Wish tk)).imp fun σ H Q ⟨W, env, G, e, A, h⟩ => ?_
  subst e
  refine ⟨W, env, G, rfl, A, h.bindL.mono ?_⟩
  rintro vs H1 ⟨W1, xs, G1, rfl, e1, A1, z1, h1⟩
  have z1 := z1.strict
  split at h1
  · refine ⟨by rw [← z1.length]; rw [sizeLine_eq]; assumption, fun p hp => ?_⟩
    obtain ⟨e2, A2, r⟩ := new_lst A1 hp z1
    exact h1 _ _ e2.weak A2 (.inl r)
  · exact h1.elim
end

def vIx (G : Gst) : Vl → Vl → Option Vl
  | .lst xs, .int i => atI xs i
  | .tup xs, .int i => atI xs i
  | .stp xs, .int i => atI xs i
  | .ktp xs, .int i => atI xs i
  | .scr ns, .int i => (atI ns i).map .int
  | .str z, .int i => if z.length ≤ 16777216 then (atI z.cps.toList i).map fun c => .str ⟨#[c]⟩ else none
  | .ref j, .int i => match G[j]? with
    | some (.lst xs) => atI xs i
    | _ => none
  | .dct t kvs, k => (dAt t kvs k).join
  | _, _ => none
def dIx (da db : DE) : DE := fun env G => (da env G).bind fun x G1 => (db env G1).bind fun y G2 => opt (vIx G2 x y) G2
section
variable {K : PySem.W.Frag} {W : Wd}
theorem Reps.atI {xs : List Vl} {vs : List V} {i : Int} {x : Vl} (r : Reps K W xs vs) (h : L2.atI xs i = some x) : ∃ v, L2.atI vs i = some v ∧ Rep K W x v := by
  unfold L2.atI at h ⊢
  rw [r.length] at h
  obtain ⟨j, e, h⟩ := Option.bind_eq_some_iff.mp h
  obtain ⟨v, h1, h2⟩ := r.get h
  exact ⟨v, by rw [e]; exact h1, h2⟩
theorem atI_map {α β : Type} (f : α → β) (xs : List α) (i : Int) : L2.atI (xs.map f) i = (L2.atI xs i).map f := by
  unfold L2.atI
  rw [List.length_map]
  cases ixN xs.length i with
  | none => rfl
  | some j => simp
theorem okStr_one {z : Str} {c : Nat} {j : Nat} (h : okStr z = true) (e : z.cps.toList[j]? = some c) : okStr ⟨#[c]⟩ = true := by
  have hm : c ∈ z.cps.toList := List.mem_of_getElem? e
  have := Array.all_eq_true'.mp h c (by simpa using hm)
  simpa [okStr] using this
end
section
variable {kt : Kt} {B : Bs} {X : Cx} {p pa pb pc : Bool} {m ma mb mc : Md} {a b c e : Expr} {es : List Expr} {da db dc d : DE} {ds : DA} {t u : DT} {pos : Pos} {i : Nat}
theorem ix_dict (hu : X.A.units + 1 < cLine) : IxR X (fun x y H Q => ∃ a v, x = .ref a ∧ DGet H a y (some v) ∧ Q v H) := by
  intro value slice pins s σ H x y v u Q I rx ry h hs
  obtain ⟨a, w, rfl, g, q⟩ := h
  cases rx
  exact tail_any (dict_typeIs I g) PySem.F.slot_dict_getitem.lookup (d_getItem hu I g ry fun w' s' I' r => ⟨w, H, I', r, q⟩) (hs)
theorem vIx_r {W : Wd} {G : Gst} {σ : L2.St} {env : LEnv} {x y z : Vl} {v u : V} {Q : VK} (hK : X.K = kt.K) (A : RAll kt B W σ env G) (hx : Pk kt.K W .f x v) (hy : Pk kt.K W .f y u) (e : vIx G x y = some z) (q : ∀ w, Rep kt.K W z w → Q w W.H) :
    rIx X.K v u W.H Q ∨ (∃ a w, v = .ref a ∧ DGet W.H a u (some w) ∧ Q w W.H) := by
  rw [hK]
  cases x with
  | dct t kvs =>
    have e : (dAt t kvs y).join = some z := e
    obtain ⟨o, eo, e⟩ := Option.bind_eq_some_iff.mp (show (dAt t kvs y).bind id = some z from by cases h : dAt t kvs y <;> rw [h] at e <;> simpa using e)
    subst e
    have hy' : Rep kt.K W y u := hy.val (fun xs z => by subst z; cases t <;> cases eo) fun t' kvs' z => by subst z; cases t <;> cases eo
    obtain ⟨a, o', rfl, g, h⟩ := dAt_get hx hy' eo
    obtain ⟨w, rfl, r⟩ := h
    exact .inr ⟨a, w, rfl, g, q w r⟩
  | lst xs =>
    cases y with
    | int i =>
      obtain rfl := hy.int
      obtain ⟨a, vs, rfl, h, r⟩ := hx.lst
      obtain ⟨w, h1, h2⟩ := r.atI e
      exact .inl (.inl ⟨a, vs, i, w, rfl, rfl, SqL.of h, h1, q w h2⟩)
    | _ => cases e
  | tup xs =>
    cases y with
    | int i =>
      obtain rfl := hy.int
      obtain ⟨a, vs, rfl, h, r⟩ := hx.tup
      obtain ⟨w, h1, h2⟩ := r.atI e
      exact .inl (.inr (.inl ⟨a, vs, i, w, rfl, rfl, h, h1, q w h2⟩))
    | _ => cases e
  | stp xs =>
    cases y with
    | int i =>
      obtain rfl := hy.int
      obtain ⟨a, vs, rfl, h, r⟩ := hx.stp
      obtain ⟨w, h1, h2⟩ := r.atI e
      exact .inl (.inr (.inl ⟨a, vs, i, w, rfl, rfl, h, h1, q w h2⟩))
    | _ => cases e
  | ktp xs =>
    cases y with
    | int i =>
      obtain rfl := hy.int
      obtain ⟨a, vs, rfl, h, r⟩ := hx.ktp
      obtain ⟨w, h1, h2⟩ := r.atI e
      exact .inl (.inr (.inl ⟨a, vs, i, w, rfl, rfl, h, h1, q w h2⟩))
    | _ => cases e
  | scr ns =>
    cases y with
    | int i =>
      obtain rfl := hy.int
      obtain ⟨a, rfl, h⟩ := hx.scr
      obtain ⟨k, e1, rfl⟩ := Option.map_eq_some_iff.mp e
      exact .inl (.inl ⟨a, _, i, .int k, rfl, rfl, h, by rw [atI_map, e1]; rfl, q _ rfl⟩)
    | _ => cases e
  | str z' =>
    cases y with
    | int i =>
      obtain rfl := hy.int
      obtain ⟨rfl, ok⟩ := hx.str
      have e : (if z'.length ≤ 16777216 then (L2.atI z'.cps.toList i).map fun c => Vl.str ⟨#[c]⟩ else none) = some z := e
      split at e
      · obtain ⟨c, e1, rfl⟩ := Option.map_eq_some_iff.mp e
        obtain ⟨j, _, e2, _⟩ := atI_get e1
        exact .inl (.inr (.inr ⟨z', i, c, rfl, rfl, by rw [sizeLine_eq]; assumption, e1, q _ ⟨rfl, okStr_one ok e2⟩⟩))
      · cases e
    | _ => cases e
  | ref j =>
    cases y with
    | int i =>
      obtain rfl := hy.int
      obtain ⟨a, rfl, ha⟩ := hx.ref
      have e : (match G[j]? with | some (.lst xs) => L2.atI xs i | _ => none) = some z := e
      split at e
      · rename_i xs eg
        obtain ⟨a', h1, h2, vs, h3, r⟩ := A.ok.rg.ob j _ eg
        rw [ha] at h1; cases h1
        obtain ⟨w, h1, h2⟩ := r.atI e
        exact .inl (.inl ⟨a, vs, i, w, rfl, rfl, SqL.of h3, h1, q w h2⟩)
      · cases e
    | _ => cases e
  | _ => cases e
theorem sx_ix (hu : X.A.units + 1 < cLine) (ha : SX kt B X pa ma a da) (hb : SX kt B X pb mb b db) (hs : PlainIx b := by intro _ _; rfl) (hm : okM pb ma = true := by rfl) (hK : X.K = kt.K := by rfl) :
    SX kt B X (pa && pb) .s (.Subscript a b pos) (dIx da db) := fun Wish tk => by
  refine (pe_ix (ix_seq.or (ix_dict hu)) (ha Wish tk) (hb Wish tk) hs).imp fun σ H Q ⟨W, env, G, e, A, h⟩ => ?_
  subst e
  refine ⟨W, env, G, rfl, A, h.bindE.mono ?_⟩
  rintro v H1 ⟨W1, x, G1, rfl, e1, A1, z1, h1⟩
  refine ⟨W1, env, G1, rfl, A1, h1.bindL.mono ?_⟩
  rintro u H2 ⟨W2, y, G2, rfl, e2, A2, z2, h2⟩
  obtain ⟨z, ez, q⟩ := opsPo h2
  exact vIx_r hK A2 (z1.ext e2 (okM_or hm)).any z2.any ez fun w r => q W2 w Ext.refl A2 r
end

def cutL {α : Type} (xs : List α) (lo hi : Option Int) : List α := (xs.drop (HT.sIx xs.length 0 lo)).take (HT.sIx xs.length xs.length hi - HT.sIx xs.length 0 lo)
def isWhole (n : Nat) (lo hi : Option Int) : Bool := HT.sIx n 0 lo == 0 && HT.sIx n n hi == n
def vSl (G : Gst) : Vl → Option Int → Option Int → Option Vl
  | .lst xs, lo, hi => some (.lst (cutL xs lo hi))
  | .scr ns, lo, hi => some (.lst ((cutL ns lo hi).map .int))
  | .tup xs, lo, hi => some (if isWhole xs.length lo hi then .tup xs else .tup (cutL xs lo hi))
  | .stp xs, lo, hi => some (if isWhole xs.length lo hi then .stp xs else .tup (cutL xs lo hi))
  | .ktp xs, lo, hi => some (if isWhole xs.length lo hi then .ktp xs else .tup (cutL xs lo hi))
  | .str z, lo, hi => if z.length ≤ 16777216 then some (.str (cutS z lo hi)) else none
  | .ref j, lo, hi => match G[j]? with
    | some (.lst xs) => some (.lst (cutL xs lo hi))
    | _ => none
  | _, _, _ => none
abbrev DO := LEnv → Gst → R (Option Int)
def doNone : DO := fun _ G => .ok none G
def doSome (d : DE) : DO := fun env G => (d env G).bind fun x G1 => match x with
  | .int i => .ok (some i) G1
  | _ => .bad
def dSl (da : DE) (dl dh : DO) : DE := fun env G => (da env G).bind fun x G1 => (dl env G1).bind fun l G2 => (dh env G2).bind fun h G3 => opt (vSl G3 x l h) G3
def ZO : Wd → Option Int → Option Int → Prop := fun _ a b => a = b
def SO (kt : Kt) (B : Bs) (X : Cx) (p : Bool) (e : Option Expr) (d : DO) : Prop := ∀ Wish, Takes X Wish → PO X e (rdX kt B p Wish ZO d)
theorem _root_.L2.PO.imp {X : Cx} {e : Option Expr} {t t' : TO} (h : PO X e t) (i : ∀ σ H Q, t' σ H Q → t σ H Q) : PO X e t' := ⟨fun pins s σ H Q I q => h.run pins s σ H Q I (i σ H Q q)⟩
section
variable {K : PySem.W.Frag} {W : Wd}
theorem Reps.cut {xs : List Vl} {vs : List V} (r : Reps K W xs vs) (lo hi : Option Int) : Reps K W (cutL xs lo hi) (cutV vs lo hi) := by
  unfold cutL cutV
  rw [r.length]
  exact (r.drop _).take _
theorem reps_ints (ns : List Int) : Reps K W (ns.map Vl.int) (ns.map V.int) := by
  induction ns with
  | nil => rfl
  | cons n ns ih => exact ⟨_, _, rfl, rfl, ih⟩
theorem cut_ints (ns : List Int) (lo hi : Option Int) : cutV (ns.map V.int) lo hi = (cutL ns lo hi).map V.int := by
  unfold cutL cutV
  rw [List.length_map, List.map_take, List.map_drop]
theorem okStr_cut {z : Str} (lo hi : Option Int) (h : okStr z = true) : okStr (cutS z lo hi) = true := by
  unfold okStr cutS at *
  rw [List.all_toArray, List.all_eq_true]
  intro c hc
  have hc := List.mem_of_mem_drop (List.mem_of_mem_take hc)
  have := Array.all_eq_true'.mp h c (by simpa using hc)
  exact this
end
section
variable {kt : Kt} {B : Bs} {X : Cx} {p pa pb pc : Bool} {m ma mb mc : Md} {a b c e : Expr} {es : List Expr} {da db dc d : DE} {ds : DA} {t u : DT} {pos : Pos} {i : Nat} {dl dh : DO} {lo hi : Option Expr}
theorem so_none : SO kt B X true none doNone := fun Wish _ => po_none.imp fun σ H Q ⟨W, env, G, e, A, h⟩ => by
  subst e; exact h W _ Ext.refl A rfl
theorem so_some (ha : SX kt B X p m a da) : SO kt B X p (some a) (doSome da) := fun Wish tk => by
  refine (po_some (ha Wish tk)).imp fun σ H Q ⟨W, env, G, e, A, h⟩ => ?_
  subst e
  refine ⟨W, env, G, rfl, A, h.bindL.mono ?_⟩
  rintro v H1 ⟨W1, x, G1, rfl, e1, A1, z1, h1⟩
  cases x with
  | int i => exact ⟨i, z1.int, h1 W1 _ Ext.refl A1 rfl⟩
  | _ => exact h1.elim
theorem vSl_r {W : Wd} {G : Gst} {σ : L2.St} {env : LEnv} {x z : Vl} {v : V} {lo hi : Option Int} {Q : VK} (hK : X.K = kt.K) (A : RAll kt B W σ env G) (hx : Pk kt.K W .f x v) (e : vSl G x lo hi = some z)
    (q : ∀ W' w, Ext true W W' → RAll kt B W' σ env G → Rep kt.K W' z w → Q w W'.H) : rSlL X.K v lo hi W.H Q ∨ rSlP X.K v lo hi W.H Q ∨ rSlS v lo hi W.H Q := by
  rw [hK]
  have tp : ∀ {xs : List Vl} {vs : List V} {a : Addr} {y : Vl}, v = .ref a → SqT kt.K W.H a vs → Reps kt.K W xs vs → Rep kt.K W y v → some (if isWhole xs.length lo hi then y else .tup (cutL xs lo hi)) = some z → rSlP kt.K v lo hi W.H Q := by
    intro xs vs a y ev h r ry e
    subst ev
    have lw : (isWhole xs.length lo hi = true) ↔ (HT.sIx vs.length 0 lo = 0 ∧ HT.sIx vs.length vs.length hi = vs.length) := by
      unfold isWhole; rw [r.length]; simp
    refine ⟨a, vs, rfl, h, fun w => ?_, fun w p o hp hd => ?_⟩
    · rw [if_pos (lw.mpr w)] at e
      cases e
      exact q W _ Ext.refl A ry
    · rw [if_neg (fun k => w (lw.mp k))] at e
      cases e
      obtain ⟨e2, A2, r2⟩ := new_tup A hp hd (r.cut lo hi)
      exact q _ _ e2 A2 r2
  cases x with
  | lst xs =>
    cases e
    obtain ⟨a, vs, rfl, h, r⟩ := hx.lst
    refine .inl ⟨a, vs, rfl, SqL.of h, fun p hp => ?_⟩
    obtain ⟨e2, A2, r2⟩ := new_lst A hp (r.cut lo hi)
    exact q _ _ e2 A2 r2
  | scr ns =>
    cases e
    obtain ⟨a, rfl, h⟩ := hx.scr
    refine .inl ⟨a, _, rfl, h, fun p hp => ?_⟩
    obtain ⟨e2, A2, r2⟩ := new_lst A hp (reps_ints (K := kt.K) (W := W) (cutL ns lo hi))
    rw [cut_ints]
    exact q _ _ e2 A2 r2
  | tup xs =>
    obtain ⟨a, vs, ev, h, r⟩ := hx.tup
    exact .inr (.inl (tp ev h r (hx.val (fun _ z => nomatch z) fun _ _ z => nomatch z) e))
  | stp xs =>
    obtain ⟨a, vs, ev, h, r⟩ := hx.stp
    exact .inr (.inl (tp ev h r (hx.val (fun _ z => nomatch z) fun _ _ z => nomatch z) e))
  | ktp xs =>
    obtain ⟨a, vs, ev, h, r⟩ := hx.ktp
    exact .inr (.inl (tp ev h r (hx.val (fun _ z => nomatch z) fun _ _ z => nomatch z) e))
  | str z' =>
    have e : (if z'.length ≤ 16777216 then some (Vl.str (cutS z' lo hi)) else none) = some z := e
    obtain ⟨rfl, ok⟩ := hx.str
    split at e
    · cases e
      exact .inr (.inr ⟨z', rfl, by rw [sizeLine_eq]; assumption, q W _ Ext.refl A ⟨rfl, okStr_cut lo hi ok⟩⟩)
    · cases e
  | ref j =>
    obtain ⟨a, rfl, ha⟩ := hx.ref
    have e : (match G[j]? with | some (.lst xs) => some (Vl.lst (cutL xs lo hi)) | _ => none) = some z := e
    split at e
    · rename_i xs eg
      cases e
      obtain ⟨a', h1, h2, vs, h3, r⟩ := A.ok.rg.ob j _ eg
      rw [ha] at h1; cases h1
      refine .inl ⟨a, vs, rfl, SqL.of h3, fun p hp => ?_⟩
      obtain ⟨e2, A2, r2⟩ := new_lst A hp (r.cut lo hi)
      exact q _ _ e2 A2 r2
    · cases e
  | _ => cases e
theorem sx_sl {p2 : Pos} (ha : SX kt B X pa ma a da) (hl : SO kt B X pb lo dl) (hh : SO kt B X pc hi dh) (hm : okM (pb && pc) ma = true := by rfl) (hK : X.K = kt.K := by rfl) :
    SX kt B X (pa && (pb && pc)) .s (.Subscript a (.Slice lo hi none p2) pos) (dSl da dl dh) := fun Wish tk => by
  refine (pe_slice (sl_list.or (sl_tupP.or sl_str)) (ha Wish tk) (hl Wish tk) (hh Wish tk)).imp fun σ H Q ⟨W, env, G, e, A, h⟩ => ?_
  subst e
  refine ⟨W, env, G, rfl, A, h.bindE.mono ?_⟩
  rintro v H1 ⟨W1, x, G1, rfl, e1, A1, z1, h1⟩
  refine ⟨W1, env, G1, rfl, A1, h1.bindE.mono ?_⟩
  rintro l H2 ⟨W2, l', G2, rfl, e2, A2, z2, h2⟩
  obtain rfl : l' = l := z2
  refine ⟨W2, env, G2, rfl, A2, h2.bindL.mono ?_⟩
  rintro r H3 ⟨W3, r', G3, rfl, e3, A3, z3, h3⟩
  obtain rfl : r' = r := z3
  obtain ⟨z, ez, q⟩ := opsPo h3
  exact vSl_r hK A3 (z1.ext (e2.trans e3) (okM_or hm)).any ez q
end

def FnS (kt : Kt) (X : Cx) (f : Value) (o : Gst → List Vl → Option Vl) : Prop :=
  ∃ r : List V → Hp → VK → Prop, CallR X f r ∧ ∀ (B : Bs) (σ : L2.St) (env : LEnv) (G : Gst) (W : Wd) (xs : List Vl) (vs : List V) (z : Vl) (Q : VK), RAll kt B W σ env G → PkS kt.K W .f xs vs → o G xs = some z →
    (∀ W' w, Ext true W W' → RAll kt B W' σ env G → Rep kt.K W' z w → Q w W'.H) → r vs W.H Q
def dFn (o : Gst → List Vl → Option Vl) (ds : DA) : DE := fun env G => (ds env G).bind fun xs G1 => opt (o G1 xs) G1
section
variable {kt : Kt} {B : Bs} {X : Cx} {p pa pb pc : Bool} {m ma mb mc : Md} {a b c e : Expr} {es : List Expr} {da db dc d : DE} {ds : DA} {t u : DT} {pos np : Pos} {i : Nat} {x : Str} {id T : String} {o : Gst → List Vl → Option Vl}
theorem sx_fn (ho : FnS kt X (.builtin id) o) (ha : SAm kt B X p m (e :: es) ds) (hg : Gl X x := by rfl) (hm : X.mg x = none := by rfl) (hv : bootBuiltins x = some (.builtin id) := by kernel_rfl) (hn : x ≠ "__name__" := by decide) (hdb : (x == ("__debug__" : Str)) = false := by decide)
    (he : starEach (e :: es) X.env = (false, eval e X.env) :: starEach es X.env := by rfl) (hpl : (backTo pos (starEach es X.env)).any (·.1) = false := by rfl) : SX kt B X p .s (.Call (.Name x np) (e :: es) [] pos) (dFn o ds) := fun Wish tk => by
  obtain ⟨r, hr, hs⟩ := ho
  refine (pe_callB hr hg hm hv (ha Wish tk) hn hdb he hpl).imp fun σ H Q ⟨W, env, G, e, A, h⟩ => ?_
  subst e
  refine ⟨W, env, G, rfl, A, h.bindL.mono ?_⟩
  rintro vs H1 ⟨W1, xs, G1, rfl, e1, A1, z1, h1⟩
  obtain ⟨z, ez, q⟩ := opsPo h1
  exact hs B σ env G1 W1 xs vs z Q A1 z1.any ez q
theorem sx_ty (ho : FnS kt X (.type T) o) (ha : SAm kt B X p m (e :: es) ds) (hg : Gl X x := by rfl) (hm : X.mg x = none := by rfl) (hv : bootBuiltins x = some (.type T) := by kernel_rfl) (hn : x ≠ "__name__" := by decide) (hdb : (x == ("__debug__" : Str)) = false := by decide)
    (he : starEach (e :: es) X.env = (false, eval e X.env) :: starEach es X.env := by rfl) (hpl : (backTo pos (starEach es X.env)).any (·.1) = false := by rfl) : SX kt B X p .s (.Call (.Name x np) (e :: es) [] pos) (dFn o ds) := fun Wish tk => by
  obtain ⟨r, hr, hs⟩ := ho
  refine (pe_callTy hr hg hm hv (ha Wish tk) hn hdb he hpl).imp fun σ H Q ⟨W, env, G, e, A, h⟩ => ?_
  subst e
  refine ⟨W, env, G, rfl, A, h.bindL.mono ?_⟩
  rintro vs H1 ⟨W1, xs, G1, rfl, e1, A1, z1, h1⟩
  obtain ⟨z, ez, q⟩ := opsPo h1
  exact hs B σ env G1 W1 xs vs z Q A1 z1.any ez q
end
def seqOf (G : Gst) : Vl → Option (Bool × List Vl)
  | .lst xs => some (false, xs)
  | .tup xs => some (true, xs)
  | .stp xs => some (true, xs)
  | .ktp xs => some (true, xs)
  | .scr ns => some (false, ns.map .int)
  | .ref j => match G[j]? with
    | some (.lst xs) => some (false, xs)
    | _ => none
  | _ => none
section
variable {kt : Kt} {B : Bs} {X : Cx}
theorem seqOf_r {W : Wd} {G : Gst} {σ : L2.St} {env : LEnv} {x : Vl} {v : V} {k : Bool} {ys : List Vl} (A : RAll kt B W σ env G) (hx : Pk kt.K W .f x v) (e : seqOf G x = some (k, ys)) :
    ∃ a vs, v = .ref a ∧ Reps kt.K W ys vs ∧ (if k then SqT kt.K W.H a vs else SqL kt.K W.H a vs) := by
  cases x with
  | lst xs => cases e; obtain ⟨a, vs, rfl, h, r⟩ := hx.lst; exact ⟨a, vs, rfl, r, SqL.of h⟩
  | tup xs => cases e; obtain ⟨a, vs, rfl, h, r⟩ := hx.tup; exact ⟨a, vs, rfl, r, h⟩
  | stp xs => cases e; obtain ⟨a, vs, rfl, h, r⟩ := hx.stp; exact ⟨a, vs, rfl, r, h⟩
  | ktp xs => cases e; obtain ⟨a, vs, rfl, h, r⟩ := hx.ktp; exact ⟨a, vs, rfl, r, h⟩
  | scr ns => cases e; obtain ⟨a, rfl, h⟩ := hx.scr; exact ⟨a, _, rfl, reps_ints ns, h⟩
  | ref j =>
    obtain ⟨a, rfl, ha⟩ := hx.ref
    have e : (match G[j]? with | some (.lst xs) => some (false, xs) | _ => none) = some (k, ys) := e
    split at e
    · rename_i xs eg
      cases e
      obtain ⟨a', h1, h2, vs, h3, r⟩ := A.ok.rg.ob j _ eg
      rw [ha] at h1; cases h1
      exact ⟨a, vs, rfl, r, SqL.of h3⟩
    · cases e
  | _ => cases e
theorem seqOf_LT {W : Wd} {G : Gst} {σ : L2.St} {env : LEnv} {x : Vl} {v : V} {k : Bool} {ys : List Vl} (A : RAll kt B W σ env G) (hx : Pk kt.K W .f x v) (e : seqOf G x = some (k, ys)) :
    ∃ a vs, v = .ref a ∧ Reps kt.K W ys vs ∧ (SqL kt.K W.H a vs ∨ SqT kt.K W.H a vs) := by
  obtain ⟨a, vs, e1, r, h⟩ := seqOf_r A hx e
  cases k with
  | true => exact ⟨a, vs, e1, r, .inr h⟩
  | false => exact ⟨a, vs, e1, r, .inl h⟩
def oLen (G : Gst) : List Vl → Option Vl
  | [.str z] => if z.length ≤ 16777216 then some (.int z.length) else none
  | [.dct false kvs] => some (.int kvs.length)
  | [x] => (seqOf G x).map fun k => .int k.2.length
  | _ => none
theorem RepK.length {K : PySem.W.Frag} {W : Wd} : ∀ {kvs : List (Vl × Vl)} {ks : List (Key × V)}, RepK K W kvs ks → kvs.length = ks.length
  | [], _, h => by cases h; rfl
  | (k, x) :: kvs, _, h => by
    obtain ⟨q, v, r, rfl, _, _, h3⟩ := h
    simp [RepK.length h3]
theorem call_lenDR : CallR X (.builtin "len") (fun xs H Q => ∃ a kvs, xs = [V.ref a] ∧ Rd H a (.dK kvs) ∧ Q (.int kvs.length) H) := by
  intro pins s σ H xs us Q I r h
  obtain ⟨a, kvs, rfl, g, q⟩ := h
  obtain ⟨u, rfl, rx⟩ := vals1 r
  cases rx
  exact d_len I g fun t s' I' => ⟨.int kvs.length, H, I', ⟨t, rfl⟩, q⟩
theorem fn_len (hK : X.K = kt.K := by rfl) : FnS kt X (.builtin "len") oLen := by
  refine ⟨_, call_len_str.or (call_lenDR.or call_len_seq), fun B σ env G W xs vs z Q A hx e q => ?_⟩
  unfold oLen at e
  split at e
  · obtain ⟨v, rfl, h⟩ := hx.one
    split at e
    · cases e
      obtain ⟨rfl, _⟩ := h.str
      exact .inl ⟨_, rfl, by rw [sizeLine_eq]; assumption, q W _ Ext.refl A rfl⟩
    · cases e
  · cases e
    obtain ⟨v, rfl, h⟩ := hx.one
    obtain ⟨a, ks, rfl, g, r⟩ := h.dK
    exact .inr (.inl ⟨a, ks, rfl, g, by rw [← r.length]; exact q W _ Ext.refl A rfl⟩)
  · obtain ⟨v, rfl, h⟩ := hx.one
    obtain ⟨⟨k, ys⟩, e1, rfl⟩ := Option.map_eq_some_iff.mp e
    obtain ⟨a, vs, rfl, r, g⟩ := seqOf_LT A h e1
    rw [hK]
    exact .inr (.inr ⟨a, vs, rfl, g, by rw [← r.length]; exact q W _ Ext.refl A rfl⟩)
  · cases e
def oInt (_ : Gst) : List Vl → Option Vl
  | [.int i] => some (.int i)
  | [.bl k] => some (.int (if k then 1 else 0))
  | _ => none
theorem fn_int : FnS kt X (.type "int") oInt := by
  refine ⟨_, call_int1, fun B σ env G W xs vs z Q A hx e q => ?_⟩
  unfold oInt at e
  split at e
  · cases e
    obtain ⟨v, rfl, h⟩ := hx.one
    obtain rfl := h.int
    exact .inl ⟨_, rfl, q W _ Ext.refl A rfl⟩
  · cases e
    obtain ⟨v, rfl, h⟩ := hx.one
    obtain rfl := h.bl
    exact .inr ⟨_, rfl, q W _ Ext.refl A rfl⟩
  · cases e
def oAbs (_ : Gst) : List Vl → Option Vl
  | [.int i] => some (.int (if i < 0 then -i else i))
  | _ => none
theorem fn_abs : FnS kt X (.builtin "abs") oAbs := by
  refine ⟨_, call_abs, fun B σ env G W xs vs z Q A hx e q => ?_⟩
  unfold oAbs at e
  split at e
  · cases e
    obtain ⟨v, rfl, h⟩ := hx.one
    obtain rfl := h.int
    exact ⟨_, rfl, q W _ Ext.refl A rfl⟩
  · cases e
def oTuple (G : Gst) : List Vl → Option Vl
  | [x] => match seqOf G x with
    | some (false, ys) => some (.tup ys)
    | some (true, _) => some x
    | none => none
  | _ => none
theorem fn_tuple (hK : X.K = kt.K := by rfl) : FnS kt X (.type "tuple") oTuple := by
  refine ⟨_, call_tupleP, fun B σ env G W xs vs z Q A hx e q => ?_⟩
  unfold oTuple at e
  split at e
  · rename_i x
    obtain ⟨v, rfl, h⟩ := hx.one
    rw [hK]
    split at e
    · rename_i ys e1
      cases e
      obtain ⟨a, vs, rfl, r, g⟩ := seqOf_r A h e1
      refine ⟨a, vs, rfl, .inl ⟨g, fun l o hl hd => ?_⟩⟩
      obtain ⟨e2, A2, r2⟩ := new_tup A hl hd r
      exact q _ _ e2 A2 r2
    · rename_i ys e1
      cases e
      obtain ⟨a, vs, ev, r, g⟩ := seqOf_r A h e1
      subst ev
      refine ⟨a, vs, rfl, .inr ⟨g, q W _ Ext.refl A ?_⟩⟩
      exact h.val (fun xs z => by subst z; cases e1) fun t kvs z => by subst z; cases e1
    · cases e
  · cases e
def oList (G : Gst) : List Vl → Option Vl
  | [x] => (seqOf G x).map fun k => .lst k.2
  | _ => none
def oMax2 (_ : Gst) : List Vl → Option Vl
  | [.int i, .int j] => some (.int (if j > i then j else i))
  | _ => none
def oMin2 (_ : Gst) : List Vl → Option Vl
  | [.int i, .int j] => some (.int (if j < i then j else i))
  | _ => none
def intsOf : List Vl → Option (List Int)
  | [] => some []
  | .int i :: xs => (intsOf xs).map (i :: ·)
  | _ => none
end
end CardH
end
section
set_option maxHeartbeats 2000000
namespace CardH
open PySem PySem.Spec PyProof.Rows L2

def Wd.put (W : Wd) (D : Addr) (o : HO) (r : Role) : Wd := ⟨fun a => if a = D then r else W.Γ a, W.ρ, upd W.H D o⟩
section
variable {kt : Kt} {B : Bs} {W W0 : Wd} {σ : L2.St} {env : LEnv} {G : Gst} {D : Addr} {xs ys : List V} {r : Role} {p : Bool}
def isTmp : Role → Bool
  | .tmp => true
  | _ => false
theorem ExtR.put (hT : W.Γ D = .tmp) (hD : W.H D = some (.lst xs)) : ExtR p isTmp W (W.put D (.lst ys) r) where
  role := fun a _ ht => if_neg (fun e => by rw [e, hT] at ht; cases ht)
  keep := fun a o h _ ht _ => (upd_ne (fun e => by rw [e, hT] at ht; cases ht)).trans h
  tups := fun a zs h => (upd_ne (fun e => by rw [e, hD] at h; cases h)).trans h
  frz := fun a o u h _ => (upd_ne (fun e => by rw [e, hD] at h; cases h)).trans h
  there := fun a h => by
    show upd W.H D _ a ≠ none
    by_cases e : a = D
    · rw [e, upd_same]; simp
    · rw [upd_ne e]; exact h
  pre := ⟨[], by simp [Wd.put]⟩
theorem Ext.put (e : Ext p W0 W) (h0 : W0.H D = none) (hD : W.H D = some (.lst xs)) : Ext p W0 (W.put D (.lst ys) r) where
  role := fun a h => (if_neg (fun z => h (by rw [z]; exact h0))).trans (e.role a h)
  keep := fun a o h nt hp => (upd_ne (ne_of_none h h0)).trans (e.keep a o h nt hp)
  tups := fun a zs h => (upd_ne (ne_of_none h h0)).trans (e.tups a zs h)
  frz := fun a o u h => (upd_ne (ne_of_none h h0)).trans (e.frz a o u h)
  there := fun a h => by
    show upd W.H D _ a ≠ none
    rw [upd_ne (fun z => h (by rw [z]; exact h0))]; exact e.there a h
  pre := e.pre
theorem tabs_but {T : List NdefX.NTab} {H H' : Hp} (t : NdefX.TabsN T H) (h : ∀ b u, H b = some u → ((∃ ps, u = .tbl ps) ∨ ∃ f, u = .ext f) → H' b = some u) : NdefX.TabsN T H' := fun p hp => by
  obtain ⟨ps, h1, h2, h3⟩ := t p hp
  refine ⟨ps, h _ _ h1 (.inl ⟨ps, rfl⟩), h2, fun pos cv hc => ?_⟩
  obtain ⟨c, e1, e2⟩ := h3 pos cv hc
  exact ⟨c, e1, h _ _ e2 (.inr ⟨_, rfl⟩)⟩
theorem RAll.put (A : RAll kt B W σ env G) (hT : W.Γ D = .tmp) (hD : W.H D = some (.lst xs)) (h0 : B.W0.H D = none) : RAll kt B (W.put D (.lst ys) r) σ env G := by
  have e : ExtR true isTmp W (W.put D (.lst ys) r) := ExtR.put hT hD
  refine ⟨⟨fun a ha => ?_, A.ok.rg.extR e rfl rfl (fun _ => rfl) (fun _ _ => rfl) rfl, ?_, fun b ps q => ?_⟩, A.re.extR e rfl rfl (fun _ => rfl), A.si.put h0 hD, fun z a u o q => ?_⟩
  · show upd W.H D _ a ≠ none
    by_cases z : a = D
    · rw [z, upd_same]; simp
    · rw [upd_ne z]
      refine A.ok.tr a fun k => ha ?_
      show (if a = D then r else W.Γ a) = .no
      rw [if_neg z]; exact k
  · refine tabs_but A.ok.tabs fun b u q k => (upd_ne (fun z => ?_)).trans q
    rw [z, hD] at q; cases q
    rcases k with ⟨_, k⟩ | ⟨_, k⟩ <;> cases k
  · have q : upd W.H D (.lst ys) b = some (.tbl ps) := q
    by_cases z : b = D
    · rw [z, upd_same] at q; cases q
    · rw [upd_ne z] at q; exact A.ok.tb b ps q
  · have q : upd W.H D (.lst ys) a = some (.frz u o) := q
    by_cases k : a = D
    · rw [k, upd_same] at q; cases q
    · rw [upd_ne k] at q
      have g : (W.put D (.lst ys) r).Γ a = W.Γ a := if_neg k
      rw [g]
      exact A.nl z a u o q
theorem RAll.fresh (A : RAll kt B W σ env G) (h : W.H D = none) : B.W0.H D = none := by
  cases e : B.W0.H D with
  | none => rfl
  | some o => exact absurd h (A.si.there D (by rw [e]; simp))
theorem RE.set {H0 : Hp} (h : RE kt H0 W σ env) {i : Nat} {fv : Fv} {v : V} (hv : FvRep kt.K W (.slot i) fv v) (hf : fv.own = true → ∀ a, v = .ref a → H0 a = none) : RE kt H0 W (σ.set i (some v)) (env.set i (some fv)) := by
  refine ⟨by simp [h.len], fun j g hj => ?_⟩
  by_cases e : i = j
  · subst e
    by_cases hi : i < env.length
    · rw [List.getElem?_set_self hi] at hj
      cases hj
      exact ⟨v, by rw [List.getElem?_set_self (by rw [← h.len]; exact hi)], hv, hf⟩
    · rw [List.getElem?_eq_none (by simpa using hi)] at hj; cases hj
  · rw [List.getElem?_set_ne e] at hj ⊢
    exact h.sl j g hj
theorem RAll.set (A : RAll kt B W σ env G) {i : Nat} {x : Vl} {v : V} (hv : Rep kt.K W x v) : RAll kt B W (σ.set i (some v)) (env.set i (some (.val x))) G :=
  ⟨A.ok, A.re.set (fv := .val x) hv (fun z => nomatch z), A.si, A.nl⟩
def wipeE (env : LEnv) : List Nat → LEnv
  | [] => env
  | v :: vs => (wipeE env vs).set v none
theorem RE.wipe {H0 : Hp} (h : RE kt H0 W σ env) : ∀ vs, RE kt H0 W (L2.wipe σ vs) (wipeE env vs)
  | [] => h
  | v :: vs => by
    have ih := RE.wipe h vs
    refine ⟨by simp [wipeE, L2.wipe, ih.len], fun j g hj => ?_⟩
    unfold wipeE at hj
    unfold L2.wipe
    by_cases e : v = j
    · subst e
      by_cases hi : v < (wipeE env vs).length
      · rw [List.getElem?_set_self hi] at hj; cases hj
      · rw [List.getElem?_eq_none (by simpa using hi)] at hj; cases hj
    · rw [List.getElem?_set_ne e] at hj ⊢
      exact ih.sl j g hj
theorem RAll.wipe (A : RAll kt B W σ env G) (vs : List Nat) : RAll kt B W (L2.wipe σ vs) (wipeE env vs) G := ⟨A.ok, A.re.wipe vs, A.si, A.nl⟩
end

abbrev DG := LEnv → Vl → Option LEnv
def rdG (kt : Kt) (B : Bs) (sl : List Nat) (g : DG) : TG := fun v σ H Q => ∃ W env G x e', W.H = H ∧ RAll kt B W σ env G ∧ Rep kt.K W x v ∧ g env x = some e' ∧
  ∀ σ', (∀ W' G', Ext false W W' → RAll kt B W' σ env G' → RAll kt B W' σ' e' G') → (∀ vs, (∀ i, i ∈ sl → i ∈ vs) → wipe σ' vs = wipe σ vs) → Q σ' H
def SG (kt : Kt) (B : Bs) (X : Cx) (sl : List Nat) (tg : Expr) (g : DG) : Prop := PG X tg (rdG kt B sl g)
theorem _root_.L2.PG.imp {X : Cx} {e : Expr} {t t' : TG} (h : PG X e t) (i : ∀ v σ H Q, t' v σ H Q → t v σ H Q) : PG X e t' := ⟨fun pins s σ H v u Q I r q => h.run pins s σ H v u Q I r (i v σ H Q q)⟩
theorem _root_.L2.PGs.imp {X : Cx} {e : List Expr} {t t' : TGs} (h : PGs X e t) (i : ∀ v σ H Q, t' v σ H Q → t v σ H Q) : PGs X e t' := ⟨fun pins s σ H v u Q I r q => h.run pins s σ H v u Q I r (i v σ H Q q)⟩
theorem wipe_set_mem {σ : L2.St} {i : Nat} {v : Option V} : ∀ {vs : List Nat}, i ∈ vs → wipe (σ.set i v) vs = wipe σ vs := by
  have step : ∀ {σ : L2.St} {j : Nat} {vs : List Nat}, j ∉ vs → wipe (σ.set j v) vs = (wipe σ vs).set j v := by
    intro σ j vs
    induction vs with
    | nil => intro _; rfl
    | cons k vs ih =>
      intro h
      simp only [List.mem_cons, not_or] at h
      show (wipe (σ.set j v) vs).set k none = ((wipe σ vs).set k none).set j v
      rw [ih h.2, List.set_comm _ _ h.1]
  intro vs
  induction vs with
  | nil => intro h; cases h
  | cons k vs ih =>
    intro h
    show (wipe (σ.set i v) vs).set k none = (wipe σ vs).set k none
    by_cases hm : i ∈ vs
    · rw [ih hm]
    · rw [step hm]
      rcases List.mem_cons.mp h with e | e
      · subst e; rw [List.set_set]
      · exact absurd e hm
def gSet (i : Nat) : DG := fun env x => some (env.set i (some (.val x)))
def itemsOf : Vl → Option (List Vl)
  | .tup xs => some xs
  | .stp xs => some xs
  | .ktp xs => some xs
  | _ => none
abbrev DGs := LEnv → List Vl → Option LEnv
def gsNil : DGs := fun env xs => match xs with
  | [] => some env
  | _ => none
def gsCons (g : DG) (gs : DGs) : DGs := fun env xs => match xs with
  | x :: r => (g env x).bind fun e => gs e r
  | [] => none
def gUn (n : Nat) (gs : DGs) : DG := fun env x => match itemsOf x with
  | some xs => if xs.length = n then gs env xs else none
  | none => none
def rdGs (kt : Kt) (B : Bs) (sl : List Nat) (g : DGs) : TGs := fun vs σ H Q => ∃ W env G xs e', W.H = H ∧ RAll kt B W σ env G ∧ Reps kt.K W xs vs ∧ g env xs = some e' ∧
  ∀ σ', (∀ W' G', Ext false W W' → RAll kt B W' σ env G' → RAll kt B W' σ' e' G') → (∀ vs, (∀ i, i ∈ sl → i ∈ vs) → wipe σ' vs = wipe σ vs) → Q σ' H
def SGs (kt : Kt) (B : Bs) (X : Cx) (sl : List Nat) (tg : List Expr) (g : DGs) : Prop := PGs X tg (rdGs kt B sl g)
section
variable {kt : Kt} {B : Bs} {X : Cx} {pos : Pos}
theorem sg_name (i : Nat) {x : Str} (hN : X.N.Nodup) (hi : X.N[i]? = some x := by rfl) (hx : Loc X.env.scope x := by first | exact Or.inl rfl | exact Or.inr rfl) (hf : X.fn x = true ∨ X.env.scope.names.lookup x = some .local := by first | exact .inl rfl | exact .inr rfl) :
    SG kt B X [i] (.Name x pos) (gSet i) := (pg_name hN hi hx hf).imp fun v σ H Q ⟨W, env, G, x, e', eh, A, r, eg, q⟩ => by
  cases eg
  exact q _ (fun W' G' e A' => A'.set (r.ext e)) fun vs h => wipe_set_mem (h i (by simp))
theorem sgs_nil : SGs kt B X [] [] gsNil := pgs_nil.imp fun v σ H Q ⟨W, env, G, xs, e', eh, A, r, eg, q⟩ => by
  cases xs with
  | nil => cases r; cases eg; exact ⟨rfl, q σ (fun W' G' _ a => a) fun _ _ => rfl⟩
  | cons x xs => cases eg
theorem sgs_cons {e : Expr} {es : List Expr} {g : DG} {gs : DGs} {s1 s2 : List Nat} (h1 : SG kt B X s1 e g) (h2 : SGs kt B X s2 es gs) (hs : (assignEach (e :: es) X.env).map (·.2) = assign e X.env :: (assignEach es X.env).map (·.2) := by rfl) :
    SGs kt B X (s1 ++ s2) (e :: es) (gsCons g gs) := (pgs_cons h1 h2 hs).imp fun v σ H Q ⟨W, env, G, xs, e', eh, A, r, eg, q⟩ => by
  cases xs with
  | nil => cases eg
  | cons x xs =>
    obtain ⟨v0, vr, rfl, r1, r2⟩ := r
    obtain ⟨e1, eg1, eg2⟩ := Option.bind_eq_some_iff.mp eg
    refine ⟨v0, vr, rfl, W, env, G, x, e1, eh, A, r1, eg1, fun σ1 h1 w1 => ⟨W, e1, G, xs, e', eh, h1 W G Ext.refl A, r2, eg2, fun σ2 h2 w2 => ?_⟩⟩
    refine q σ2 (fun W' G' ee a => h2 W' G' ee (h1 W' G' ee a)) fun vs hm => ?_
    rw [w2 vs fun i hi => hm i (List.mem_append_right _ hi), w1 vs fun i hi => hm i (List.mem_append_left _ hi)]
theorem sg_tup {es : List Expr} {k : Nat} {gs : DGs} {n : Nat} {sl : List Nat} (hc : X.calm = true) (h : SGs kt B X sl es gs) (hn : (assignEach es X.env).length = n := by rfl) (hst : (assignEach es X.env).findIdx? (·.1) = none := by rfl) (hK : X.K = kt.K := by rfl) :
    SG kt B X sl (.Tuple es k pos) (gUn n gs) := (pg_tup hc h hn hst).imp fun v σ H Q ⟨W, env, G, x, e', eh, A, r, eg, q⟩ => by
  unfold gUn at eg
  split at eg
  · rename_i xs ex
    split at eg
    · rename_i hl
      have pk : Pk kt.K W .s x v := .inl r
      have : ∃ a vs, v = .ref a ∧ SqT kt.K W.H a vs ∧ Reps kt.K W xs vs := by
        cases x with
        | tup ys => cases ex; exact pk.tup
        | stp ys => cases ex; exact pk.stp
        | ktp ys => cases ex; exact pk.ktp
        | _ => cases ex
      obtain ⟨a, vs, rfl, h1, h2⟩ := this
      rw [hK]
      exact ⟨a, vs, rfl, by rw [← eh]; exact h1, by rw [← h2.length]; exact hl, W, env, G, xs, e', eh, A, h2, eg, q⟩
    · cases eg
  · cases eg
end

structure Yl (kt : Kt) (W' : Wd) (xs : List Vl) (Gd : Hp → Prop) (Y : Nat → Hp → V → Hp → Prop) : Prop where
  gd : ∀ W'', ExtS W' W'' → Gd W''.H
  yl : ∀ i H x H', i < xs.length → Y i H x H' → ∀ W'', ExtS W' W'' → W''.H = H → ∃ y, xs[i]? = some y ∧ ((H' = H ∧ Rep kt.K W'' y x) ∨ (∃ T vs, x = .ref T ∧ H T = none ∧ H' = upd H T (.tup vs) ∧ Rep kt.K (W''.alloc T (.tup vs) .no) y x))
abbrev DI := LEnv → Gst → R (List Vl)
def SI (kt : Kt) (B : Bs) (X : Cx) (p : Bool) (tg iter : Expr) (d : DI) : Prop := ∀ Wish, Takes X Wish → ∃ wi : TI, PI X tg iter wi ∧ ∀ σ H R, (∃ W env G, W.H = H ∧ RAll kt B W σ env G ∧
  (match d env G with
    | .bad => False
    | .exn c G' => ∀ W' od, Ext p W W' → RAll kt B W' σ env G' → ExOk c od W'.H → Wish (kt.exc c.cls) od σ W'.H
    | .ok xs G' => ∀ W', Ext p W W' → RAll kt B W' σ env G' → ∀ J Gd Y, Walk J xs.length Gd Y → Yl kt W' xs Gd Y → R J W'.H)) → wi σ H R
def walkOf : Vl → Option (List Vl)
  | .lst xs => some xs
  | .tup xs => some xs
  | .stp xs => some xs
  | .ktp xs => some xs
  | .scr ns => some (ns.map .int)
  | .str z => some (z.cps.toList.map fun c => .str ⟨#[c]⟩)
  | _ => none
def diVal (d : DE) : DI := fun env G => (d env G).bind fun x G1 => opt (walkOf x) G1
def iAny (K : PySem.W.Frag) (te : TE) : TI := fun σ H R => te σ H fun v H1 => (∃ a, v = .ref a ∧ ((∃ xs, SqL K H1 a xs) ∧ R (Itl K a) H1 ∨ (∃ xs, SqT K H1 a xs) ∧ R (Itt K a) H1)) ∨ ∃ z, v = .str z ∧ R (Its z) H1
theorem pi_any {X : Cx} {tg l : Expr} {tl : TE} (hl : PE X l tl) : PI X tg l (iAny X.K tl) := by
  refine ⟨fun pins s σ H R I h => ?_⟩
  refine thn (hl.run pins s σ H _ I h) fun v s1 ⟨x, H1, I1, r1, q1⟩ => ?_
  rcases q1 with ⟨a, e, ⟨⟨xs, hq⟩, q⟩ | ⟨⟨xs, hq⟩, q⟩⟩ | ⟨z, e, q⟩
  · subst e
    cases r1
    obtain ⟨its, rv, p, hz⟩ := I1.list hq
    refine wpAny_pyIter_list p.isList ?_
    refine ⟨s1.heap.objs.size, [s1.heap.objs.size], _, _, H1, rfl, I1.kept (t' := s1.toks) fun b o e => Heap.get?_push_of_some _ e, turn_list a _, ⟨_, Heap.get?_push_size _ rfl, rfl, rfl⟩, fun b hb => ?_, q⟩
    have e : b = s1.heap.objs.size := by simpa using hb
    subst e
    exact I1.fpOk (Nat.le_refl _) (I1.hok.fresh (Nat.le_refl _))
  · subst e
    cases r1
    obtain ⟨its, rv, p, hz⟩ := I1.tuple hq
    refine wpAny_pyIter_tuple (show s1.heap.IsTuple a its.toArray from p) ?_
    refine ⟨s1.heap.objs.size, [s1.heap.objs.size], _, _, H1, rfl, I1.kept (t' := s1.toks) fun b o e => Heap.get?_push_of_some _ e, turn_tuple a _, ⟨_, Heap.get?_push_size _ rfl, rfl, rfl⟩, fun b hb => ?_, q⟩
    have e : b = s1.heap.objs.size := by simpa using hb
    subst e
    exact I1.fpOk (Nat.le_refl _) (I1.hok.fresh (Nat.le_refl _))
  · subst e
    obtain ⟨t, rfl⟩ := r1
    cases ha : z.cps.all (· < 128)
    · exact wpAny_pyIter_wide ha (pi_one (tk := s1.toks) I1 _ (turn_str _ z t "str_iterator" (.inr rfl)) ⟨_, Heap.get?_push_size _ rfl, rfl, rfl⟩ q)
    · exact wpAny_pyIter_ascii ha (pi_one (tk := s1.toks) I1 _ (turn_str _ z t "str_ascii_iterator" (.inl rfl)) ⟨_, Heap.get?_push_size _ rfl, rfl, rfl⟩ q)
section
variable {kt : Kt} {B : Bs} {X : Cx} {p pa pb pc : Bool} {m ma mb mc : Md} {a b c e : Expr} {es : List Expr} {da db dc d : DE} {ds : DA} {t u : DT} {pos np : Pos} {i : Nat} {tg : Expr}
theorem rep_sqL {W W' : Wd} {xs : List Vl} {v : V} (h : Rep kt.K W (.lst xs) v) : ∃ a vs, v = .ref a ∧ Reps kt.K W xs vs ∧ ∀ W'', ExtS W W'' → SqL kt.K W''.H a vs := by
  obtain ⟨a, vs, rfl, g, h1, h2⟩ := h
  exact ⟨a, vs, rfl, h2, fun W'' e => SqL.of (e.keep a _ h1 (fun _ z => nomatch z) (by rw [g]; rfl) (.inr (by rw [g]; rfl)))⟩
theorem rep_sqT {W : Wd} {x : Vl} {xs : List Vl} {v : V} (h : Rep kt.K W x v) (e : itemsOf x = some xs) : ∃ a vs, v = .ref a ∧ Reps kt.K W xs vs ∧ ∀ W'', ExtS W W'' → SqT kt.K W''.H a vs := by
  cases x with
  | tup ys =>
    cases e
    obtain ⟨a, vs, o, rfl, g, h1, _, h2⟩ := h
    exact ⟨a, vs, rfl, h2, fun W'' e => .inl (.inr ⟨o, e.keep a _ h1 (fun _ z => nomatch z) (by rw [g]; rfl) (.inr (by rw [g]; rfl))⟩)⟩
  | stp ys =>
    cases e
    obtain ⟨a, vs, rfl, h1, h2⟩ := h
    exact ⟨a, vs, rfl, h2, fun W'' e => SqT.of (e.tups a _ h1)⟩
  | ktp ys =>
    cases e
    obtain ⟨a, vs, rfl, h1, h2⟩ := h
    exact ⟨a, vs, rfl, h2, fun W'' e => .inr h1⟩
  | _ => cases e
def WkI (kt : Kt) (B : Bs) (p : Bool) (σ : L2.St) (env : LEnv) (W : Wd) (Wish : WX) (R' : It → Hp → Prop) (r : R (List Vl)) : Prop := match r with
    | .bad => False
    | .exn c G' => ∀ W' od, Ext p W W' → RAll kt B W' σ env G' → ExOk c od W'.H → Wish (kt.exc c.cls) od σ W'.H
    | .ok xs G' => ∀ W', Ext p W W' → RAll kt B W' σ env G' → ∀ J Gd Y, Walk J xs.length Gd Y → Yl kt W' xs Gd Y → R' J W'.H
theorem bindI {α β : Type} {Z : Wd → α → β → Prop} {W : Wd} {σ : L2.St} {env : LEnv} {Wish : WX} {r : CardH.R α} {f : α → Gst → Option (List Vl)} {R' : It → Hp → Prop}
    (h : WkI kt B p σ env W Wish R' (r.bind fun x G1 => opt (f x G1) G1)) :
    PoX kt B p σ env W Wish Z r (fun v H1 => ∃ W1 x G1 xs, W1.H = H1 ∧ RAll kt B W1 σ env G1 ∧ Z W1 x v ∧ f x G1 = some xs ∧ ∀ J Gd Y, Walk J xs.length Gd Y → Yl kt W1 xs Gd Y → R' J W1.H) := by
  cases r with
  | bad => exact h
  | exn c G => exact h
  | ok x G =>
    rw [R.bind_ok] at h
    cases e : f x G with
    | none => rw [e] at h; exact h.elim
    | some xs =>
      rw [e] at h
      exact fun W' v e1 A z => ⟨W', x, G, xs, rfl, A, z, e, h W' e1 A⟩
theorem si_val (ha : SX kt B X p .s a da) (hK : X.K = kt.K := by rfl) : SI kt B X p tg a (diVal da) := fun Wish tk => by
  refine ⟨_, pi_any (ha Wish tk), fun σ H R ⟨W, env, G, e, A, h⟩ => ?_⟩
  subst e
  refine ⟨W, env, G, rfl, A, (bindI (f := fun x _ => walkOf x) h).mono ?_⟩
  rintro v H1 ⟨W', x, G', xs, rfl, A', z, ew, h⟩
  have z := z.strict
  have tp : ∀ {ys : List Vl}, itemsOf x = some ys → ys = xs → (∃ a, v = .ref a ∧ ((∃ xs, SqL X.K W'.H a xs) ∧ R (Itl X.K a) W'.H ∨ (∃ xs, SqT X.K W'.H a xs) ∧ R (Itt X.K a) W'.H)) ∨ ∃ z, v = .str z ∧ R (Its z) W'.H := by
    intro ys ey e1
    subst e1
    obtain ⟨a, vs, rfl, r, hq⟩ := rep_sqT z ey
    rw [hK]
    refine .inl ⟨a, rfl, .inr ⟨⟨vs, hq W' ExtR.refl⟩, h _ _ _ (by rw [r.length]; exact walk_tup) ⟨hq, fun i H y H' hi y1 W'' e2 eh => ?_⟩⟩⟩
    obtain ⟨y', h1, h2⟩ := (Reps.extR e2 rfl rfl _ _ r).get' y1.2
    exact ⟨y', h1, .inl ⟨y1.1, h2⟩⟩
  cases x with
  | lst ys =>
    cases ew
    obtain ⟨a, vs, rfl, r, hq⟩ := rep_sqL (W' := W') z
    rw [hK]
    refine .inl ⟨a, rfl, .inl ⟨⟨vs, hq W' ExtR.refl⟩, h _ _ _ (by rw [r.length]; exact walk_list) ⟨hq, fun i H y H' hi y1 W'' e2 eh => ?_⟩⟩⟩
    obtain ⟨y', h1, h2⟩ := (Reps.extR e2 rfl rfl _ _ r).get' y1.2
    exact ⟨y', h1, .inl ⟨y1.1, h2⟩⟩
  | tup ys => cases ew; exact tp rfl rfl
  | stp ys => cases ew; exact tp rfl rfl
  | ktp ys => cases ew; exact tp rfl rfl
  | scr ns =>
    cases ew
    obtain ⟨a, rfl, hh⟩ := z
    have hq : ∀ W'', ExtS W' W'' → SqL kt.K W''.H a (ns.map V.int) := fun W'' e2 => by
      rcases hh with ⟨g, r⟩ | h1
      · exact .inl (rd_keep e2 (by rw [g]; rfl) (.inr (by rw [g]; rfl)) (fun _ z => nomatch z) r)
      · exact .inr h1
    have r := reps_ints (K := kt.K) (W := W') ns
    rw [hK]
    refine .inl ⟨a, rfl, .inl ⟨⟨_, hq W' ExtR.refl⟩, h _ _ _ (by rw [r.length]; exact walk_list) ⟨hq, fun i H y H' hi y1 W'' e2 eh => ?_⟩⟩⟩
    obtain ⟨y', h1, h2⟩ := (Reps.extR e2 rfl rfl _ _ r).get' y1.2
    exact ⟨y', h1, .inl ⟨y1.1, h2⟩⟩
  | str s =>
    cases ew
    obtain ⟨rfl, ok⟩ := z
    refine .inr ⟨s, rfl, h _ _ _ (by rw [List.length_map, Array.length_toList]; exact walk_str) ⟨fun _ _ => trivial, fun i H y H' hi y1 W'' e2 eh => ?_⟩⟩
    obtain ⟨c, hc, rfl⟩ := y1.2
    refine ⟨.str ⟨#[c]⟩, by simp [hc], .inl ⟨y1.1, rfl, ?_⟩⟩
    exact okStr_one (j := i) ok (by simpa using hc)
  | _ => cases ew
def rgL (i : Int) (n : Nat) : List Vl := (List.range n).map fun k => .int (i + (k : Nat))
def rng1 : List Vl → Option (List Vl)
  | [.int j] => if sm62 j = true then some (rgL 0 j.toNat) else none
  | _ => none
def diRng (f : List Vl → Option (List Vl)) (ds : DA) : DI := fun env G => (ds env G).bind fun xs G1 => opt (f xs) G1
theorem yl_range {W : Wd} {i : Int} {n : Nat} : Yl kt W (rgL i n) (fun _ => True) (YFn fun k => .int (i + k)) :=
  ⟨fun _ _ => trivial, fun k H x H' hk y W'' e eh => by
    have hk : k < n := by simpa [rgL] using hk
    exact ⟨.int (i + k), by simp [rgL, hk], .inl ⟨y.1, y.2⟩⟩⟩
theorem rgL_length {i : Int} {n : Nat} : (rgL i n).length = n := by simp [rgL]
theorem si_r1 (ha : SAm kt B X p .s [a] ds) (hg : Gl X "range" := by rfl) (hm : X.mg "range" = none := by rfl) (hs : starEach [a] X.env = [(false, eval a X.env)] := by rfl) :
    SI kt B X p tg (.Call (.Name "range" np) [a] [] pos) (diRng rng1 ds) := fun Wish tk => by
  refine ⟨_, pi_range1 hg hm (ha Wish tk) hs, fun σ H R ⟨W, env, G, e, A, h⟩ => ?_⟩
  subst e
  refine ⟨W, env, G, rfl, A, (bindI (Z := fun W x v => PkS kt.K W .s x v) (f := fun x _ => rng1 x) h).mono ?_⟩
  rintro vs H1 ⟨W1, xs, G1, ys, rfl, A1, z1, ef, hr⟩
  unfold rng1 at ef
  split at ef
  · split at ef
    · rename_i hb
      cases ef
      obtain ⟨v, rfl, z2⟩ := z1.one
      cases z2.int
      have hb := sm62_ok hb
      exact ⟨_, rfl, hb.1, hb.2, hr _ _ _ (by rw [rgL_length]; exact walk_range) yl_range⟩
    · cases ef
  · cases ef
end
end CardH
end
section
set_option maxHeartbeats 2000000
namespace CardH
open PySem PySem.Spec PyProof.Rows L2

def noex {α : Type} (r : CardH.R α) : CardH.R α := (fun _ : Nat => match r with
  | .ok a G => .ok a G
  | _ => .bad) hgt3
def compL (g : DG) (dt : DT) (de : DE) (e0 : LEnv) : List Vl → Gst → CardH.R (List Vl)
  | [], G => .ok [] G
  | x :: xs, G => match g e0 x with
    | none => .bad
    | some e => (dt e G).bind fun b G1 => match b with
      | true => (de e G1).bind fun y G2 => (compL g dt de e0 xs G2).bind fun ys G3 => .ok (y :: ys) G3
      | false => compL g dt de e0 xs G1
def dYes : DT := fun _ G => .ok true G
def dLc (vs : List Nat) (di : DI) (g : DG) (dt : DT) (de : DE) : DE := fun env G => (di env G).bind fun xs G1 => (noex (compL g dt de (wipeE env vs) xs G1)).bind fun ys G2 => if ys.length ≤ 16777216 then .ok (.lst ys) G2 else .bad
def STs (kt : Kt) (B : Bs) (X : Cx) (p : Bool) (ifs : List Expr) (d : DT) : Prop := ∀ Wish, Takes X Wish → PTs X ifs (rdX kt B p Wish ZB d)
theorem _root_.L2.PTs.imp {X : Cx} {e : List Expr} {t t' : TT} (h : PTs X e t) (i : ∀ σ H Q, t' σ H Q → t σ H Q) : PTs X e t' := ⟨fun pins s σ H Q I q => h.run pins s σ H Q I (i σ H Q q)⟩
theorem upd_self {H : Hp} {D : Addr} {o : HO} (h : H D = some o) : upd H D o = H := by
  funext a
  by_cases e : a = D
  · rw [e, upd_same, h]
  · rw [upd_ne e]
theorem wipe_wipe {σ : L2.St} {vs : List Nat} : wipe (wipe σ vs) vs = wipe σ vs := by
  have step : ∀ (us : List Nat), (∀ i, i ∈ us → i ∈ vs) → wipe (wipe σ us) vs = wipe σ vs := by
    intro us
    induction us with
    | nil => intro _; rfl
    | cons k us ih =>
      intro h
      show wipe ((wipe σ us).set k none) vs = wipe σ vs
      rw [wipe_set_mem (h k (by simp)), ih fun i hi => h i (by simp [hi])]
  exact step vs fun _ h => h
section
variable {kt : Kt} {B : Bs} {X : Cx} {p pi pt pe : Bool} {elt tg iter : Expr} {ifs : List Expr} {scope : Scope} {own : List (Str × Nat)} {pos : Pos} {sl : List Nat} {di : DI} {g : DG} {dt : DT} {de : DE}
theorem sts_nil : STs kt B X true [] dYes := fun Wish _ => pts_nil.imp fun σ H Q ⟨W, env, G, e, A, h⟩ => by
  subst e; exact h W true Ext.refl A rfl
theorem takes_blk {s : Shared} {H : Hp} {cenv : Env} {fp : List Addr} : Takes (X.blk s H scope cenv fp) (fun _ _ _ _ => False) := fun u s' ⟨a, B, sI, pins, σ, H, cls, d, _, _, _, _, _, _, _, _, w⟩ => w
theorem Ext.andL {a b : Bool} {W W' : Wd} (e : Ext a W W') : Ext (a && b) W W' := e.mono fun z => (Bool.and_eq_true _ _ ▸ z).1
theorem Ext.fls {a : Bool} {W W' : Wd} (e : Ext a W W') : Ext false W W' := e.mono fun z => nomatch z
theorem lc_imp (hi : SI kt B X pi tg iter di)
    (hsl : sl.all (fun i => (own.map (·.2)).contains i) = true) {Wish : WX} (tk : Takes X Wish) :
    ∃ wi, PI X tg iter wi ∧ ∀ σ H Q, rdX kt B (pi && (pt && pe)) Wish (fun W x v => Pk kt.K W .s x v) (dLc (own.map (·.2)) di g dt de) σ H Q →
      tLc wi (rdG kt B sl g) (rdX kt B pt (fun _ _ _ _ => False) ZB dt) (rdX kt B pe (fun _ _ _ _ => False) (fun W x v => Pk kt.K W .s x v) de) (own.map (·.2)) σ H Q := by
  obtain ⟨wi, hwi, him⟩ := hi Wish tk
  have hsl : ∀ i, i ∈ sl → i ∈ own.map (·.2) := fun i h => by simpa using List.all_eq_true.mp hsl i h
  refine ⟨wi, hwi, fun σ H Q ⟨W, env, G, e, A, h⟩ => ?_⟩
  subst e
  refine him _ _ _ ⟨W, env, G, rfl, A, ?_⟩
  unfold dLc at h
  cases q : di env G with
  | bad => rw [q] at h; exact h.elim
  | exn c G' => rw [q] at h; exact fun W' od e A z => h W' od e.andL A z
  | ok xs G1 =>
    rw [q, R.bind_ok] at h
    intro W1 e1 A1 J Gd Y wk yl D hD
    generalize hvs : own.map (·.2) = vs at h hsl ⊢
    cases qc : compL g dt de (wipeE env vs) xs G1 with
    | bad => rw [qc] at h; exact h.elim
    | exn c G' => rw [qc] at h; exact h.elim
    | ok ys Gf =>
      rw [qc] at h
      have h : PoX kt B (pi && (pt && pe)) σ env W Wish (fun W x v => Pk kt.K W .s x v) (if ys.length ≤ 16777216 then .ok (.lst ys) Gf else .bad) Q := h
      split at h
      case isFalse => exact h.elim
      rename_i hlen
      refine lc_it wk (fun i H => ∃ Wi Gi acc accV rest, Wi.H = H ∧ Ext (pt && pe) W1 Wi ∧ RAll kt B Wi (wipe σ vs) (wipeE env vs) Gi ∧ Wi.Γ D = .tmp ∧ Wi.H D = some (.lst accV) ∧ Reps kt.K Wi acc accV ∧
        compL g dt de (wipeE env vs) (xs.drop i) Gi = .ok rest Gf ∧ acc ++ rest = ys) ?_ ?_ ?_ ?_
      · exact ⟨W1.alloc D (.lst []) .tmp, G1, [], [], ys, rfl, (Ext.alloc hD).weak, (A1.wipe vs).alloc hD rfl rfl, if_pos rfl, upd_same, rfl, qc, rfl⟩
      · rintro i H hi ⟨Wi, Gi, acc, accV, rest, rfl, ei, _⟩
        exact yl.gd Wi ei.toS
      · rintro i x H H' hi ⟨Wi, Gi, acc, accV, rest, eH, ei, Ai, gi, di', ri, ci, ai⟩ y
        obtain ⟨y0, hy0, hrep⟩ := yl.yl i H x H' hi y Wi ei.toS eH
        have hW2 : ∃ W2, W2.H = H' ∧ Ext true Wi W2 ∧ RAll kt B W2 (wipe σ vs) (wipeE env vs) Gi ∧ Rep kt.K W2 y0 x := by
          rcases hrep with ⟨e, r⟩ | ⟨T, us, e, hT, e2, r⟩
          · exact ⟨Wi, by rw [e]; exact eH, Ext.refl, Ai, r⟩
          · have hT' : Wi.H T = none := by rw [eH]; exact hT
            exact ⟨Wi.alloc T (.tup us) .no, by rw [e2, ← eH]; rfl, Ext.alloc hT', Ai.alloc hT' rfl rfl, r⟩
        obtain ⟨W2, rfl, e2, A2, rep⟩ := hW2
        have d2 : W2.H D = some (.lst accV) := e2.keep D _ di' (fun _ z => nomatch z) (.inl rfl)
        have g2 : W2.Γ D = .tmp := (e2.role D (by rw [di']; simp)).trans gi
        have r2 := ri.ext e2
        have e02 : Ext (pt && pe) W1 W2 := (ei.trans e2).mono fun z => by rw [z]; rfl
        have hdrop : xs.drop i = y0 :: xs.drop (i + 1) := by
          obtain ⟨h1, h2⟩ := List.getElem?_eq_some_iff.mp hy0
          rw [List.drop_eq_getElem_cons h1, h2]
        rw [hdrop] at ci
        unfold compL at ci
        cases eg : g (wipeE env vs) y0 with
        | none => rw [eg] at ci; cases ci
        | some e' =>
          rw [eg] at ci
          dsimp only at ci
          refine ⟨W2, wipeE env vs, Gi, y0, e', rfl, A2, rep, eg, fun σ' hset hw => ⟨by rw [hw vs hsl, wipe_wipe], W2, e', Gi, rfl, hset W2 Gi Ext.refl A2, ?_⟩⟩
          cases qt : dt e' Gi with
          | bad => rw [qt] at ci; cases ci
          | exn c G' => rw [qt] at ci; cases ci
          | ok b G3 =>
            rw [qt, R.bind_ok] at ci
            intro W3 b' e3 A3 z3
            obtain rfl : b = b' := z3
            cases b with
            | false =>
              rw [if_neg Bool.false_ne_true]
              dsimp only at ci
              exact ⟨W3, G3, acc, accV, rest, rfl, (e02.trans e3).mono fun z => by rw [z]; exact (Bool.and_eq_true _ _ ▸ z).1,
                ⟨A3.ok, A2.re.ext e3, A3.si, A3.nl⟩, (e3.role D (by rw [d2]; simp)).trans g2, e3.keep D _ d2 (fun _ z => nomatch z) (.inr (by rw [g2]; rfl)), r2.ext e3, ci, ai⟩
            | true =>
              rw [if_pos rfl]
              dsimp only at ci
              refine ⟨W3, e', G3, rfl, A3, ?_⟩
              cases qe : de e' G3 with
              | bad => rw [qe] at ci; cases ci
              | exn c G' => rw [qe] at ci; cases ci
              | ok yv G4 =>
                rw [qe, R.bind_ok] at ci
                intro W4 v e4 A4 z4
                have e34 := e3.trans e4
                have d4 : W4.H D = some (.lst accV) := e34.keep D _ d2 (fun _ z => nomatch z) (.inr (by rw [g2]; rfl))
                have g4 : W4.Γ D = .tmp := (e34.role D (by rw [d2]; simp)).trans g2
                have r4 := r2.ext e34
                cases qr : compL g dt de (wipeE env vs) (xs.drop (i + 1)) G4 with
                | bad => rw [qr] at ci; cases ci
                | exn c G' => rw [qr] at ci; cases ci
                | ok zs G5 =>
                  rw [qr, R.bind_ok] at ci
                  cases ci
                  have hl : acc.length + 1 ≤ ys.length := by rw [← ai]; simp
                  have A4' : RAll kt B W4 (wipe σ vs) (wipeE env vs) G4 := ⟨A4.ok, A2.re.ext e34, A4.si, A4.nl⟩
                  refine ⟨accV, d4, by rw [← r4.length, sizeLine_eq]; omega, W4.put D (.lst (accV ++ [v])) .tmp, G4, acc ++ [yv], accV ++ [v], zs, rfl, ?_, A4'.put g4 d4 (A1.fresh hD), if_pos rfl, upd_same, ?_, qr, by rw [← ai]; simp⟩
                  · exact Ext.put ((e02.trans e34).mono fun z => by rw [z]; rfl) hD d4
                  · exact (Reps.extR (ExtR.put g4 d4 : ExtR true isTmp W4 _) rfl rfl _ _ r4).append (Reps.one (Rep.extR (ExtR.put g4 d4 : ExtR true isTmp W4 _) rfl rfl _ _ z4.strict))
      · rintro H ⟨Wi, Gi, acc, accV, rest, rfl, ei, Ai, gi, di', ri, ci, ai⟩
        rw [List.drop_length] at ci
        cases ci
        rw [List.append_nil] at ai
        subst ai
        have e5 : Ext (pt && pe) W1 (Wi.put D (.lst accV) .froz) := Ext.put ei hD di'
        have A5 := Ai.put (ys := accV) (r := .froz) gi di' (A1.fresh hD)
        have h5 := h (Wi.put D (.lst accV) .froz) (.ref D) (e1.trans e5) ⟨A5.ok, A1.re.ext e5, A5.si, A5.nl⟩ (.inl ⟨D, accV, rfl, if_pos rfl, upd_same, Reps.extR (ExtR.put gi di' : ExtR true isTmp Wi _) rfl rfl _ _ ri⟩)
        have eH : (Wi.put D (.lst accV) .froz).H = Wi.H := upd_self di'
        rw [eH] at h5
        exact h5
theorem sx_lc (hc : X.calm = true) (hN : X.N.Nodup) (hi : SI kt B X pi tg iter di) (ok : blkC X.N X.env.scope scope own = true)
    (hg : ∀ (s : Shared) (H : Hp) (C : Addr) (cl : List (Str × Addr)) (fp : List Addr), SG kt B (X.blk s H scope (compEnvC scope cl C X.env) fp) sl tg g)
    (ht : ∀ (s : Shared) (H : Hp) (C : Addr) (cl : List (Str × Addr)) (fp : List Addr), STs kt B (X.blk s H scope (compEnvC scope cl C X.env) fp) pt ifs dt)
    (he : ∀ (s : Shared) (H : Hp) (C : Addr) (cl : List (Str × Addr)) (fp : List Addr), SX kt B (X.blk s H scope (compEnvC scope cl C X.env) fp) pe .s elt de)
    (hsl : sl.all (fun i => (own.map (·.2)).contains i) = true := by rfl) (hs : ∀ x, foldedSetIterable iter X.env x = pure x := by intro _; rfl) :
    SX kt B X (pi && (pt && pe)) .s (.ListComp elt [⟨tg, iter, ifs, 0⟩] scope pos) (dLc (own.map (·.2)) di g dt de) := fun Wish tk => by
  obtain ⟨wi, hwi, him⟩ := lc_imp (pt := pt) (pe := pe) (g := g) (dt := dt) (de := de) hi hsl tk
  exact (pe_lc hc hN hwi (blkOk_by ok) hg (fun s H C cl fp => ht s H C cl fp _ takes_blk) (fun s H C cl fp => he s H C cl fp _ takes_blk) hs).imp him
end
end CardH
end
section
set_option maxHeartbeats 2000000
namespace CardH
open PySem PySem.Spec PyProof.Rows L2

structure ROut (kt : Kt) (B : Bs) (W : Wd) (G : Gst) : Prop where
  ok : WOk kt W G
  si : Ext B.p B.W0 W
  nl : B.lk = false → NoLock W
theorem RAll.out {kt : Kt} {B : Bs} {W : Wd} {σ : L2.St} {env : LEnv} {G : Gst} (A : RAll kt B W σ env G) : ROut kt B W G := ⟨A.ok, A.si, A.nl⟩
def PoS (kt : Kt) (B : Bs) (W : Wd) (Wish : WX) (r : SR) (D : Ends) : Prop := match r with
  | .bad => False
  | .nx e G => ∀ W' σ, ExtS W W' → RAll kt B W' σ e G → D.nx σ W'.H
  | .bk e G => ∀ W' σ, ExtS W W' → RAll kt B W' σ e G → D.bk σ W'.H
  | .ct e G => ∀ W' σ, ExtS W W' → RAll kt B W' σ e G → D.ct σ W'.H
  | .rt v G => ∀ W' w, ExtS W W' → ROut kt B W' G → Rep kt.K W' v w → D.rt w W'.H
  | .ex c e G => ∀ W' σ od, ExtS W W' → RAll kt B W' σ e G → ExOk c od W'.H → Wish (kt.exc c.cls) od σ W'.H
def rdS (kt : Kt) (B : Bs) (Wish : WX) (d : DS) : TS := fun D σ H => ∃ W env G, W.H = H ∧ RAll kt B W σ env G ∧ PoS kt B W Wish (d env G) D
def SS (kt : Kt) (B : Bs) (X : Cx) (st : Stmt) (d : DS) : Prop := ∀ Wish, Takes X Wish → PS X st (rdS kt B Wish d)
def SSs (kt : Kt) (B : Bs) (X : Cx) (st : List Stmt) (d : DS) : Prop := ∀ Wish, Takes X Wish → PSs X st (rdS kt B Wish d)
def sb {α : Type} (env : LEnv) (r : CardH.R α) (f : α → Gst → SR) : SR := (fun _ : Nat => match r with
  | .ok a G => f a G
  | .exn c G => .ex c env G
  | .bad => .bad) hgt3
@[simp] theorem sb_ok {α : Type} (env : LEnv) (a : α) (G : Gst) (f : α → Gst → SR) : sb env (.ok a G) f = f a G := rfl
@[simp] theorem sb_exn {α : Type} (env : LEnv) (c : Ex) (G : Gst) (f : α → Gst → SR) : sb env (.exn c G) f = .ex c env G := rfl
section
variable {kt : Kt} {B : Bs} {X : Cx} {W W1 : Wd} {Wish : WX} {σ : L2.St} {env : LEnv} {p : Bool} {α β : Type}
theorem PoS.shiftS {r : SR} {D : Ends} (h : PoS kt B W Wish r D) (e : ExtS W W1) : PoS kt B W1 Wish r D := by
  cases r with
  | bad => exact h
  | nx _ _ => exact fun W' σ e' => h W' σ (e.trans e')
  | bk _ _ => exact fun W' σ e' => h W' σ (e.trans e')
  | ct _ _ => exact fun W' σ e' => h W' σ (e.trans e')
  | rt _ _ => exact fun W' w e' => h W' w (e.trans e')
  | ex _ _ _ => exact fun W' σ od e' => h W' σ od (e.trans e')
theorem PoS.shift {r : SR} {D : Ends} (h : PoS kt B W Wish r D) (e : Ext p W W1) : PoS kt B W1 Wish r D := h.shiftS e.toS
theorem PoS.bindS {Z : Wd → α → β → Prop} {r : CardH.R α} {f : α → Gst → SR} {D : Ends} (h : PoS kt B W Wish (sb env r f) D) :
    PoX kt B p σ env W Wish Z r (fun v H1 => ∃ W1 x G1, W1.H = H1 ∧ Ext p W W1 ∧ RAll kt B W1 σ env G1 ∧ Z W1 x v ∧ PoS kt B W1 Wish (f x G1) D) := by
  cases r with
  | bad => exact h
  | exn c G => exact fun W' od e A z => h W' σ od e.toS A z
  | ok x G => exact fun W' v e A z => ⟨W', x, G, rfl, e, A, z, h.shift e⟩
end
def dNext : DS := fun e G => .nx e G
def dSeq (a b : DS) : DS := fun e G => match a e G with
  | .nx e1 G1 => b e1 G1
  | r => r
def dRet (d : DE) : DS := fun e G => sb e (d e G) fun v G1 => .rt v G1
def dRetN : DS := fun _ G => .rt .non G
def dExpr (d : DE) : DS := fun e G => sb e (d e G) fun _ G1 => .nx e G1
def dBreak : DS := fun e G => .bk e G
def dCont : DS := fun e G => .ct e G
def dIfS (t : DT) (a b : DS) : DS := fun e G => sb e (t e G) fun c G1 => match c with
  | true => a e G1
  | false => b e G1
def dAsg (d : DE) (g : DG) : DS := fun e G => sb e (d e G) fun x G1 => match g e x with
  | some e1 => .nx e1 G1
  | none => .bad
def forL (g : DG) (db : DS) : List Vl → LEnv → Gst → SR
  | [], e, G => .nx e G
  | x :: xs, e, G => match g e x with
    | none => .bad
    | some e1 => match db e1 G with
      | .nx e2 G2 => forL g db xs e2 G2
      | .ct e2 G2 => forL g db xs e2 G2
      | .bk e2 G2 => .nx e2 G2
      | r => r
def dFor (di : DI) (g : DG) (db : DS) : DS := fun e G => sb e (di e G) fun xs G1 => forL g db xs e G1
section
variable {kt : Kt} {B : Bs} {X : Cx} {p : Bool} {m : Md} {e : Expr} {d : DE} {t : DT} {st : Stmt} {rest a b body : List Stmt} {ds d1 d2 : DS} {pos : Pos} {g : DG} {sl : List Nat} {di : DI}
theorem sss_nil : SSs kt B X [] dNext := fun Wish _ => pss_nil.imp fun D σ H ⟨W, env, G, e, A, h⟩ => by
  subst e; exact h W σ ExtR.refl A
theorem sss_cons (h1 : SS kt B X st d1) (h2 : SSs kt B X rest d2) : SSs kt B X (st :: rest) (dSeq d1 d2) := fun Wish tk => (pss_cons (h1 Wish tk) (h2 Wish tk)).imp fun D σ H ⟨W, env, G, e, A, h⟩ => by
  subst e
  refine ⟨W, env, G, rfl, A, ?_⟩
  unfold dSeq at h
  cases q : d1 env G with
  | bad => rw [q] at h; exact h
  | nx e1 G1 => rw [q] at h; exact fun W' σ' e' A' => ⟨W', e1, G1, rfl, A', PoS.shiftS h e'⟩
  | bk _ _ => rw [q] at h; exact h
  | ct _ _ => rw [q] at h; exact h
  | rt _ _ => rw [q] at h; exact h
  | ex _ _ _ => rw [q] at h; exact h
theorem sss_one (h1 : SS kt B X st d1) : SSs kt B X [st] d1 := fun Wish tk => (pss_one (h1 Wish tk))
theorem ss_expr (h : SX kt B X p m e d) (hs : swapsWith e none pos.line X.env = pure false := by rfl) : SS kt B X (.Expr e pos) (dExpr d) := fun Wish tk => (ps_expr (h Wish tk) hs).imp fun D σ H ⟨W, env, G, e, A, h⟩ => by
  subst e
  refine ⟨W, env, G, rfl, A, h.bindS.mono ?_⟩
  rintro v H1 ⟨W1, x, G1, rfl, e1, A1, z1, h1⟩
  exact h1 W1 σ ExtR.refl A1
theorem ss_ret (h : SX kt B X p .s e d) : SS kt B X (.Return (some e) pos) (dRet d) := fun Wish tk => (ps_ret (h Wish tk)).imp fun D σ H ⟨W, env, G, e, A, h⟩ => by
  subst e
  refine ⟨W, env, G, rfl, A, h.bindS.mono ?_⟩
  rintro v H1 ⟨W1, x, G1, rfl, e1, A1, z1, h1⟩
  exact h1 W1 v ExtR.refl A1.out z1.strict
theorem ss_if {c : Expr} (hc : ST kt B X p c t) (ha : SSs kt B X a d1) (hb : SSs kt B X b d2) : SS kt B X (.If c a b pos) (dIfS t d1 d2) := fun Wish tk => (ps_if (hc Wish tk) (ha Wish tk) (hb Wish tk)).imp fun D σ H ⟨W, env, G, e, A, h⟩ => by
  subst e
  refine ⟨W, env, G, rfl, A, h.bindS.mono ?_⟩
  rintro c H1 ⟨W1, x, G1, rfl, e1, A1, z1, h1⟩
  obtain rfl : x = c := z1
  cases x with
  | true => rw [if_pos rfl]; exact ⟨W1, env, G1, rfl, A1, h1⟩
  | false => rw [if_neg Bool.false_ne_true]; exact ⟨W1, env, G1, rfl, A1, h1⟩
theorem ss_asg {tg : Expr} (he : SX kt B X p .s e d) (hg : SG kt B X sl tg g) (hs : swapsWithSole [tg] e pos.line X.env = pure false := by rfl) (hw : swappedStores [tg] e X.env = pure none := by rfl) (h1 : (assignEach [tg] X.env).map (·.2) = [assign tg X.env] := by rfl) :
    SS kt B X (.Assign [tg] e pos) (dAsg d g) := fun Wish tk => (ps_asg (he Wish tk) hg hs hw h1).imp fun D σ H ⟨W, env, G, e, A, h⟩ => by
  subst e
  refine ⟨W, env, G, rfl, A, h.bindS.mono ?_⟩
  rintro v H1 ⟨W1, x, G1, rfl, e1, A1, z1, h1⟩
  cases eg : g env x with
  | none => rw [eg] at h1; exact h1.elim
  | some e' =>
    rw [eg] at h1
    exact ⟨W1, env, G1, x, e', rfl, A1, z1.strict, eg, fun σ' hset hw => h1 W1 σ' ExtR.refl (hset W1 G1 Ext.refl A1)⟩
theorem ss_set (i : Nat) {x : Str} {pos' : Pos} (hN : X.N.Nodup) (he : SX kt B X p .s e d) (hi : X.N[i]? = some x := by rfl) (hx : Loc X.env.scope x := by first | exact Or.inl rfl | exact Or.inr rfl) (hs : swapsWith e (some (.Name x pos')) pos.line X.env = pure false := by rfl)
    (hf : X.fn x = true ∨ X.env.scope.names.lookup x = some .local := by first | exact .inl rfl | exact .inr rfl) : SS kt B X (.Assign [.Name x pos'] e pos) (dAsg d (gSet i)) := fun Wish tk => (ps_set hN hi hx (he Wish tk) hs hf).imp fun D σ H ⟨W, env, G, e, A, h⟩ => by
  subst e
  refine ⟨W, env, G, rfl, A, h.bindS.mono ?_⟩
  rintro v H1 ⟨W1, x, G1, rfl, e1, A1, z1, h1⟩
  exact h1 W1 _ ExtR.refl (A1.set z1.strict)
theorem for_core {W : Wd} {Wish : WX} {σ : L2.St} {env : LEnv} {G : Gst} {D : Ends} {xs : List Vl} {J : It} {Gd : Hp → Prop} {Y : Nat → Hp → V → Hp → Prop} {db : DS} (A : RAll kt B W σ env G) (h : PoS kt B W Wish (forL g db xs env G) D) (wk : Walk J xs.length Gd Y) (yl : Yl kt W xs Gd Y) :
    ∃ W' : Nat → Nat → L2.St → Hp → Prop, (∃ m, W' 0 m σ W.H) ∧ ∀ i m σ H, W' i m σ H →
      (J.stop i H ∧ D.nx σ H) ∨ (J.go i H ∧ ∃ N : L2.St → Hp → Prop, (∀ σ' H', N σ' H' → ∃ m', m' < m ∧ W' (i + 1) m' σ' H') ∧ ∀ x H', J.yld i H x H' → rdG kt B sl g x σ H' fun σ2 H2 => rdS kt B Wish db { D with nx := N, ct := N, bk := D.nx } σ2 H2) := by
  refine for_it wk (fun i σ H => ∃ Wi ei Gi, Wi.H = H ∧ ExtS W Wi ∧ RAll kt B Wi σ ei Gi ∧ PoS kt B Wi Wish (forL g db (xs.drop i) ei Gi) D) ?_ ?_ ?_ ?_
  · exact ⟨W, env, G, rfl, ExtR.refl, A, h⟩
  · rintro i σ H hi ⟨Wi, ei, Gi, rfl, e, _⟩
    exact yl.gd Wi e
  · rintro i x σ H H' hi ⟨Wi, ei, Gi, eH, e, Ai, hi'⟩ y
    obtain ⟨y0, hy0, hrep⟩ := yl.yl i H x H' hi y Wi e eH
    have hW2 : ∃ W2, W2.H = H' ∧ Ext true Wi W2 ∧ RAll kt B W2 σ ei Gi ∧ Rep kt.K W2 y0 x := by
      rcases hrep with ⟨e, r⟩ | ⟨T, us, e, hT, e2, r⟩
      · exact ⟨Wi, by rw [e]; exact eH, Ext.refl, Ai, r⟩
      · have hT' : Wi.H T = none := by rw [eH]; exact hT
        exact ⟨Wi.alloc T (.tup us) .no, by rw [e2, ← eH]; rfl, Ext.alloc hT', Ai.alloc hT' rfl rfl, r⟩
    obtain ⟨W2, rfl, e2, A2, rep⟩ := hW2
    have e02 : ExtS W W2 := e.trans e2.toS
    have hdrop : xs.drop i = y0 :: xs.drop (i + 1) := by
      obtain ⟨h1, h2⟩ := List.getElem?_eq_some_iff.mp hy0
      rw [List.drop_eq_getElem_cons h1, h2]
    rw [hdrop] at hi'
    unfold forL at hi'
    cases eg : g ei y0 with
    | none => rw [eg] at hi'; exact hi'.elim
    | some e' =>
      rw [eg] at hi'
      dsimp only at hi'
      refine ⟨W2, ei, Gi, y0, e', rfl, A2, rep, eg, fun σ' hset hw => ⟨W2, e', Gi, rfl, hset W2 Gi Ext.refl A2, ?_⟩⟩
      cases qb : db e' Gi with
      | bad => rw [qb] at hi'; exact hi'.elim
      | nx e3 G3 =>
        rw [qb] at hi'
        exact fun W3 σ3 e23 A3 => ⟨W3, e3, G3, rfl, e02.trans e23, A3, (PoS.shift hi' e2).shiftS e23⟩
      | ct e3 G3 =>
        rw [qb] at hi'
        exact fun W3 σ3 e23 A3 => ⟨W3, e3, G3, rfl, e02.trans e23, A3, (PoS.shift hi' e2).shiftS e23⟩
      | bk e3 G3 =>
        rw [qb] at hi'
        exact fun W3 σ3 e23 A3 => hi' W3 σ3 (e2.toS.trans e23) A3
      | rt v3 G3 =>
        rw [qb] at hi'
        exact fun W3 w e23 A3 => hi' W3 w (e2.toS.trans e23) A3
      | ex c e3 G3 =>
        rw [qb] at hi'
        exact fun W3 σ3 od e23 A3 => hi' W3 σ3 od (e2.toS.trans e23) A3
  · rintro σ H ⟨Wi, ei, Gi, rfl, e, Ai, hi'⟩
    rw [List.drop_length] at hi'
    exact hi' Wi σ ExtR.refl Ai
theorem ss_for {tg iter : Expr} {db : DS} (hp : PassesOwn (model X.prog X.w) X.A X.env X.xe) (hc : X.calm = true) (hi : SI kt B X p tg iter di) (hg : SG kt B X sl tg g) (hb : SSs kt B X body db) (hs : ∀ x, foldedSetIterable iter X.env x = pure x := by intro _; rfl) :
    SS kt B X (.For tg iter body [] pos) (dFor di g db) := fun Wish tk => by
  obtain ⟨wi, hwi, him⟩ := hi Wish tk
  refine (ps_for hp hc hwi hg (hb Wish tk) hs).imp fun D σ H ⟨W, env, G, e, A, h⟩ => ?_
  subst e
  refine him _ _ _ ⟨W, env, G, rfl, A, ?_⟩
  unfold dFor at h
  cases q : di env G with
  | bad => rw [q] at h; exact h
  | exn c G' => rw [q] at h; exact fun W' od e A z => h W' σ od e.toS A z
  | ok xs G1 =>
    rw [q, sb_ok] at h
    intro W1 e1 A1 J Gd Y wk yl
    exact for_core A1 (h.shift e1) wk yl
end

abbrev DX := LEnv → Gst → CardH.R Ex
def SMk (kt : Kt) (B : Bs) (X : Cx) (e : Expr) (d : DX) : Prop := ∀ Wish, Takes X Wish → ∃ t, PMk X e t ∧ ∀ σ H Q, (∃ W env G, W.H = H ∧ RAll kt B W σ env G ∧ (match d env G with
    | .bad => False
    | .exn c G' => ∀ W' od, Ext false W W' → RAll kt B W' σ env G' → ExOk c od W'.H → Wish (kt.exc c.cls) od σ W'.H
    | .ok c G' => ∀ W' od, Ext false W W' → RAll kt B W' σ env G' → ExOk c od W'.H → Q (kt.exc c.cls) od W'.H)) → t σ H Q
def dRaise (d : DX) : DS := fun e G => sb e (d e G) fun c G1 => .ex c e G1
def dxC (c : Nat) : DX := fun _ G => .ok { cls := c } G
def dxE (c : Nat) (d : DE) : DX := fun e G => (d e G).bind fun _ G1 => .ok { cls := c } G1
section
variable {kt : Kt} {B : Bs} {X : Cx} {p : Bool} {m : Md} {e : Expr} {d : DE} {pos : Pos} {dx : DX}
theorem ss_raise (hc : X.calm = true) (h : SMk kt B X e dx) : SS kt B X (.Raise (some e) none pos) (dRaise dx) := fun Wish tk => by
  obtain ⟨t, ht, hi⟩ := h Wish tk
  refine (ps_raise hc tk ht).imp fun D σ H ⟨W, env, G, e, A, h⟩ => hi _ _ _ ⟨W, env, G, e, A, ?_⟩
  unfold dRaise at h
  cases q : dx env G with
  | bad => rw [q] at h; exact h
  | exn c G' => rw [q] at h; exact fun W' od e A z => h W' σ od e.toS A z
  | ok c G' => rw [q] at h; exact fun W' od e A z => h W' σ od e.toS A z
structure ExcCls (kt : Kt) (X : Cx) (c : Nat) (x : Str) : Prop where
  ex : ∃ (C : Addr) (bmB : List Value) (Bn newId initId : String), ExcBaseFacts Bn newId initId bmB ∧ PySem.W.excIn X.K C bmB newId = true ∧ X.mg x = some (.ref C) ∧ PySem.W.keepIn X.K (.ref C) = true ∧ Raises X (.ref C) ∧ kt.exc c = .ref C
theorem smk_own (c : Nat) {x : Str} {ms : Str} {j : Nat} {np p2 : Pos} (F : ExcCls kt X c x) (hg : Gl X x := by rfl) (hdb : (x == ("__debug__" : Str)) = false := by decide) : SMk kt B X (.Call (.Name x np) [.Constant (.str ms) j p2] [] pos) (dxC c) := fun Wish tk => by
  obtain ⟨C, bmB, Bn, newId, initId, F, q, gC, kC, r, ec⟩ := F.ex
  refine ⟨_, pmk_own F q gC kC r hg hdb, fun σ H Q ⟨W, env, G, e, A, h⟩ => ?_⟩
  subst e
  have h := h W none Ext.refl A rfl
  rw [show kt.exc ({ cls := c } : Ex).cls = .ref C from ec] at h
  exact h
theorem smk_own1 (c : Nat) {x : Str} {np : Pos} (F : ExcCls kt X c x) (he : SX kt B X p m e d) (hg : Gl X x := by rfl) (hs : starEach [e] X.env = (false, eval e X.env) :: starEach [] X.env := by rfl) (hdb : (x == ("__debug__" : Str)) = false := by decide) :
    SMk kt B X (.Call (.Name x np) [e] [] pos) (dxE c d) := fun Wish tk => by
  obtain ⟨C, bmB, Bn, newId, initId, F, q, gC, kC, r, ec⟩ := F.ex
  refine ⟨_, SkE.pmk_own1 F q gC kC r hg (he Wish tk) hs hdb, fun σ H Q ⟨W, env, G, e, A, h⟩ => ?_⟩
  subst e
  refine ⟨W, env, G, rfl, A, ?_⟩
  unfold dxE at h
  cases q : d env G with
  | bad => rw [q] at h; exact h
  | exn c G' => rw [q] at h; exact fun W' od e A z => h W' od e.fls A z
  | ok x G' =>
    rw [q] at h
    intro W' v e' A' z
    have h := h W' none e'.fls A' rfl
    rw [show kt.exc ({ cls := c } : Ex).cls = .ref C from ec] at h
    exact h
end
end CardH
end
section
set_option maxHeartbeats 2000000
namespace CardH
open PySem PySem.Spec PyProof.Rows L2

def Wd.wr (W : Wd) (a : Addr) (o : HO) : Wd := ⟨W.Γ, W.ρ, upd W.H a o⟩
def okW : HO → Bool
  | .lst _ => true
  | .ins _ _ _ => true
  | .dK _ => true
  | .dT _ => true
  | _ => false
section
variable {kt : Kt} {B : Bs} {W W' : Wd} {σ : L2.St} {env : LEnv} {G : Gst} {a : Addr} {o o0 : HO} {i j : Nat} {r : Role} {p : Bool}
theorem Ext.wr (hs : (W.Γ a).still = false) (h : W.H a = some o0) (hw : okW o0 = true) : Ext false W (W.wr a o) where
  role := fun _ _ => rfl
  keep := fun b u hb nt hp => (upd_ne (fun e => by
    rcases hp with hp | hp
    · cases hp
    · rw [e, hs] at hp; cases hp)).trans hb
  tups := fun b xs hb => (upd_ne (fun e => by rw [e, h] at hb; cases hb; cases hw)).trans hb
  frz := fun b o u hb => (upd_ne (fun e => by rw [e, h] at hb; cases hb; cases hw)).trans hb
  there := fun b hb => by
    show upd W.H a o b ≠ none
    by_cases e : b = a
    · rw [e, upd_same]; simp
    · rw [upd_ne e]; exact hb
  pre := ⟨[], by simp [Wd.wr]⟩
theorem FvRep.but {K : PySem.W.Frag} (e : Ext false W W') (hk : ∀ b, W.Γ b = r → W.H b ≠ none → W'.H b = W.H b) : ∀ (x : Fv) (v : V), FvRep K W r x v → FvRep K W' r x v
  | .val x, v, h => Rep.ext e x v h
  | .ol xs, v, h => by
    obtain ⟨b, vs, e1, g, h1, h2⟩ := h
    exact ⟨b, vs, e1, (e.role b (by rw [h1]; simp)).trans g, (hk b g (by rw [h1]; simp)).trans h1, Reps.ext e _ _ h2⟩
  | .od false kvs, v, h => by
    obtain ⟨b, ks, e1, g, h1, h2⟩ := h
    refine ⟨b, ks, e1, (e.role b (rd_some h1)).trans g, ?_, RepK.ext e _ _ h2⟩
    unfold Rd at h1 ⊢
    rw [hk b g (rd_some h1)]; exact h1
  | .od true kvs, v, h => by
    obtain ⟨b, ks, e1, g, h1, h2⟩ := h
    refine ⟨b, ks, e1, (e.role b (rd_some h1)).trans g, ?_, RepT.ext e _ _ h2⟩
    unfold Rd at h1 ⊢
    rw [hk b g (rd_some h1)]; exact h1
theorem FldsRep.but (e : Ext false W W') (hk : ∀ b f, W.Γ b = .fld i f → W.H b ≠ none → W'.H b = W.H b) : ∀ (fs : List (Nat × Fv)) (fv : List (Str × V)), FldsRep kt W i fs fv → FldsRep kt W' i fs fv
  | [], _, h => h
  | (f, x) :: fs, fv, h => by
    obtain ⟨nm, v, r, h0, e1, h1, h2⟩ := h
    exact ⟨nm, v, r, h0, e1, FvRep.but e (fun b g => hk b f g) _ _ h1, FldsRep.but e hk fs r h2⟩
theorem RG.wr {ob' : Ob} (h : RG kt W G) (e : Ext false W W') (hr : W'.ρ = W.ρ) (hk : ∀ b (_ : Nat), b ≠ a → W.H b ≠ none → W'.H b = W.H b) (ha : ∀ i, W.Γ a = .obj i ∨ (∃ f, W.Γ a = .fld i f) → i = j) (hb : ∀ b, W.ρ[j]? = some b → ObRep kt W' j b ob') : RG kt W' (G.set j ob') := by
  refine ⟨by rw [hr, List.length_set]; exact h.len, fun i o hi => ?_⟩
  by_cases eij : j = i
  · subst eij
    by_cases hj : j < G.length
    · rw [List.getElem?_set_self hj] at hi
      cases hi
      obtain ⟨b, h1, h2, h3⟩ := h.ob j _ (List.getElem?_eq_getElem hj)
      refine ⟨b, by rw [hr]; exact h1, ?_, hb b h1⟩
      refine (e.role b ?_).trans h2
      generalize G[j] = o3 at h3
      cases o3 with
      | lst xs => obtain ⟨vs, q, _⟩ := h3; rw [q]; simp
      | dct lk t kvs => obtain ⟨u, _, q⟩ := h3; exact q.some
      | ins C fs => obtain ⟨dx, fv, q, _⟩ := h3; rw [q]; simp
      | frl xs => obtain ⟨od, vs, q, _⟩ := h3; rw [q]; simp
    · rw [List.getElem?_eq_none (by simpa using hj)] at hi; cases hi
  · rw [List.getElem?_set_ne eij] at hi
    obtain ⟨b, h1, h2, h3⟩ := h.ob i o hi
    have hba : b ≠ a := fun z => eij (ha i (.inl (by rw [← z]; exact h2))).symm
    have hbn : W.H b ≠ none := by
      cases o with
      | lst xs => obtain ⟨vs, q, _⟩ := h3; rw [q]; simp
      | dct lk t kvs => obtain ⟨u, _, q⟩ := h3; exact q.some
      | ins C fs => obtain ⟨dx, fv, q, _⟩ := h3; rw [q]; simp
      | frl xs => obtain ⟨od, vs, q, _⟩ := h3; rw [q]; simp
    refine ⟨b, by rw [hr]; exact h1, (e.role b hbn).trans h2, ?_⟩
    cases o with
    | lst xs =>
      obtain ⟨vs, q, z⟩ := h3
      exact ⟨vs, (hk b i hba hbn).trans q, Reps.ext e _ _ z⟩
    | dct lk t kvs =>
      obtain ⟨u, q, z⟩ := h3
      exact ⟨u, q.ext e, z.same (hk b i hba hbn)⟩
    | ins C fs =>
      obtain ⟨dx, fv, q, z, k⟩ := h3
      refine ⟨dx, fv, (hk b i hba hbn).trans q, FldsRep.but e (fun c f g hc => hk c i (fun z => ?_) hc) _ _ z, k⟩
      exact eij (ha i (.inr ⟨f, by rw [← z]; exact g⟩)).symm
    | frl xs =>
      obtain ⟨od, vs, q, z⟩ := h3
      exact ⟨od, vs, (hk b i hba hbn).trans q, Reps.ext e _ _ z⟩
theorem RAll.wr {ob' : Ob} (A : RAll kt B W σ env G) (hp : B.p = false) (h : W.H a = some o0) (hw : okW o0 = true) (hw' : okW o = true) (ha : W.Γ a = .obj j ∨ ∃ f, W.Γ a = .fld j f) (hb : ∀ b, W.ρ[j]? = some b → ObRep kt (W.wr a o) j b ob') :
    RAll kt B (W.wr a o) σ env (G.set j ob') := by
  have hs : (W.Γ a).still = false := by rcases ha with ha | ⟨f, ha⟩ <;> rw [ha] <;> rfl
  have e : Ext false W (W.wr a o) := Ext.wr hs h hw
  refine ⟨⟨fun b hb' => ?_, RG.wr A.ok.rg e rfl (fun b i hba hbn => upd_ne hba) (fun i hi => ?_) hb, ?_, fun b ps q => ?_⟩, A.re.ext e, ?_, fun z b u x q => ?_⟩
  · exact e.there b (A.ok.tr b hb')
  · rcases ha with ha | ⟨f, ha⟩ <;> rcases hi with hi | ⟨f', hi⟩ <;> rw [ha] at hi <;> cases hi <;> rfl
  · refine tabs_but A.ok.tabs fun b u q k => (upd_ne (fun z => ?_)).trans q
    rw [z, h] at q; cases q
    rcases k with ⟨_, k⟩ | ⟨_, k⟩ <;> rw [k] at hw <;> cases hw
  · have q : upd W.H a o b = some (.tbl ps) := q
    by_cases z : b = a
    · rw [z, upd_same] at q; cases q; cases hw'
    · rw [upd_ne z] at q; exact A.ok.tb b ps q
  · exact (A.si.trans e).mono fun z => by rw [hp] at z; cases z
  · have q : upd W.H a o b = some (.frz u x) := q
    by_cases k : b = a
    · rw [k, upd_same] at q; cases q; cases hw'
    · rw [upd_ne k] at q
      exact A.nl z b u x q
end
def dSetO (dv do_ di : DE) : DS := fun e G => sb e (dv e G) fun v G1 => sb e (do_ e G1) fun x G2 => sb e (di e G2) fun y G3 => match x, y with
  | .ref j, .int k => match G3[j]? with
    | some (.lst xs) => match ixN xs.length k with
      | some n => .nx e (G3.set j (.lst (xs.set n v)))
      | none => .bad
    | _ => .bad
  | _, _ => .bad
section
variable {kt : Kt} {B : Bs} {X : Cx} {p pa pb pc : Bool} {m ma mb mc : Md} {a b e : Expr} {es : List Expr} {da db d dv : DE} {ds : DA} {pos pos' np : Pos}
theorem ss_setO (hp : B.p = false) (hv : SX kt B X pa .s e dv) (ho : SX kt B X pb .s a da) (hi : SX kt B X pc .s b db) (hs : swapsWithSole [.Subscript a b pos'] e pos.line X.env = pure false := by rfl) (hw : swappedStores [.Subscript a b pos'] e X.env = pure none := by rfl)
    (h1 : (assignEach [.Subscript a b pos'] X.env).map (·.2) = [assign (.Subscript a b pos') X.env] := by rfl)
    (ha : ∀ v, assign (.Subscript a b pos') X.env v = (do
      let ov ← holding [v] (eval a X.env)
      let iv ← holding [v, ov] (eval b X.env)
      standAt pos'
      holding [v, ov, iv] (setItem ov iv v)
      release [v, ov, iv] []) := by intro _; rfl) : SS kt B X (.Assign [.Subscript a b pos'] e pos) (dSetO dv da db) := fun Wish tk => by
  refine (ps_asg (hv Wish tk) (pg_sub (ho Wish tk) (hi Wish tk) set_list ha) hs hw h1).imp fun D σ H ⟨W, env, G, e, A, h⟩ => ?_
  subst e
  refine ⟨W, env, G, rfl, A, h.bindS.mono ?_⟩
  rintro v H1 ⟨W1, x, G1, rfl, e1, A1, z1, h1⟩
  refine ⟨W1, env, G1, rfl, A1, h1.bindS.mono ?_⟩
  rintro u H2 ⟨W2, y, G2, rfl, e2, A2, z2, h2⟩
  refine ⟨W2, env, G2, rfl, A2, h2.bindS.mono ?_⟩
  rintro w H3 ⟨W3, z, G3, rfl, e3, A3, z3, h3⟩
  split at h3
  · rename_i j k
    split at h3
    · rename_i xs eg
      split at h3
      · rename_i n en
        obtain ⟨a', rfl, ha'⟩ := (z2.ext (m := .s) e3 (.inr (fun z => by cases z))).ref
        obtain rfl := z3.int
        obtain ⟨a2, q1, q2, vs, q3, r⟩ := A3.ok.rg.ob _ _ eg
        rw [ha'] at q1; cases q1
        have rv : Rep kt.K W3 x v := (z1.strict.ext e2).ext e3
        refine ⟨a', vs, k, n, rfl, rfl, q3, by rw [← r.length]; exact en, ?_⟩
        have e4 : Ext false W3 (W3.wr a' (.lst (vs.set n v))) := Ext.wr (by rw [q2]; rfl) q3 rfl
        refine h3 (W3.wr a' (.lst (vs.set n v))) σ e4.toS (A3.wr hp q3 rfl rfl (.inl q2) fun b hb => ?_)
        rw [ha'] at hb; cases hb
        exact ⟨_, upd_same, (Reps.ext e4 _ _ r).set n (rv.ext e4)⟩
      · exact h3.elim
    · exact h3.elim
  · exact h3.elim
end

def dFld (f : Nat) (da : DE) : DE := fun env G => (da env G).bind fun x G1 => match x with
  | .ref i => match G1[i]? with
    | some (.ins _ fs) => match fs.lookup f with
      | some (.val y) => .ok y G1
      | _ => .bad
    | _ => .bad
  | _ => .bad
def putN (f : Nat) (x : Fv) : List (Nat × Fv) → List (Nat × Fv)
  | [] => [(f, x)]
  | (g, y) :: r => if g = f then (g, x) :: r else (g, y) :: putN f x r
def dSetF (C0 f : Nat) (dv do_ : DE) : DS := fun e G => sb e (dv e G) fun v G1 => sb e (do_ e G1) fun x G2 => match x with
  | .ref i => match G2[i]? with
    | some (.ins C fs) => if C = C0 ∧ fs.length < 1000 then .nx e (G2.set i (.ins C (putN f (.val v) fs))) else .bad
    | _ => .bad
  | _ => .bad
theorem names_inj {l : List Str} (h : l.Nodup) {i j : Nat} {x : Str} (hi : l[i]? = some x) (hj : l[j]? = some x) : i = j := nodup_ix h hi hj
section
variable {kt : Kt} {B : Bs} {X : Cx} {W : Wd} {i : Nat}
theorem FldsRep.lookup (hn : kt.names.Nodup) {f : Nat} {nm : Str} (ef : kt.names[f]? = some nm) : ∀ {fs : List (Nat × Fv)} {fv : List (Str × V)} {x : Fv}, FldsRep kt W i fs fv → fs.lookup f = some x → ∃ v, fv.lookup nm = some v ∧ FvRep kt.K W (.fld i f) x v
  | [], _, _, _, h => by cases h
  | (g, y) :: fs, fv, x, h, e => by
    obtain ⟨nm', v, r, h0, rfl, h1, h2⟩ := h
    rw [List.lookup_cons] at e
    by_cases c : f = g
    · subst c
      rw [h0] at ef; cases ef
      rw [beq_self_eq_true] at e
      cases e
      exact ⟨v, by rw [List.lookup_cons, beq_self_eq_true], h1⟩
    · rw [show (f == g) = false from beq_eq_false_iff_ne.mpr c] at e
      obtain ⟨w, q1, q2⟩ := FldsRep.lookup hn ef h2 e
      refine ⟨w, ?_, q2⟩
      rw [List.lookup_cons, show (nm == nm') = false from beq_eq_false_iff_ne.mpr fun z => c (names_inj hn ef (by rw [z]; exact h0))]
      exact q1
theorem FldsRep.noneS {m : Str} : ∀ {fs : List (Nat × Fv)} {fv : List (Str × V)}, FldsRep kt W i fs fv → (∀ f nm, f ∈ fs.map (·.1) → kt.names[f]? = some nm → nm ≠ m) → fv.lookup m = Option.none
  | [], _, h, _ => by cases h; rfl
  | (g, y) :: fs, fv, h, k => by
    obtain ⟨nm', v, r, h0, rfl, h1, h2⟩ := h
    rw [List.lookup_cons, show (m == nm') = false from beq_eq_false_iff_ne.mpr fun z => k g nm' (by simp) h0 z.symm]
    exact FldsRep.noneS h2 fun f nm hf => k f nm (by simp only [List.map_cons, List.mem_cons]; exact .inr hf)
theorem FldsRep.put (hn : kt.names.Nodup) {f : Nat} {nm : Str} (ef : kt.names[f]? = some nm) {x : Fv} {v : V} (hx : FvRep kt.K W (.fld i f) x v) : ∀ {fs : List (Nat × Fv)} {fv : List (Str × V)}, FldsRep kt W i fs fv → FldsRep kt W i (putN f x fs) (putF nm v fv)
  | [], _, h => by cases h; exact ⟨nm, v, [], ef, rfl, hx, rfl⟩
  | (g, y) :: fs, fv, h => by
    obtain ⟨nm', u, r, h0, rfl, h1, h2⟩ := h
    unfold putN putF
    by_cases c : g = f
    · subst c
      rw [h0] at ef; cases ef
      rw [if_pos rfl, if_pos rfl]
      exact ⟨_, v, r, h0, rfl, hx, h2⟩
    · rw [if_neg c, if_neg fun z => c (names_inj hn h0 (by rw [z]; exact ef))]
      exact ⟨nm', u, _, h0, rfl, h1, FldsRep.put hn ef hx h2⟩
theorem FldsRep.length : ∀ {fs : List (Nat × Fv)} {fv : List (Str × V)}, FldsRep kt W i fs fv → fs.length = fv.length
  | [], _, h => by cases h; rfl
  | (g, y) :: fs, fv, h => by
    obtain ⟨nm', u, r, h0, rfl, h1, h2⟩ := h
    simp [FldsRep.length h2]
theorem putN_mem {f : Nat} {x : Fv} {g : Nat} : ∀ {fs : List (Nat × Fv)}, g ∈ (putN f x fs).map (·.1) → g = f ∨ g ∈ fs.map (·.1)
  | [], h => by simp [putN] at h; exact .inl h
  | (k, y) :: fs, h => by
    unfold putN at h
    split at h
    · exact .inr h
    · simp only [List.map_cons, List.mem_cons] at h ⊢
      rcases h with h | h
      · exact .inr (.inl h)
      · rcases putN_mem h with h | h
        · exact .inl h
        · exact .inr (.inr h)
theorem FldsOk.put {C f : Nat} {nm : Str} {x : Fv} {fs : List (Nat × Fv)} (h : FldsOk kt C fs) (ef : kt.names[f]? = some nm) (hn : NoAttr kt.K (kt.cls C) nm) : FldsOk kt C (putN f x fs) := by
  refine ⟨h.1, fun g nm' hg eg => ?_⟩
  rcases putN_mem hg with e | hg
  · subst e
    rw [ef] at eg; cases eg; exact hn
  · exact h.2 g nm' hg eg
theorem lookup_mem {f : Nat} {x : Fv} : ∀ {fs : List (Nat × Fv)}, fs.lookup f = some x → f ∈ fs.map (·.1)
  | [], h => by cases h
  | (g, y) :: fs, h => by
    rw [List.lookup_cons] at h
    by_cases c : f = g
    · subst c; simp
    · rw [show (f == g) = false from beq_eq_false_iff_ne.mpr c] at h
      simp only [List.map_cons, List.mem_cons]
      exact .inr (lookup_mem h)
variable {p pa pb pc : Bool} {m ma mb mc : Md} {a b e : Expr} {es : List Expr} {da db d dv : DE} {ds : DA} {pos pos' np tpos : Pos} {nm : Str}
theorem sx_fld (f : Nat) (hn : kt.names.Nodup) (ha : SX kt B X p .s a da) (ef : kt.names[f]? = some nm := by rfl) (hb : attributeBase a nm X.env (eval a X.env) = eval a X.env := by rfl) (hK : X.K = kt.K := by rfl) : SX kt B X p .s (.Attribute a nm pos) (dFld f da) := fun Wish tk => by
  refine (pe_fld (ha Wish tk) hb).imp fun σ H Q ⟨W, env, G, e, A, h⟩ => ?_
  subst e
  refine ⟨W, env, G, rfl, A, h.bindL.mono ?_⟩
  rintro v H1 ⟨W1, x, G1, rfl, e1, A1, z1, h1⟩
  cases x with
  | ref i =>
    dsimp only at h1
    split at h1
    · rename_i C fs eg
      split at h1
      · rename_i y ey
        obtain ⟨a', rfl, ha'⟩ := z1.ref
        obtain ⟨a2, q1, q2, dx, fv, q3, r, k⟩ := A1.ok.rg.ob _ _ eg
        rw [ha'] at q1; cases q1
        obtain ⟨v, l, fr⟩ := r.lookup hn ef ey
        rw [hK]
        exact ⟨a', kt.cls C, dx, fv, v, rfl, q3, k.1, k.2 f nm (lookup_mem ey) ef, l, h1 W1 v Ext.refl A1 (.inl fr)⟩
      · exact h1.elim
    · exact h1.elim
  | _ => exact h1.elim
theorem ss_setF (C0 f : Nat) (hn : kt.names.Nodup) (hp : B.p = false) (no : NoAttr kt.K (kt.cls C0) nm) (hv : SX kt B X pa .s e dv) (ho : SX kt B X pb .s a da)
    (ef : kt.names[f]? = some nm := by rfl) (hs : swapsWith e (some (.Attribute a nm pos')) pos.line X.env = pure false := by rfl) (hK : X.K = kt.K := by rfl) : SS kt B X (.Assign [.Attribute a nm pos'] e pos) (dSetF C0 f dv da) := fun Wish tk => by
  refine (ps_fld (ho Wish tk) (hv Wish tk) hs).imp fun D σ H ⟨W, env, G, e, A, h⟩ => ?_
  subst e
  refine ⟨W, env, G, rfl, A, h.bindS.mono ?_⟩
  rintro v H1 ⟨W1, x, G1, rfl, e1, A1, z1, h1⟩
  refine ⟨W1, env, G1, rfl, A1, h1.bindS.mono ?_⟩
  rintro u H2 ⟨W2, y, G2, rfl, e2, A2, z2, h2⟩
  cases y with
  | ref i =>
    dsimp only at h2
    split at h2
    · rename_i C fs eg
      split at h2
      · rename_i hl
        obtain ⟨rfl, hl⟩ := hl
        obtain ⟨a', rfl, ha'⟩ := z2.ref
        obtain ⟨a2, q1, q2, dx, fv, q3, r, k⟩ := A2.ok.rg.ob _ _ eg
        rw [ha'] at q1; cases q1
        rw [hK]
        refine ⟨a', kt.cls C, dx, fv, rfl, q3, k.1, no, by rw [← r.length]; exact hl, ?_⟩
        have e4 : Ext false W2 (W2.wr a' (.ins (kt.cls C) dx (putF nm v fv))) := Ext.wr (by rw [q2]; rfl) q3 rfl
        refine h2 (W2.wr a' (.ins (kt.cls C) dx (putF nm v fv))) σ e4.toS (A2.wr hp q3 rfl rfl (.inl q2) fun b hb => ?_)
        rw [ha'] at hb; cases hb
        refine ⟨dx, _, upd_same, FldsRep.put hn ef (x := .val x) (Rep.ext e4 _ _ (z1.strict.ext e2)) (FldsRep.but e4 (fun b f g _ => upd_ne fun z => ?_) _ _ r), k.put ef no⟩
        rw [z, q2] at g; cases g
      · exact h2.elim
    · exact h2.elim
  | _ => exact h2.elim
end
end CardH
end
section
set_option maxHeartbeats 2000000
namespace CardH
open PySem PySem.Spec PyProof.Rows L2

abbrev FT := List Vl → Gst → CardH.R Vl
def spD (kt : Kt) (n : Nat) (Φ : FT) : Sp := fun vs H Q E => ∃ W G xs, W.H = H ∧ WOk kt W G ∧ NoLock W ∧ Reps kt.K W xs vs ∧ xs.length = n ∧ (match Φ xs G with
  | .bad => False
  | .ok x G' => ∀ W' v, Ext false W W' → WOk kt W' G' → NoLock W' → Rep kt.K W' x v → Q v W'.H
  | .exn c G' => ∀ W' od, Ext false W W' → WOk kt W' G' → NoLock W' → ExOk c od W'.H → E (kt.exc c.cls) od W'.H)
structure DFn (P : Program) (w : World) (base : Heap) (kt : Kt) (k : Nat) (f : Addr) (n : Nat) (Φ : FT) : Prop where
  ex : ∃ fd ps, FnOk P w kt.K kt.mg base (L2.CX P w) k f fd ps (spD kt n Φ) ∧ Binds kt.K fd ps [] ∧ ps.length = n
  kp : PySem.W.keepIn kt.K (.ref f) = true
theorem DFn.mono {P : Program} {w : World} {base : Heap} {kt : Kt} {j k : Nat} {f : Addr} {n : Nat} {Φ : FT} (F : DFn P w base kt j f n Φ) (h : j ≤ k) : DFn P w base kt k f n Φ := by
  obtain ⟨⟨fd, ps, F, b, l⟩, kp⟩ := F
  exact ⟨⟨fd, ps, F.mono h, b, l⟩, kp⟩
def Fle (n : Nat) (Ψ Φ : FT) : Prop := ∀ xs G, xs.length = n → Ψ xs G ≠ .bad → Φ xs G = Ψ xs G
theorem DFn.imp {P : Program} {w : World} {base : Heap} {kt : Kt} {k : Nat} {f : Addr} {n : Nat} {Φ Ψ : FT} (F : DFn P w base kt k f n Φ) (h : Fle n Ψ Φ) : DFn P w base kt k f n Ψ := by
  obtain ⟨⟨fd, ps, F, b, l⟩, kp⟩ := F
  refine ⟨⟨fd, ps, F.imp fun vs H Q E ⟨W, G, xs, e, ok, nl, r, hl, q⟩ => ⟨W, G, xs, e, ok, nl, r, hl, ?_⟩, b, l⟩, kp⟩
  have e := h xs G hl
  cases eq : Ψ xs G with
  | bad => rw [eq] at q; exact q.elim
  | ok x G' => rw [e (by rw [eq]; exact fun z => nomatch z), eq]; rw [eq] at q; exact q
  | exn c G' => rw [e (by rw [eq]; exact fun z => nomatch z), eq]; rw [eq] at q; exact q
def startE (n : Nat) (xs : List Vl) : LEnv := xs.map (fun x => some (.val x)) ++ List.replicate (n - xs.length) none
def runF (n : Nat) (d : DS) : FT := fun xs G => match d (startE n xs) G with
  | .nx _ G' => .ok .non G'
  | .rt v G' => .ok v G'
  | .ex c _ G' => .exn c G'
  | _ => .bad
section
variable {P : Program} {w : World} {base : Heap} {kt : Kt}
theorem start_re {W : Wd} {xs : List Vl} {vs : List V} {N : List Str} (r : Reps kt.K W xs vs) (H0 : Hp) : RE kt H0 W (L2.start N vs) (startE N.length xs) := by
  have hl := r.length
  refine ⟨by simp [L2.start, startE, hl], fun i fv hi => ?_⟩
  unfold startE at hi
  by_cases h : i < xs.length
  · rw [List.getElem?_append_left (by simpa using h), List.getElem?_map] at hi
    cases e : xs[i]? with
    | none => rw [e] at hi; cases hi
    | some x =>
      rw [e] at hi; cases hi
      obtain ⟨v, h1, h2⟩ := r.get e
      refine ⟨v, ?_, h2, fun z => nomatch z⟩
      unfold L2.start
      rw [List.getElem?_append_left (by rw [List.length_map, ← hl]; exact h), List.getElem?_map, h1]; rfl
  · rw [List.getElem?_append_right (by simpa using h), List.getElem?_replicate] at hi
    split at hi <;> cases hi
theorem DFn.of {x qual : Str} {st : Stmt} {f : Addr} {fd : FuncData} {N ps : List Str} {k : Nat} (F : Fun kt.K x qual st f fd) (S : FnScope N ps (defScope st)) (hb : Binds kt.K fd ps []) (d : DS)
    (hbody : ∀ (cdv : Value) (A : Around) (outer : List Env) (s : Shared) (H : Hp) (E : XK) (W0 : Wd), Room k (A.deeper (envOfC qual (defScope st) s.heap.objs.size f cdv)) →
      SSs kt ⟨W0, false, false⟩ (cxOf (L2.CX P w) P w kt.K kt.mg base N qual (defScope st) f cdv A outer s H E) (defBody st) d) : DFn P w base kt (k + 1) f ps.length (runF N.length d) := by
  refine ⟨⟨fd, ps, F.okX S (fun vs H Q E ⟨W, G, xs, e, ok, nl, r, hl, q⟩ => by rw [← r.length]; exact hl) fun cdv A outer s H vs Q E hr ⟨W, G, xs, e, ok, nl, r, hl, q⟩ => ?_, hb, rfl⟩, F.kp⟩
  subst e
  have tk : Takes (cxOf (L2.CX P w) P w kt.K kt.mg base N qual (defScope st) f cdv A outer s W.H E) (fun cls d _ H => E cls d H) := takes_of rfl rfl rfl rfl
  refine ⟨_, hbody cdv A outer s W.H E W hr _ tk, W, startE N.length xs, G, rfl, ⟨ok, start_re r _, Ext.refl, fun _ => nl⟩, ?_⟩
  unfold runF at q
  cases e : d (startE N.length xs) G with
  | bad => rw [e] at q; exact q
  | nx e' G' => rw [e] at q; exact fun W' σ _ A => q W' .non A.si A.ok (A.nl rfl) rfl
  | bk e' G' => rw [e] at q; exact q.elim
  | ct e' G' => rw [e] at q; exact q.elim
  | rt v G' => rw [e] at q; exact fun W' w _ A r => q W' w A.si A.ok (A.nl rfl) r
  | ex c e' G' => rw [e] at q; exact fun W' σ od _ A z => q W' od A.si A.ok (A.nl rfl) z
end

def dCall (n : Nat) (Φ : FT) (ds : DA) : DE := fun env G => (ds env G).bind fun xs G1 => if xs.length = n then Φ xs G1 else .bad
def dMeth (C n : Nat) (Φ : FT) (do_ : DE) (ds : DA) : DE := fun env G => (do_ env G).bind fun x G1 => match x with
  | .ref i => match G1[i]? with
    | some (.ins C' _) => if C' = C then (ds env G1).bind fun xs G2 => if xs.length + 1 = n then Φ (x :: xs) G2 else .bad else .bad
    | _ => .bad
  | _ => .bad
def dMake (C n : Nat) (Φ : FT) (ds : DA) : DE := fun env G => (ds env G).bind fun xs G1 => if xs.length + 1 = n then (Φ (.ref G1.length :: xs) (G1 ++ [.ins C []])).bind fun r G2 => match r with
    | .non => .ok (.ref G1.length) G2
    | _ => .bad
  else .bad
theorem sp_of {kt : Kt} {B : Bs} {σ : L2.St} {env : LEnv} {W : Wd} {G : Gst} {Wish : WX} {n : Nat} {Φ : FT} {xs : List Vl} {vs : List V} {Q : VK} (hlk : B.lk = false) (hp : B.p = false) (A : RAll kt B W σ env G) (r : Reps kt.K W xs vs) (hl : xs.length = n)
    (h : PoX kt B false σ env W Wish (fun W x v => Pk kt.K W .s x v) (Φ xs G) Q) : spD kt n Φ vs W.H Q (fun cls d H => Wish cls d σ H) := by
  refine ⟨W, G, xs, rfl, A.ok, A.nl hlk, r, hl, ?_⟩
  cases e : Φ xs G with
  | bad => rw [e] at h; exact h
  | ok x G' =>
    rw [e] at h
    exact fun W' v ee ok nl rr => h W' v ee ⟨ok, A.re.ext ee, (A.si.trans ee).mono (fun z => by rw [hp] at z; cases z), fun _ => nl⟩ (.inl rr)
  | exn c G' =>
    rw [e] at h
    exact fun W' od ee ok nl z => h W' od ee ⟨ok, A.re.ext ee, (A.si.trans ee).mono (fun z => by rw [hp] at z; cases z), fun _ => nl⟩ z
theorem PoX.fls {kt : Kt} {B : Bs} {p : Bool} {α β : Type} {Z : Wd → α → β → Prop} {σ : L2.St} {env : LEnv} {W : Wd} {Wish : WX} {r : CardH.R α} {Q : β → Hp → Prop} (h : PoX kt B false σ env W Wish Z r Q) : PoX kt B p σ env W Wish Z r Q := h.weakP fun z => nomatch z
section
variable {kt : Kt} {B : Bs} {X : Cx} {p pa pb : Bool} {a e : Expr} {es : List Expr} {da : DE} {ds : DA} {pos np apos : Pos} {x m : Str} {k n : Nat} {f : Addr} {Φ : FT}
theorem sx_call (F : DFn X.prog X.w X.base kt k f n Φ) (hr : Room k X.A) (hf : kt.mg x = some (.ref f)) (hlk : B.lk = false) (hp : B.p = false) (ha : SAm kt B X p .s (e :: es) ds) (hg : Gl X x := by rfl) (hK : X.K = kt.K := by rfl) (hmg : X.mg = kt.mg := by rfl)
    (hdb : (x == ("__debug__" : Str)) = false := by decide) (he : starEach (e :: es) X.env = (false, eval e X.env) :: starEach es X.env := by rfl) (hpl : (backTo pos (starEach es X.env)).any (·.1) = false := by rfl) :
    SX kt B X false .s (.Call (.Name x np) (e :: es) [] pos) (dCall n Φ ds) := fun Wish tk => by
  obtain ⟨⟨fd, ps, F, b, l⟩, kp⟩ := F
  rw [← hK, ← hmg] at F
  rw [← hK] at b kp
  rw [← hmg] at hf
  refine (pe_callS (E := WE Wish) F hr hg hf kp b (passAt tk) (ha Wish tk) hdb he hpl).imp fun σ H Q ⟨W, env, G, e, A, h⟩ => ?_
  subst e
  refine ⟨W, env, G, rfl, A, (PoX.bindE (q := false) h.fls).mono ?_⟩
  rintro vs H1 ⟨W1, xs, G1, rfl, e1, A1, z1, h1⟩
  split at h1
  · exact sp_of hlk hp A1 z1.strict ‹_› h1
  · exact h1.elim
theorem meth_none {W : Wd} {G : Gst} {i : Nat} {C : Nat} {fs : List (Nat × Fv)} {fv : List (Str × V)} (r : FldsRep kt W i fs fv) (ok : FldsOk kt C fs) (hm : Meth kt.K (kt.cls C) m f) : fv.lookup m = none :=
  FldsRep.noneS r fun g nm hg eg e => by
    have := ok.2 g nm hg eg
    rw [e] at this
    have h2 := hm.at_
    unfold NoAttr at this
    rw [this] at h2
    cases h2
theorem meth_at {W : Wd} {G : Gst} {σ : L2.St} {env : LEnv} {v : V} {i C : Nat} {fs : List (Nat × Fv)} (A : RAll kt B W σ env G) (z : Pk kt.K W .s (.ref i) v) (eg : G[i]? = some (.ins C fs)) (hm : Meth kt.K (kt.cls C) m f) :
    ∃ a dx fv, v = .ref a ∧ W.H a = some (.ins (kt.cls C) dx fv) ∧ Cls kt.K (kt.cls C) ∧ fv.lookup m = none := by
  obtain ⟨a', rfl, ha'⟩ := z.ref
  obtain ⟨a2, q1, q2, dx, fv, q3, r, k⟩ := A.ok.rg.ob _ _ eg
  rw [ha'] at q1; cases q1
  exact ⟨a', dx, fv, rfl, q3, k.1, meth_none (G := G) r k hm⟩
theorem sx_meth {pl : Sem Bool} (C : Nat) (hm : Meth kt.K (kt.cls C) m f) (F : DFn X.prog X.w X.base kt k f n Φ) (hr : Room k X.A) (hlk : B.lk = false) (hp : B.p = false) (ho : SX kt B X pa .s a da) (ha : SAm kt B X p .s (e :: es) ds) (hK : X.K = kt.K := by rfl) (hmg : X.mg = kt.mg := by rfl)
    (hst : starEach (e :: es) X.env = (false, eval e X.env) :: starEach es X.env := by rfl) (hpl : (backTo pos (starEach es X.env)).any (·.1) = false := by rfl)
    (ht : eval (.Call (.Attribute a m apos) (e :: es) [] pos) X.env = (do
      let ov ← eval a X.env
      standAt apos.atName
      let (f, first) ← holding [ov] (getMethod ov m pl)
      callWith pos f first (backTo pos (starEach (e :: es) X.env)) (backToKw pos (keywordEach [] X.env))) := by rfl) :
    SX kt B X false .s (.Call (.Attribute a m apos) (e :: es) [] pos) (dMeth C n Φ da ds) := fun Wish tk => by
  obtain ⟨⟨fd, ps, F, b, l⟩, kp⟩ := F
  rw [← hK, ← hmg] at F
  rw [← hK] at b kp
  refine ⟨fun pins s σ H Q I ⟨W, env, G, e, A, h⟩ => ?_⟩
  subst e
  refine PySem.W.methodCall_KW (pl := pl) (thn ((ho Wish tk).run pins s σ _ _ I ⟨W, env, G, rfl, A, (PoX.bindE (q := false) h.fls).mono fun v H1 q => q⟩) fun u s1 ⟨v, H1, I1, ru, W1, x, G1, e1, ee, A1, z1, h1⟩ => ?_) ht
  subst e1
  split at h1
  case h_2 => exact h1.elim
  rename_i i
  split at h1
  case h_2 => exact h1.elim
  rename_i C' fs eg
  split at h1
  case isFalse => exact h1.elim
  rename_i eC
  subst eC
  obtain ⟨a', dx, fv, rfl, q3, c, ln⟩ := meth_at A1 z1 eg hm
  obtain rfl : u = Value.ref a' := ru
  rw [← hK] at c hm
  refine getmeth_ok I1 q3 c hm ln ?_
  refine PySem.W.callWith_K (first := [.ref a']) (h₀ := X.base) I.ok.mod.kin hm.kp (thn ((ha Wish tk).run pos pins s1 σ _ _ I1 ⟨W1, env, G1, rfl, A1, (PoX.bindE (q := false) h1.fls).mono fun v H1 q => q⟩) fun us s2 ⟨vs, H2, I2, r, W2, xs, G2, e2, ee2, A2, z2, h2⟩ => ⟨I2.kIn, ?_⟩) hst hpl
  subst e2
  split at h2
  · exact run_fnS (us := .ref a' :: us) (vs := .ref a' :: vs) (E := WE Wish) F hr b (passAt tk σ) I2 (.cons rfl r)
      (sp_of hlk hp A2 (xs := .ref i :: xs) ⟨_, _, rfl, (z1.ext (m := .s) ee2 (.inr (by simp))).strict, z2.strict⟩ ‹_› h2)
  · exact h2.elim
theorem sx_meth0 {pl : Sem Bool} (C : Nat) (hm : Meth kt.K (kt.cls C) m f) (F : DFn X.prog X.w X.base kt k f n Φ) (hr : Room k X.A) (hlk : B.lk = false) (hp : B.p = false) (ho : SX kt B X pa .s a da) (hK : X.K = kt.K := by rfl) (hmg : X.mg = kt.mg := by rfl)
    (ht : eval (.Call (.Attribute a m apos) [] [] pos) X.env = (do
      let ov ← eval a X.env
      standAt apos.atName
      let (f, first) ← holding [ov] (getMethod ov m pl)
      callWith pos f first (backTo pos (starEach [] X.env)) (backToKw pos (keywordEach [] X.env))) := by rfl) :
    SX kt B X false .s (.Call (.Attribute a m apos) [] [] pos) (dMeth C n Φ da daNil) := fun Wish tk => by
  obtain ⟨⟨fd, ps, F, b, l⟩, kp⟩ := F
  rw [← hK, ← hmg] at F
  rw [← hK] at b kp
  refine ⟨fun pins s σ H Q I ⟨W, env, G, e, A, h⟩ => ?_⟩
  subst e
  refine PySem.W.methodCall_KW (pl := pl) (thn ((ho Wish tk).run pins s σ _ _ I ⟨W, env, G, rfl, A, (PoX.bindE (q := false) h.fls).mono fun v H1 q => q⟩) fun u s1 ⟨v, H1, I1, ru, W1, x, G1, e1, ee, A1, z1, h1⟩ => ?_) ht
  subst e1
  split at h1
  case h_2 => exact h1.elim
  rename_i i
  split at h1
  case h_2 => exact h1.elim
  rename_i C' fs eg
  split at h1
  case isFalse => exact h1.elim
  rename_i eC
  subst eC
  obtain ⟨a', dx, fv, rfl, q3, c, ln⟩ := meth_at A1 z1 eg hm
  obtain rfl : u = Value.ref a' := ru
  rw [← hK] at c hm
  have h1 : PoX kt B false σ env W1 Wish (fun W x v => Pk kt.K W .s x v) (if ([] : List Vl).length + 1 = n then Φ [.ref i] G1 else .bad) Q := h1
  split at h1
  · refine getmeth_ok I1 q3 c hm ln ?_
    exact PySem.W.callWith_K0 (first := [.ref a']) I1.kIn hm.kp (run_fnS (us := [.ref a']) (vs := [.ref a']) (E := WE Wish) F hr b (passAt tk σ) I1 (.cons rfl .nil)
      (sp_of hlk hp A1 (xs := [.ref i]) ⟨_, _, rfl, z1.strict, rfl⟩ ‹_› h1))
  · exact h1.elim
def Wd.mk1 (W : Wd) (x dx C : Addr) (n : Nat) : Wd := ⟨fun a => if a = x then .obj n else W.Γ a, W.ρ ++ [x], upd (upd W.H dx (.own x)) x (.ins C dx [])⟩
theorem RAll.mk1 {W : Wd} {σ : L2.St} {env : LEnv} {G : Gst} {y dx : Addr} {C : Nat} (A : RAll kt B W σ env G) (hy : W.H y = none) (hd : W.H dx = none) (hne : dx ≠ y) (c : Cls kt.K (kt.cls C)) :
    Ext true W (W.mk1 y dx (kt.cls C) G.length) ∧ RAll kt B (W.mk1 y dx (kt.cls C) G.length) σ env (G ++ [.ins C []]) := by
  have e : Ext true W (W.mk1 y dx (kt.cls C) G.length) := by
    have nb : ∀ b, W.H b ≠ none → (upd (upd W.H dx (.own y)) y (.ins (kt.cls C) dx [])) b = W.H b := fun b hb => by
      rw [upd_ne (fun z => hb (by rw [z]; exact hy)), upd_ne (fun z => hb (by rw [z]; exact hd))]
    exact ⟨fun b hb => if_neg fun z => hb (by rw [z]; exact hy), fun b o hb _ _ => (nb b (by rw [hb]; simp)).trans hb, fun b xs hb => (nb b (by rw [hb]; simp)).trans hb, fun b o u hb => (nb b (by rw [hb]; simp)).trans hb, fun b hb => by
      show (upd (upd W.H dx (.own y)) y (.ins (kt.cls C) dx [])) b ≠ none
      rw [nb b hb]; exact hb, [y], rfl⟩
  have hy2 : (W.mk1 y dx (kt.cls C) G.length).H y = some (.ins (kt.cls C) dx []) := upd_same
  refine ⟨e, ⟨fun b hb => ?_, ⟨?_, fun i o hi => ?_⟩, ?_, fun b ps q => ?_⟩, A.re.ext e, (A.si.trans e).mono fun z => by rw [z]; rfl, fun z b u o q => ?_⟩
  · show (upd (upd W.H dx (.own y)) y (.ins (kt.cls C) dx [])) b ≠ none
    by_cases k : b = y
    · rw [k, upd_same]; simp
    · rw [upd_ne k]
      by_cases k2 : b = dx
      · rw [k2, upd_same]; simp
      · rw [upd_ne k2]
        refine A.ok.tr b fun w => hb ?_
        show (if b = y then _ else W.Γ b) = _
        rw [if_neg k]; exact w
  · simp [Wd.mk1, A.ok.rg.len]
  · by_cases hl : i < G.length
    · rw [List.getElem?_append_left hl] at hi
      obtain ⟨b, h1, h2, h3⟩ := A.ok.rg.ob i o hi
      have hbn : W.H b ≠ none := by
        cases o with
        | lst xs => obtain ⟨vs, q, _⟩ := h3; rw [q]; simp
        | dct lk t kvs => obtain ⟨u, _, q⟩ := h3; exact q.some
        | ins C fs => obtain ⟨dx, fv, q, _⟩ := h3; rw [q]; simp
        | frl xs => obtain ⟨od, vs, q, _⟩ := h3; rw [q]; simp
      refine ⟨b, e.toR.ref h1, (e.role b hbn).trans h2, ?_⟩
      cases o with
      | lst xs =>
        obtain ⟨vs, q, z⟩ := h3
        exact ⟨vs, e.keep b _ q (fun _ z => nomatch z) (.inl rfl), Reps.ext e _ _ z⟩
      | dct lk t kvs =>
        obtain ⟨u, q, z⟩ := h3
        exact ⟨u, q.ext e, z.keep e.toR rfl q.plain⟩
      | ins C fs =>
        obtain ⟨dx, fv, q, z, k⟩ := h3
        exact ⟨dx, fv, e.keep b _ q (fun _ z => nomatch z) (.inl rfl), FldsRep.extR e.toR rfl rfl (fun _ => rfl) _ _ z, k⟩
      | frl xs =>
        obtain ⟨od, vs, q, z⟩ := h3
        exact ⟨od, vs, e.frz b _ _ q, Reps.ext e _ _ z⟩
    · have hil : i = G.length := by
        have := (List.getElem?_eq_some_iff.mp hi).1
        rw [List.length_append, List.length_singleton] at this
        omega
      subst hil
      rw [List.getElem?_append_right (Nat.le_refl _)] at hi
      simp only [Nat.sub_self, List.getElem?_cons_zero, Option.some.injEq] at hi
      subst hi
      refine ⟨y, ?_, if_pos rfl, dx, [], hy2, rfl, c, fun f nm hf => nomatch hf⟩
      show (W.ρ ++ [y])[G.length]? = some y
      rw [← A.ok.rg.len, List.getElem?_append_right (Nat.le_refl _)]; simp
  · exact tabsN_upd (tabsN_upd A.ok.tabs hd) ((upd_ne (Ne.symm hne)).trans hy)
  · have q : (upd (upd W.H dx (.own y)) y (.ins (kt.cls C) dx [])) b = some (.tbl ps) := q
    by_cases k : b = y
    · rw [k, upd_same] at q; cases q
    · rw [upd_ne k] at q
      by_cases k2 : b = dx
      · rw [k2, upd_same] at q; cases q
      · rw [upd_ne k2] at q; exact A.ok.tb b ps q
  · have q : (upd (upd W.H dx (.own y)) y (.ins (kt.cls C) dx [])) b = some (.frz u o) := q
    by_cases k : b = y
    · rw [k, upd_same] at q; cases q
    · rw [upd_ne k] at q
      by_cases k2 : b = dx
      · rw [k2, upd_same] at q; cases q
      · rw [upd_ne k2] at q
        have g : (W.mk1 y dx (kt.cls C) G.length).Γ b = W.Γ b := if_neg k
        rw [g]
        exact A.nl z b u o q
theorem run_makeS {pins : List (Addr × Obj)} {σ : L2.St} {H : Hp} {s : Shared} {Q : VK} {us : List Value} {vs : List V} {C : Addr} {fd : FuncData} {ps : List Str} {sp : Sp} {E : XK} (M : Mk X.K C f) (F : FnOk X.prog X.w X.K X.mg X.base (L2.CX X.prog X.w) k f fd ps sp) (hr : Room (k + 1) X.A) (hb : Binds X.K fd ps [])
    (hx : ∀ (H : Hp) (s : Shared) (e : Value) (s' : Shared), Inv X pins σ H s → L2.CX X.prog X.w X.stack H s E e s' → X.xe e s') (I : Inv X pins σ H s) (r : Vals vs us)
    (h : ∀ x dx, H x = none → H dx = none → dx ≠ x → sp (.ref x :: vs) (upd (upd H dx (.own x)) x (.ins C dx [])) (fun v H2 => v = .non ∧ Q (.ref x) H2) E) :
    wpAny (model X.prog X.w) X.A (call (.ref C) us) (EP X pins σ Q) X.xe s := by
  have hq := h (s.heap.objs.size + 1) s.heap.objs.size (I.hok.fresh (Nat.le_succ _)) (I.hok.fresh (Nat.le_refl _)) (Nat.ne_of_lt (Nat.lt_succ_self _))
  have I2 := Inv.made (C := C) I
  have r2 : Vals (V.ref (s.heap.objs.size + 1) :: vs) (Value.ref (s.heap.objs.size + 1) :: us) := .cons rfl r
  have hl : (Value.ref (s.heap.objs.size + 1) :: us).length = ps.length := by
    have e := r2.length
    rw [F.len _ _ _ _ hq] at e
    exact e.symm
  have b := hb _ (Value.ref (s.heap.objs.size + 1) :: us) I2.kIn (by rw [List.append_nil]; exact hl)
  rw [List.append_nil] at b
  refine wpAny_call (make_map (f := f) I.kIn M.makes M.init (beq_iff_eq.mp M.fn) (codeAny_mono (F.run _ X.stack _ _ ⟨Value.ref (s.heap.objs.size + 1) :: us, []⟩ (Value.ref (s.heap.objs.size + 1) :: us) _ _ E (hr.make C us [])
    (I2.env0.make C us []) b r2 hq) fun r s' hq' => ?_))
  cases r with
  | error e => exact hx _ _ e s' I2 hq'
  | ok fl =>
    cases fl with
    | ret u =>
      obtain ⟨v, H', I3, rv, ev, q3⟩ := I2.after hq'
      subst ev
      exact ⟨rv, ⟨V.ref (s.heap.objs.size + 1), H', I3, rfl, q3⟩⟩
    | next => exact False.elim hq'
    | brk => exact False.elim hq'
    | cont => exact False.elim hq'
theorem mk_of' {W : Wd} {σ : L2.St} {env : LEnv} {G : Gst} {Wish : WX} {C : Nat} {xs : List Vl} {vs : List V} {Q : VK} (hlk : B.lk = false) (hp : B.p = false) (c : Cls kt.K (kt.cls C)) (A : RAll kt B W σ env G) (r : Reps kt.K W xs vs) (hl : xs.length + 1 = n)
    (h : PoX kt B false σ env W Wish (fun W x v => Pk kt.K W .s x v) ((Φ (.ref G.length :: xs) (G ++ [.ins C []])).bind fun r G2 => match r with
    | .non => .ok (.ref G.length) G2
    | _ => .bad) Q) : ∀ x dx, W.H x = none → W.H dx = none → dx ≠ x → spD kt n Φ (.ref x :: vs) (upd (upd W.H dx (.own x)) x (.ins (kt.cls C) dx [])) (fun v H2 => v = .non ∧ Q (.ref x) H2) (fun cls d H => Wish cls d σ H) := by
  intro x dx hx hd hne
  obtain ⟨e1, A1⟩ := A.mk1 (C := C) hx hd hne c
  have rx : (W.mk1 x dx (kt.cls C) G.length).ρ[G.length]? = some x := by
    show (W.ρ ++ [x])[G.length]? = some x
    rw [← A.ok.rg.len, List.getElem?_append_right (Nat.le_refl _)]; simp
  refine sp_of hlk hp (Wish := Wish) (Q := fun v H2 => v = .non ∧ Q (.ref x) H2) A1 (xs := .ref G.length :: xs) ⟨_, _, rfl, ⟨x, rfl, rx⟩, Reps.ext e1 _ _ r⟩ hl ?_
  refine ((PoX.shift (p := true) (q := false) (show PoX kt B (true && false) _ _ _ _ _ _ _ from h) e1).bindL).mono ?_
  rintro v H1 ⟨W1, y, G1, rfl, e2, A2, z, h1⟩
  cases y with
  | non => exact ⟨z.non, h1 W1 (.ref x) Ext.refl A2 (.inl ⟨x, rfl, e2.toR.ref rx⟩)⟩
  | _ => exact h1.elim
theorem sx_make (C : Nat) (M : Mk kt.K (kt.cls C) f) (c : Cls kt.K (kt.cls C)) (F : DFn X.prog X.w X.base kt k f n Φ) (hr : Room (k + 1) X.A) (hf : kt.mg x = some (.ref (kt.cls C))) (hlk : B.lk = false) (hp : B.p = false) (ha : SAm kt B X p .s (e :: es) ds) (hg : Gl X x := by rfl) (hK : X.K = kt.K := by rfl) (hmg : X.mg = kt.mg := by rfl)
    (hdb : (x == ("__debug__" : Str)) = false := by decide) (he : starEach (e :: es) X.env = (false, eval e X.env) :: starEach es X.env := by rfl) (hpl : (backTo pos (starEach es X.env)).any (·.1) = false := by rfl) :
    SX kt B X false .s (.Call (.Name x np) (e :: es) [] pos) (dMake C n Φ ds) := fun Wish tk => by
  obtain ⟨⟨fd, ps, F, b, l⟩, kp⟩ := F
  rw [← hK, ← hmg] at F
  rw [← hK] at b kp M
  rw [← hmg] at hf
  refine ⟨fun pins s σ H Q I ⟨W, env, G, e, A, h⟩ => ?_⟩
  subst e
  refine wpAny_Call_Name_kw (ld_glob I hg hf ?_ hdb)
  refine PySem.W.callWith_K (h₀ := X.base) I.ok.mod.kin M.kp (thn ((ha Wish tk).run pos pins s σ _ _ I ⟨W, env, G, rfl, A, (PoX.bindE (q := false) h.fls).mono fun v H1 q => q⟩) fun us s1 ⟨vs, H1, I1, r, W1, xs, G1, e1, ee, A1, z1, h1⟩ => ⟨I1.kIn, ?_⟩) he hpl
  subst e1
  split at h1
  · exact run_makeS M F hr b (fun H s e s' => passAt tk σ pins H s e s') I1 r (mk_of' hlk hp c A1 z1.strict ‹_› h1)
  · exact h1.elim
theorem sx_make0 (C : Nat) (M : Mk kt.K (kt.cls C) f) (c : Cls kt.K (kt.cls C)) (F : DFn X.prog X.w X.base kt k f n Φ) (hr : Room (k + 1) X.A) (hf : kt.mg x = some (.ref (kt.cls C))) (hlk : B.lk = false) (hp : B.p = false) (hg : Gl X x := by rfl) (hK : X.K = kt.K := by rfl) (hmg : X.mg = kt.mg := by rfl)
    (hdb : (x == ("__debug__" : Str)) = false := by decide) : SX kt B X false .s (.Call (.Name x np) [] [] pos) (dMake C n Φ daNil) := fun Wish tk => by
  obtain ⟨⟨fd, ps, F, b, l⟩, kp⟩ := F
  rw [← hK, ← hmg] at F
  rw [← hK] at b kp M
  rw [← hmg] at hf
  refine ⟨fun pins s σ H Q I ⟨W, env, G, e, A, h⟩ => ?_⟩
  subst e
  refine wpAny_Call_Name_kw (ld_glob I hg hf ?_ hdb)
  have h : PoX kt B false σ env W Wish (fun W x v => Pk kt.K W .s x v) (if ([] : List Vl).length + 1 = n then (Φ (.ref G.length :: []) (G ++ [.ins C []])).bind (fun r G2 => match r with
    | .non => .ok (.ref G.length) G2
    | _ => .bad) else .bad) Q := h
  split at h
  · exact PySem.W.callWith_K0 I.kIn M.kp (run_makeS M F hr b (fun H s e s' => passAt tk σ pins H s e s') I .nil (mk_of' hlk hp c A (xs := []) rfl ‹_› h))
  · exact h.elim
end
end CardH
end
section
set_option maxHeartbeats 2000000
namespace CardH
open PySem PySem.Spec PyProof.Rows L2 LamX

structure Grown (T : List (Addr × Str)) (H H1 : Hp) : Prop where
  ext : ExtN H H1
  tabs : Tabs T H1
  there : ∀ b, H b ≠ none → H1 b ≠ none
  tb : ∀ b ps, H b = some (.tbl ps) → ∃ ps', H1 b = some (.tbl ps')
section
variable {X : Cx} {pins : List (Addr × Obj)} {σ : L2.St} {H : Hp} {s : Shared}
end
def tabsOf (Tl : List (Addr × Str)) : List NdefX.NTab := Tl.map fun p => (p.1, fun _ _ => p.2)
theorem tabs_to {Tl : List (Addr × Str)} {H : Hp} (h : NdefX.TabsN (tabsOf Tl) H) : Tabs Tl H := fun p hp => NdefX.TabN.to (h (p.1, fun _ _ => p.2) (List.mem_map.mpr ⟨p, hp, rfl⟩))
theorem tabs_back {Tl : List (Addr × Str)} {H : Hp} (h : Tabs Tl H) : NdefX.TabsN (tabsOf Tl) H := fun q hq => by
  obtain ⟨p, hp, rfl⟩ := List.mem_map.mp hq
  exact NdefX.TabN.of (h p hp)
theorem RAll.grown {kt : Kt} {B : Bs} {W : Wd} {σ : L2.St} {env : LEnv} {G : Gst} {Tl : List (Addr × Str)} {H1 : Hp} (hT : kt.T = tabsOf Tl) (A : RAll kt B W σ env G) (g : Grown Tl W.H H1) : Ext true W ⟨W.Γ, W.ρ, H1⟩ ∧ RAll kt B ⟨W.Γ, W.ρ, H1⟩ σ env G := by
  have e : Ext true W ⟨W.Γ, W.ρ, H1⟩ := ⟨fun _ _ => rfl, fun a o h nt _ => g.ext a o h nt, fun a xs h => g.ext a _ h (fun _ z => nomatch z), fun a o u h => g.ext a _ h (fun _ z => nomatch z), fun a h => g.there a h, [], by simp⟩
  refine ⟨e, ⟨fun a ha => g.there a (A.ok.tr a ha), A.ok.rg.ext e rfl, by rw [hT]; exact tabs_back g.tabs, fun b ps q => ?_⟩, A.re.ext e, (A.si.trans e).mono fun z => by rw [z]; rfl, fun z a o u q => ?_⟩
  · trivial
  · have q : H1 a = some (.frz o u) := q
    show (W.Γ a).lockable = true
    cases hW : W.H a with
    | none =>
      have : W.Γ a = .no := by
        cases hg : W.Γ a with
        | no => rfl
        | _ => exact absurd hW (A.ok.tr a (by rw [hg]; simp))
      rw [this]; rfl
    | some w =>
      by_cases hw : ∃ ps, w = .tbl ps
      · obtain ⟨ps, rfl⟩ := hw
        obtain ⟨ps2, q2⟩ := g.tb a ps hW
        rw [q] at q2; cases q2
      · have := g.ext a w hW fun ps z => hw ⟨ps, z⟩
        rw [q] at this; cases this
        exact A.nl z a o u hW
def dTold (tf : Ex → Option Str) (d : DE) : DE := fun env G => match d env G with
  | .ok v G1 => .ok v G1
  | .exn c G1 => match tf c with
    | some r => .ok (.str r) G1
    | none => .bad
  | .bad => .bad
structure ToldD (kt : Kt) (x a : Str) (g : Addr) (Ng : List Str) (sg : Scope) (body : List Stmt) (l : List (Addr × Str)) : Prop where
  ex : ∃ (oc : Value) (od : Option Addr) (pg : Arguments) (dV kV doc pm : Value) (an : Option Addr) (cdv ct : Value) (osl : Array (Option Value)), kt.K.lookup g = some ⟨oc, od, .func (PySem.W.fnOf x x pg body sg dV kV doc pm an cdv ct), osl⟩ ∧ PySem.W.codeIn kt.K cdv x = true ∧
    L2.Binds kt.K (PySem.W.fnOf x x pg body sg dV kV doc pm an cdv ct) [a] []
  kp : PySem.W.keepIn kt.K (.ref g) = true
  gl : kt.mg x = some (.ref g)
  sc : FnScope Ng [a] sg
  n0 : Ng[0]? = some a
  vis : Vis sg a
section
variable {kt : Kt} {B : Bs} {X : Cx} {p : Bool} {d : DE}
end
end CardH
end
section
set_option maxHeartbeats 2000000
namespace CardH
open PySem PySem.Spec PyProof.Rows L2

def isNon : Vl → Bool
  | .non => true
  | _ => false
def vIsN : Vl → Vl → Option Vl
  | x, .non => some (.bl (isNon x))
  | _, _ => none
section
variable {kt : Kt} {B : Bs} {X : Cx} {p pa pb : Bool} {m ma mb : Md} {a b e : Expr} {es : List Expr} {da db d : DE} {ds : DA} {pos np : Pos} {x : Str}
def listOf (G : Gst) (x : Vl) : Option (List Vl) := match seqOf G x with
  | some (false, ys) => some ys
  | _ => none
def iList1 (G : Gst) : List Vl → Option (List Int)
  | [x] => (listOf G x).bind intsOf
  | _ => none
def minI : List Int → Option Int
  | [] => none
  | x :: xs => some (xs.foldl min x)
def oMinI (G : Gst) (xs : List Vl) : Option Vl := ((iList1 G xs).bind minI).map .int
def tyNm : Vl → Option String
  | .non => some "NoneType"
  | .bl _ => some "bool"
  | .int _ => some "int"
  | .str _ => some "str"
  | .tup _ => some "tuple"
  | .stp _ => some "tuple"
  | .lst _ => some "list"
  | _ => none
def vIsi (T : String) (f : String → Option Bool) (x : Vl) : Option Vl := ((tyNm x).bind f).map .bl
theorem tyNm_r {K : PySem.W.Frag} {W : Wd} {y : Vl} {v : V} {n : String} (h : Pk K W .f y v) (e : tyNm y = some n) : TyX K W.H v (.type n) := by
  cases y with
  | non => cases e; obtain rfl := h.non; exact .base .non
  | bl b => cases e; obtain rfl := h.bl; exact .base (.bl b)
  | int i => cases e; obtain rfl := h.int; exact .base (.int i)
  | str z => cases e; obtain ⟨rfl, _⟩ := h.str; exact .base (.str z)
  | tup xs => cases e; obtain ⟨a, vs, o, rfl, _, g, _, _⟩ := h.tup'; exact .fTuple g
  | stp xs =>
    cases e
    obtain ⟨a, vs, rfl, g, _⟩ := h.val (fun _ z => nomatch z) fun _ _ z => nomatch z
    exact .base (.tup g)
  | lst xs => cases e; obtain ⟨a, vs, rfl, g, _⟩ := h.lst; exact .base (.lst g)
  | _ => cases e
theorem sx_isi (T : String) (f : String → Option Bool) {tn : Str} {p2 : Pos} (hf : ∀ n b, f n = some b → PySem.W.kitOne X.K (.type n) (.type T) = some b) (ha : SX kt B X p m a da) (hv : bootBuiltins tn = some (.type T)) (hg : Gl X "isinstance" := by rfl) (hm : X.mg "isinstance" = none := by rfl) (hgt : Gl X tn := by rfl) (hmt : X.mg tn = none := by rfl)
    (hb : bootBuiltins "isinstance" = some (.builtin "isinstance") := by kernel_rfl) (hn : tn ≠ "__name__" := by decide) (hd : (tn == ("__debug__" : Str)) = false := by decide) (hK : X.K = kt.K := by rfl)
    (he1 : starEach [a, .Name tn p2] X.env = (false, eval a X.env) :: starEach [.Name tn p2] X.env := by rfl) (he2 : starEach [.Name tn p2] X.env = (false, eval (.Name tn p2) X.env) :: starEach [] X.env := by rfl) (hpl : (backTo pos (starEach [.Name tn p2] X.env)).any (·.1) = false := by rfl) :
    SX kt B X p .s (.Call (.Name "isinstance" np) [a, .Name tn p2] [] pos) (dUn (vIsi T f) da) := fun Wish tk => by
  refine (pe_callB call_isi hg hm hb (pa_cons (ha Wish tk) (pa_cons (pe_bltn (v := .ty T) hgt hmt hv rfl hn hd) pa_nil he2) he1) (by decide) (by decide) he1 hpl).imp fun σ H Q ⟨W, env, G, e, A, h⟩ => ?_
  subst e
  refine ⟨W, env, G, rfl, A, h.bindL.mono ?_⟩
  rintro v H1 ⟨W1, y, G1, rfl, e1, A1, z1, h1⟩
  obtain ⟨z, ez, q⟩ := opsPo h1
  obtain ⟨b, e0, rfl⟩ := Option.map_eq_some_iff.mp ez
  obtain ⟨n, e2, e3⟩ := Option.bind_eq_some_iff.mp e0
  exact ⟨v, .ty T, .type n, .type T, b, rfl, .ty T, by rw [hK]; exact tyNm_r z1.any e2, hf n b e3, q W1 _ Ext.refl A1 rfl⟩

theorem RgC.one {i j : Int} (h : -(2 ^ 62) ≤ i ∧ i < 2 ^ 62 ∧ -(2 ^ 62) ≤ j ∧ j < 2 ^ 62) : RgC i j 1 (j - i).toNat := ⟨by decide, by decide, small_one h.1 h.2.1 h.2.2.1 h.2.2.2, rangeSize_nat i j⟩
end
end CardH
end
section
set_option maxHeartbeats 2000000
namespace CardH
open PySem PySem.Spec PyProof.Rows L2

def isSlot (i : Nat) : Role → Bool
  | .slot j => j == i
  | _ => false
section
variable {kt : Kt} {B : Bs} {W W0 : Wd} {σ : L2.St} {env : LEnv} {G : Gst} {a : Addr} {o o0 : HO} {i : Nat} {p : Bool}
theorem ExtR.slotWr (ha : W.Γ a = .slot i) (h : W.H a = some o0) (hw : okW o0 = true) : ExtR p (isSlot i) W (W.wr a o) where
  role := fun _ _ _ => rfl
  keep := fun b u hb _ hs _ => (upd_ne (fun e => by rw [e, ha] at hs; simp [isSlot] at hs)).trans hb
  tups := fun b xs hb => (upd_ne (fun e => by rw [e, h] at hb; cases hb; cases hw)).trans hb
  frz := fun b o u hb _ => (upd_ne (fun e => by rw [e, h] at hb; cases hb; cases hw)).trans hb
  there := fun b hb => by
    show upd W.H a o b ≠ none
    by_cases e : b = a
    · rw [e, upd_same]; simp
    · rw [upd_ne e]; exact hb
  pre := ⟨[], by simp [Wd.wr]⟩
theorem ExtR.toSl {S : Role → Bool} {W' : Wd} (hS : ∀ r, S r = true → isSl r = true) (e : ExtR p S W W') : ExtS W W' := by
  have hf : ∀ r, isSl r = false → S r = false := fun r h => by
    cases q : S r with
    | false => rfl
    | true => rw [hS r q] at h; cases h
  exact ⟨fun a h hs => e.role a h (hf _ hs), fun a o h nt hs hp => e.keep a o h nt (hf _ hs) (hp.imp (fun z => nomatch z) id), e.tups, fun a o u h hs => e.frz a o u h (hf _ hs), e.there, e.pre⟩
theorem isSlot_sl : ∀ r, isSlot i r = true → isSl r = true := fun r h => by cases r <;> first | rfl | cases h
theorem Ext.wr0 (e : Ext p W0 W) (h0 : W0.H a = none) (h : W.H a = some o0) (hw : okW o0 = true) : Ext p W0 (W.wr a o) where
  role := fun b hb => e.role b hb
  keep := fun b u hb nt hp => (upd_ne (ne_of_none hb h0)).trans (e.keep b u hb nt hp)
  tups := fun b zs hb => (upd_ne (ne_of_none hb h0)).trans (e.tups b zs hb)
  frz := fun b o u hb => (upd_ne (ne_of_none hb h0)).trans (e.frz b o u hb)
  there := fun b hb => by
    show upd W.H a o b ≠ none
    rw [upd_ne (fun z => hb (by rw [z]; exact h0))]; exact e.there b hb
  pre := e.pre
theorem RAll.slotWr {fv : Fv} (A : RAll kt B W σ env G) (ha : W.Γ a = .slot i) (h : W.H a = some o0) (hw : okW o0 = true) (hw' : okW o = true) (h0 : B.W0.H a = none) (hσ : σ[i]? = some (some (.ref a))) (hv : FvRep kt.K (W.wr a o) (.slot i) fv (.ref a)) :
    RAll kt B (W.wr a o) σ (env.set i (some fv)) G := by
  have e : ExtR true (isSlot i) W (W.wr a o) := ExtR.slotWr ha h hw
  have e2 : ExtR false (isSlot i) W (W.wr a o) := ExtR.slotWr ha h hw
  refine ⟨⟨fun b hb => e.there b (A.ok.tr b hb), A.ok.rg.extR e rfl rfl (fun _ => rfl) (fun _ _ => rfl) rfl, ?_, fun b ps q => ?_⟩, ⟨by rw [List.length_set]; exact A.re.len, fun j g hj => ?_⟩, A.si.wr0 h0 h hw, fun z b u x q => ?_⟩
  · refine tabs_but A.ok.tabs fun b u q k => (upd_ne (fun z => ?_)).trans q
    rw [z, h] at q; cases q
    rcases k with ⟨_, k⟩ | ⟨_, k⟩ <;> rw [k] at hw <;> cases hw
  · have q : upd W.H a o b = some (.tbl ps) := q
    by_cases z : b = a
    · rw [z, upd_same] at q; cases q; cases hw'
    · rw [upd_ne z] at q; exact A.ok.tb b ps q
  · by_cases eij : i = j
    · subst eij
      by_cases hi : i < env.length
      · rw [List.getElem?_set_self hi] at hj
        cases hj
        exact ⟨.ref a, hσ, hv, fun _ b z => by cases z; exact h0⟩
      · rw [List.getElem?_eq_none (by simpa using hi)] at hj; cases hj
    · rw [List.getElem?_set_ne eij] at hj
      obtain ⟨v, q1, q2, q3⟩ := A.re.sl j g hj
      exact ⟨v, q1, FvRep.extR e2 rfl rfl (by simp [isSlot]; exact Ne.symm eij) (.inr rfl) _ _ q2, q3⟩
  · have q : upd W.H a o b = some (.frz u x) := q
    by_cases k : b = a
    · rw [k, upd_same] at q; cases q; cases hw'
    · rw [upd_ne k] at q
      exact A.nl z b u x q
theorem RAll.ownD (A : RAll kt B W σ env G) (hp : W.H a = none) : RAll kt B (W.alloc a (.dK []) (.slot i)) (σ.set i (some (.ref a))) (env.set i (some (.od false []))) G := by
  have A1 := A.alloc (o := .dK []) (r := .slot i) hp rfl rfl
  exact ⟨A1.ok, A1.re.set (fv := .od false []) ⟨a, [], rfl, if_pos rfl, .inl upd_same, rfl⟩ fun _ b z => by cases z; exact A.fresh hp, A1.si, A1.nl⟩
end
def dOwnD (i : Nat) : DS := fun e G => .nx (e.set i (some (.od false []))) G
def dPutD (i : Nat) (dv dk : DE) : DS := fun e G => sb e (dv e G) fun v G1 => match e[i]? with
  | some (some (.od false kvs)) => sb e (dk e G1) fun k G2 => match keyOf k with
    | some q => if kvs.length < 16777216 then .nx (e.set i (some (.od false (dputF keyOf kvs k q v)))) G2 else .bad
    | none => .bad
  | _ => .bad
def frzE (i : Nat) (e : LEnv) : LEnv := match e[i]? with
  | some (some (.ol xs)) => e.set i (some (.val (.lst xs)))
  | _ => e
section
variable {kt : Kt} {B : Bs} {X : Cx} {p pa pb : Bool} {m ma mb : Md} {a b e : Expr} {es : List Expr} {da db d dv dk : DE} {ds : DA} {pos pos' np : Pos} {x : Str} {st : Stmt} {sts : List Stmt} {dst : DS}
theorem ss_ownD (i : Nat) {p2 : Pos} (hN : X.N.Nodup) (hi : X.N[i]? = some x := by rfl) (hx : Loc X.env.scope x := by first | exact Or.inl rfl | exact Or.inr rfl) (hs : swapsWith (.Dict [] [] p2) (some (.Name x pos')) pos.line X.env = pure false := by rfl)
    (hf : X.fn x = true ∨ X.env.scope.names.lookup x = some .local := by first | exact .inl rfl | exact .inr rfl) : SS kt B X (.Assign [.Name x pos'] (.Dict [] [] p2) pos) (dOwnD i) := fun Wish tk => (ps_set hN hi hx pe_dnewK hs hf).imp fun D σ H ⟨W, env, G, e, A, h⟩ => by
  subst e
  exact fun p hp => h (W.alloc p (.dK []) (.slot i)) _ (Ext.alloc hp).toS (A.ownD hp)
theorem ss_putD (i : Nat) {p3 : Pos} (hlk : B.lk = false) (hu : X.A.units + 1 < cLine) (hv : SX kt B X pa .s e dv) (hk : SX kt B X pb .s b dk) (hi : X.N[i]? = some x := by rfl) (hvis : Vis X.env.scope x := by first | exact Or.inl rfl | exact Or.inr (Or.inl rfl) | exact Or.inr (Or.inr rfl))
    (hd : (x == ("__debug__" : Str)) = false := by decide) (hcd : (x == ("__classdict__" : Str)) = false := by decide) (hs : swapsWithSole [.Subscript (.Name x p3) b pos'] e pos.line X.env = pure false := by rfl) (hw : swappedStores [.Subscript (.Name x p3) b pos'] e X.env = pure none := by rfl)
    (h1 : (assignEach [.Subscript (.Name x p3) b pos'] X.env).map (·.2) = [assign (.Subscript (.Name x p3) b pos') X.env] := by rfl)
    (ha : ∀ v, assign (.Subscript (.Name x p3) b pos') X.env v = (do
      let ov ← holding [v] (eval (.Name x p3) X.env)
      let iv ← holding [v, ov] (eval b X.env)
      standAt pos'
      holding [v, ov, iv] (setItem ov iv v)
      release [v, ov, iv] []) := by intro _; rfl) : SS kt B X (.Assign [.Subscript (.Name x p3) b pos'] e pos) (dPutD i dv dk) := fun Wish tk => by
  refine (ps_asg (hv Wish tk) (pg_sub (pe_var hi hvis hd hcd) (hk Wish tk) (set_dict hu) ha) hs hw h1).imp fun D σ H ⟨W, env, G, e, A, h⟩ => ?_
  subst e
  refine ⟨W, env, G, rfl, A, h.bindS.mono ?_⟩
  rintro v H1 ⟨W1, y, G1, rfl, e1, A1, z1, h1⟩
  split at h1
  case h_2 => exact h1.elim
  rename_i kvs ei
  obtain ⟨w, hσ, hfv, hown⟩ := A1.re.sl i _ ei
  obtain ⟨a', ks, rfl, ga, gr, gk⟩ := hfv
  refine ⟨.ref a', hσ, W1, env, G1, rfl, A1, h1.bindS.mono ?_⟩
  rintro k' H2 ⟨W2, kx, G2, rfl, e2, A2, z2, h2⟩
  split at h2
  case h_2 => exact h2.elim
  rename_i q eq
  split at h2
  case isFalse => exact h2.elim
  rename_i hl
  obtain ⟨w2, hσ2, hfv2, hown2⟩ := A2.re.sl i _ ei
  rw [hσ] at hσ2
  cases hσ2
  obtain ⟨a2, ks2, ea, ga2, gr2, gk2⟩ := hfv2
  cases ea
  have gH : W2.H a' = some (.dK ks2) := by
    rcases gr2 with g | ⟨o, g⟩
    · exact g
    · have := A2.nl hlk a' o _ g
      rw [ga2] at this; cases this
  have hl2 : ks2.length < sizeLine := by rw [← gk2.length, sizeLine_eq]; exact hl
  have rv : Rep kt.K W2 y v := Rep.ext e2 _ _ z1.strict
  have eX : ExtS W2 (W2.wr a' (.dK (putK ks2 q v))) := (ExtR.slotWr (p := true) ga2 gH rfl).toSl isSlot_sl
  refine ⟨a', _, rfl, .inl ⟨ks2, q, gH, keyOf_rep z2.strict eq, hl2, rfl⟩, ?_⟩
  refine h2 (W2.wr a' (.dK (putK ks2 q v))) σ eX (A2.slotWr ga2 gH rfl rfl (hown2 rfl a' rfl) hσ (fv := .od false _) ⟨a', _, rfl, ga2, .inl upd_same, ?_⟩)
  have eX2 : ExtR true (isSlot i) W2 (W2.wr a' (.dK (putK ks2 q v))) := ExtR.slotWr ga2 gH rfl
  exact RepK.of ((RepK.extR eX2 rfl rfl _ _ gk2).to.put ⟨eq, ok_rep z2.strict⟩ (Rep.extR eX2 rfl rfl _ _ rv))
theorem RAll.frz {W : Wd} {σ : L2.St} {env : LEnv} {G : Gst} (i : Nat) (A : RAll kt B W σ env G) : ∃ W', W'.H = W.H ∧ ExtS W W' ∧ RAll kt B W' σ (frzE i env) G := by
  unfold frzE
  split
  case h_2 => exact ⟨W, rfl, ExtR.refl, A⟩
  rename_i xs ei
  obtain ⟨w, hσ, ⟨a', us, rfl, ga, gH, gk⟩, hown⟩ := A.re.sl i _ ei
  have h0 := hown rfl a' rfl
  have e : ∀ p, ExtR p (isSlot i) W ⟨fun b => if b = a' then .froz else W.Γ b, W.ρ, W.H⟩ := fun p =>
    ⟨fun b _ hs => if_neg (fun z => by rw [z, ga] at hs; simp [isSlot] at hs), fun b o h _ _ _ => h, fun b xs h => h, fun _ _ _ h _ => h, fun b h => h, [], by simp⟩
  refine ⟨⟨fun b => if b = a' then .froz else W.Γ b, W.ρ, W.H⟩, rfl, (e true).toSl isSlot_sl, ⟨fun b hb => ?_, A.ok.rg.extR (e true) rfl rfl (fun _ => rfl) (fun _ _ => rfl) rfl, A.ok.tabs, fun b ps q => A.ok.tb b ps q⟩, ⟨by rw [List.length_set]; exact A.re.len, fun j g hj => ?_⟩, ?_, fun z b u x q => ?_⟩
  · by_cases k : b = a'
    · subst k
      show W.H b ≠ none
      rw [gH]; simp
    · refine A.ok.tr b fun w => hb ?_
      show (if b = a' then _ else W.Γ b) = _
      rw [if_neg k]; exact w
  · by_cases eij : i = j
    · subst eij
      by_cases hi : i < env.length
      · rw [List.getElem?_set_self hi] at hj
        cases hj
        exact ⟨.ref a', hσ, ⟨a', us, rfl, if_pos rfl, gH, Reps.extR (e true) rfl rfl _ _ gk⟩, fun z => nomatch z⟩
      · rw [List.getElem?_eq_none (by simpa using hi)] at hj; cases hj
    · rw [List.getElem?_set_ne eij] at hj
      obtain ⟨v, q1, q2, q3⟩ := A.re.sl j g hj
      exact ⟨v, q1, FvRep.extR (e false) rfl rfl (by simp [isSlot]; exact Ne.symm eij) (.inr rfl) _ _ q2, q3⟩
  · exact ⟨fun b hb => (if_neg (fun z => hb (by rw [z]; exact h0))).trans (A.si.role b hb), fun b o h nt hp => A.si.keep b o h nt hp, A.si.tups, A.si.frz, A.si.there, A.si.pre⟩
  · show (if b = a' then Role.froz else W.Γ b).lockable = true
    by_cases k : b = a'
    · rw [if_pos k]; rfl
    · rw [if_neg k]; exact A.nl z b u x q
end

def dRetO (ds : DA) : DS := fun e G => sb e (ds e G) fun xs G1 => if xs.length ≤ 16777216 then .rt (.ref G1.length) (G1 ++ [.lst xs]) else .bad
def Wd.mkL (W : Wd) (y : Addr) (n : Nat) (vs : List V) : Wd := ⟨fun a => if a = y then .obj n else W.Γ a, W.ρ ++ [y], upd W.H y (.lst vs)⟩
section
variable {kt : Kt} {B : Bs} {X : Cx} {p pa pb : Bool} {m ma mb : Md} {a b e : Expr} {es : List Expr} {da db d dv dk : DE} {ds : DA} {pos pos' np : Pos} {x : Str}
theorem RAll.mkL {W : Wd} {σ : L2.St} {env : LEnv} {G : Gst} {y : Addr} {xs : List Vl} {vs : List V} (A : RAll kt B W σ env G) (hy : W.H y = none) (r : Reps kt.K W xs vs) :
    Ext true W (W.mkL y G.length vs) ∧ RAll kt B (W.mkL y G.length vs) σ env (G ++ [.lst xs]) := by
  have e : Ext true W (W.mkL y G.length vs) := by
    have nb : ∀ b, W.H b ≠ none → upd W.H y (.lst vs) b = W.H b := fun b hb => upd_ne (fun z => hb (by rw [z]; exact hy))
    exact ⟨fun b hb => if_neg fun z => hb (by rw [z]; exact hy), fun b o hb _ _ => (nb b (by rw [hb]; simp)).trans hb, fun b xs hb => (nb b (by rw [hb]; simp)).trans hb, fun b o u hb => (nb b (by rw [hb]; simp)).trans hb, fun b hb => by
      show upd W.H y (.lst vs) b ≠ none
      rw [nb b hb]; exact hb, [y], rfl⟩
  refine ⟨e, ⟨fun b hb => ?_, ⟨?_, fun i o hi => ?_⟩, tabsN_upd A.ok.tabs hy, fun b ps q => ?_⟩, A.re.ext e, (A.si.trans e).mono fun z => by rw [z]; rfl, fun z b u o q => ?_⟩
  · show upd W.H y (.lst vs) b ≠ none
    by_cases k : b = y
    · rw [k, upd_same]; simp
    · rw [upd_ne k]
      refine A.ok.tr b fun w => hb ?_
      show (if b = y then _ else W.Γ b) = _
      rw [if_neg k]; exact w
  · simp [Wd.mkL, A.ok.rg.len]
  · by_cases hl : i < G.length
    · rw [List.getElem?_append_left hl] at hi
      obtain ⟨b, h1, h2, h3⟩ := (A.ok.rg.extR (G := G) (W' := ⟨(W.mkL y G.length vs).Γ, W.ρ, (W.mkL y G.length vs).H⟩) (S := fun _ => false) ⟨fun b hb _ => e.role b hb, fun b o hb nt _ hp => e.keep b o hb nt hp, e.tups, fun b o u h _ => e.frz b o u h, e.there, [], by simp⟩ rfl rfl (fun _ => rfl) (fun _ _ => rfl) rfl).ob i o hi
      have h3' : ObRep kt (W.mkL y G.length vs) i b o := by
        have ee : ExtR true (fun _ => false) ⟨(W.mkL y G.length vs).Γ, W.ρ, (W.mkL y G.length vs).H⟩ (W.mkL y G.length vs) := ⟨fun _ _ _ => rfl, fun _ _ h _ _ _ => h, fun _ _ h => h, fun _ _ _ h _ => h, fun _ h => h, [y], rfl⟩
        cases o with
        | lst zs => obtain ⟨us, q, z⟩ := h3; exact ⟨us, q, Reps.extR ee rfl rfl _ _ z⟩
        | dct lk t kvs => obtain ⟨u, q, z⟩ := h3; exact ⟨u, q.extR ee rfl rfl, z⟩
        | ins C fs => obtain ⟨dx, fv, q, z, k⟩ := h3; exact ⟨dx, fv, q, FldsRep.extR ee rfl rfl (fun _ => rfl) _ _ z, k⟩
        | frl zs => obtain ⟨od, us, q, z⟩ := h3; exact ⟨od, us, q, Reps.extR ee rfl rfl _ _ z⟩
      exact ⟨b, by show (W.ρ ++ [y])[i]? = some b; rw [List.getElem?_append_left (List.getElem?_eq_some_iff.mp h1).1]; exact h1, h2, h3'⟩
    · have hil : i = G.length := by
        have := (List.getElem?_eq_some_iff.mp hi).1
        rw [List.length_append, List.length_singleton] at this
        omega
      subst hil
      rw [List.getElem?_append_right (Nat.le_refl _)] at hi
      simp only [Nat.sub_self, List.getElem?_cons_zero, Option.some.injEq] at hi
      subst hi
      refine ⟨y, ?_, if_pos rfl, vs, upd_same, Reps.ext e _ _ r⟩
      show (W.ρ ++ [y])[G.length]? = some y
      rw [← A.ok.rg.len, List.getElem?_append_right (Nat.le_refl _)]; simp
  · have q : upd W.H y (.lst vs) b = some (.tbl ps) := q
    by_cases k : b = y
    · rw [k, upd_same] at q; cases q
    · rw [upd_ne k] at q; exact A.ok.tb b ps q
  · have q : upd W.H y (.lst vs) b = some (.frz u o) := q
    by_cases k : b = y
    · rw [k, upd_same] at q; cases q
    · rw [upd_ne k] at q
      have g : (W.mkL y G.length vs).Γ b = W.Γ b := if_neg k
      rw [g]
      exact A.nl z b u o q
theorem ss_retO {p2 : Pos} (h : SAm kt B X p .s es ds) : SS kt B X (.Return (some (.List es p2)) pos) (dRetO ds) := fun Wish tk => (ps_ret (pe_lst (h Wish tk))).imp fun D σ H ⟨W, env, G, e, A, h⟩ => by
  subst e
  refine ⟨W, env, G, rfl, A, h.bindS.mono ?_⟩
  rintro vs H1 ⟨W1, xs, G1, rfl, e1, A1, z1, h1⟩
  split at h1
  · refine ⟨by rw [← z1.strict.length, sizeLine_eq]; assumption, fun y hy => ?_⟩
    obtain ⟨e2, A2⟩ := A1.mkL hy z1.strict
    refine h1 (W1.mkL y G1.length vs) (.ref y) e2.toS A2.out ⟨y, rfl, ?_⟩
    show (W1.ρ ++ [y])[G1.length]? = some y
    rw [← A1.ok.rg.len, List.getElem?_append_right (Nat.le_refl _)]; simp
  · exact h1.elim

def dAug (i : Nat) (o : Vl → Vl → Option Vl) (dv : DE) : DS := fun e G => match e[i]? with
  | some (some (.val y)) => sb e (dv e G) fun v G1 => match o y v with
    | some z => .nx (e.set i (some (.val z))) G1
    | none => .bad
  | _ => .bad
end
end CardH
end
section
set_option maxHeartbeats 2000000
namespace CardH
open PySem PySem.Spec PyProof.Rows L2 LamX

def dPar (i j : Nat) (ds : DA) : DS := fun e G => sb e (ds e G) fun xs G1 => match xs with
  | [x, y] => .nx ((e.set i (some (.val x))).set j (some (.val y))) G1
  | _ => .bad
def dPar3 (i j l : Nat) (ds : DA) : DS := fun e G => sb e (ds e G) fun xs G1 => match xs with
  | [x, y, z] => .nx (((e.set i (some (.val x))).set j (some (.val y))).set l (some (.val z))) G1
  | _ => .bad
section
variable {kt : Kt} {B : Bs} {X : Cx} {p pa pb : Bool} {m ma mb : Md} {a b c e : Expr} {es : List Expr} {da db d dv dk : DE} {ds : DA} {pos pos' np : Pos} {x y z : Str}
end

section
variable {kt : Kt} {B : Bs} {X : Cx} {p pa pb : Bool} {m ma mb : Md} {a b c e : Expr} {es : List Expr} {da db d dv dk : DE} {ds : DA} {pos pos' np : Pos} {x y z : Str}
end

def vNeg : Vl → Option Vl
  | .int i => some (.int (-i))
  | _ => none
section
variable {kt : Kt} {B : Bs} {X : Cx} {p : Bool} {m : Md} {a : Expr} {da : DE} {pos : Pos}
end

section
variable {P : Program} {w : World} {base : Heap} {kt : Kt}
theorem DFn.ofD {x qual : Str} {params : Arguments} {body : List Stmt} {scope : Scope} {pp : Str × Option Str} {N ps : List Str} {k : Nat} (F : ∃ fd, FunD kt.K x qual params body scope [] [] (He.fAd kt.K pp) fd) (S : FnScope N ps scope)
    (hb : ∀ (dV kV doc pm : Value) (an : Option Addr) (cdv ct : Value) (us : List Value), us.length = ps.length → bindArgs (PySem.W.fnOf x qual params body scope .none kV doc pm an cdv ct) ⟨us, []⟩ = pure (ps.zip us)) (d : DS)
    (hbody : ∀ (A : Around) (outer : List Env) (s : Shared) (H : Hp) (E : XK) (W0 : Wd), Room k (A.deeper (envOfC qual scope s.heap.objs.size (He.fAd kt.K pp) (.ref (He.codeOf kt.K pp)))) →
      SSs kt ⟨W0, false, false⟩ (cxOf (L2.CX P w) P w kt.K kt.mg base N qual scope (He.fAd kt.K pp) (.ref (He.codeOf kt.K pp)) A outer s H E) body d) : DFn P w base kt (k + 1) (He.fAd kt.K pp) ps.length (runF N.length d) := by
  obtain ⟨fd, F⟩ := F
  obtain ⟨⟨oc, od, dV, kV, doc, pm, an, cdv, ct, osl, rfl, lk, hcd, hdv, hkw⟩, kp⟩ := F
  have hdV : dV = .none := by
    rcases hdv with ⟨_, e⟩ | ⟨e, _⟩
    · exact e
    · exact absurd rfl e
  subst hdV
  obtain ⟨c, rfl⟩ := He.codeIn_ref hcd
  have ec : He.codeOf kt.K pp = c := He.codeOf_eq lk rfl
  rw [ec] at hbody
  refine ⟨⟨_, ps, fn_of lk hcd S (fun vs H Q E ⟨W, G, xs, e, ok, nl, r, hl, q⟩ => by rw [← r.length]; exact hl) fun A outer s H vs Q E hr ⟨W, G, xs, e, ok, nl, r, hl, q⟩ => ?_, .all fun us hl => hb .none kV doc pm an (.ref c) ct us hl, rfl⟩, kp⟩
  subst e
  have tk : Takes (cxOf (L2.CX P w) P w kt.K kt.mg base N qual scope (He.fAd kt.K pp) (.ref c) A outer s W.H E) (fun cls d _ H => E cls d H) := takes_of rfl rfl rfl rfl
  refine ⟨_, hbody A outer s W.H E W hr _ tk, W, startE N.length xs, G, rfl, ⟨ok, start_re r _, Ext.refl, fun _ => nl⟩, ?_⟩
  unfold runF at q
  cases e : d (startE N.length xs) G with
  | bad => rw [e] at q; exact q
  | nx e' G' => rw [e] at q; exact fun W' σ _ A => q W' .non A.si A.ok (A.nl rfl) rfl
  | bk e' G' => rw [e] at q; exact q.elim
  | ct e' G' => rw [e] at q; exact q.elim
  | rt v G' => rw [e] at q; exact fun W' w _ A r => q W' w A.si A.ok (A.nl rfl) r
  | ex c e' G' => rw [e] at q; exact fun W' σ od _ A z => q W' od A.si A.ok (A.nl rfl) z
theorem room_hu {A : Around} {k : Nat} (hr : Room k A) : A.units + 64 < cLine ∧ A.units + 65 < cLine ∧ A.units + 1 < cLine := by
  have := hr.un
  exact ⟨by omega, by omega, by omega⟩
end
theorem passes_cx {P : Program} {w : World} {K : PySem.W.Frag} {mg : Str → Option Value} {base : Heap} {N : List Str} {qual : Str} {scope : Scope} {f : Addr} {cd : Value} {A : Around} {outer : List Env} {s : Shared} {H : Hp} {E : XK} :
    PassesOwn (model P w) (cxOf (L2.CX P w) P w K mg base N qual scope f cd A outer s H E).A (cxOf (L2.CX P w) P w K mg base N qual scope f cd A outer s H E).env (cxOf (L2.CX P w) P w K mg base N qual scope f cd A outer s H E).xe :=
  passes_of (X := cxOf (L2.CX P w) P w K mg base N qual scope f cd A outer s H E) (K := fun e s'' => L2.CX P w outer H s E e s'') (E₁ := fun e' s'' => L2.CX P w outer H s E e' s'') rfl
end CardH
end
section
set_option maxHeartbeats 2000000
namespace CardH
open PySem PySem.Spec PyProof.Rows L2 LamX

section
variable {kt : Kt} {B : Bs} {X : Cx} {p pa pb pc pi pt pe : Bool} {ma mb mc : Md} {a b c elt tg iter : Expr} {da db dc de : DE} {t u : DT} {pos spos py : Pos} {ifs : List Expr} {scope : Scope} {own : List (Str × Nat)} {sl : List Nat} {di : DI} {g : DG} {dt : DT}
end
end CardH
end
section
set_option maxHeartbeats 2000000
namespace CardH
open PySem PySem.Spec PyProof.Rows L2 LamX

section
variable {kt : Kt} {B : Bs} {X : Cx} {p : Bool} {e : Expr} {ds : DA} {pos np : Pos}
end
end CardH
end
section
set_option maxHeartbeats 2000000
namespace CardH
open PySem PySem.Spec PyProof.Rows L2 LamX GenW

def gEnv (X : Cx) (scope : Scope) (C : Addr) (code : Value) : Env := genEnv scope (cloFrom X.env.cells scope.names []) C code builtinsNs X.env
def gcx (X : Cx) (A : Around) (s : Shared) (H : Hp) (scope : Scope) (code : Value) (fp : List Addr) (pn : List (Addr × Obj)) : Cx where
  prog := X.prog
  w := X.w
  K := X.K
  mg := X.mg
  base := X.base
  A := A.deeper (gEnv X scope s.heap.objs.size code)
  N := X.N
  s_0 := s
  H_0 := H
  env := gEnv X scope s.heap.objs.size code
  outer := X.stack
  stack := gEnv X scope s.heap.objs.size code :: X.stack
  ex := fp
  fn := fun _ => false
  calm := true
  pn := pn
  xe := fun _ _ => False
section
variable {X : Cx} {pins : List (Addr × Obj)} {σ : L2.St} {H : Hp} {s : Shared}
end
section
variable {X : Cx} {pins : List (Addr × Obj)} {σ : L2.St} {H : Hp} {s : Shared}
end
structure GMoved (sl : List Addr) (s s' : Shared) : Prop where
  os : s'.os = s.os
  bare : AllBare s'.gens
  keep : ∀ b o, b ∉ sl → s.heap.get? b = some o → s'.heap.get? b = some o
theorem GMoved.trans {sl : List Addr} {a b c : Shared} (x : GMoved sl a b) (y : GMoved sl b c) : GMoved sl a c := ⟨y.os.trans x.os, y.bare, fun d o h e => y.keep d o h (x.keep d o h e)⟩
section
variable {α : Type} (step : α → V → Option (α ⊕ V)) (fin : α → V) (cp : α → List (Addr × Obj) → Prop) (sl : List Addr) (a g : Addr) (Fin : V → Shared → Prop)
end
section
variable {X : Cx} {A : Around} {s0 : Shared} {H0 : Hp} {scope : Scope} {code : Value} {fp : List Addr} {pn : List (Addr × Obj)} {tg iter elt : Expr} {ifs : List Expr} {pos : Pos} {J : It} {it : Addr} {tn : Nat → Heap → Prop} {g : TG} {tt : TT} {te : TE} {σ0 : L2.St} {vs : List Nat} {Q : VK}
  {α : Type} {step : α → V → Option (α ⊕ V)} {fin : α → V} {cp : α → List (Addr × Obj) → Prop} {sl : List Addr} {a gi : Addr} {Fin : V → Shared → Prop} {W : Nat → Nat → α → Hp → Prop}
end
end CardH
end
section
set_option maxHeartbeats 2000000
namespace CardH
open PySem PySem.Spec PyProof.Rows L2 LamX GenW

section
variable {X : Cx} {A : Around} {s0 : Shared} {H0 : Hp} {scope : Scope} {code : Value} {fp : List Addr} {pn : List (Addr × Obj)} {tg iter elt : Expr} {ifs : List Expr} {pos : Pos} {it : Addr} {tn : Nat → Heap → Prop}
end

section
variable {P : Program} {w : World} {A : Around} {α : Type} (step : α → V → Option (α ⊕ V)) (fin : α → V) (cp : α → List (Addr × Obj) → Prop) (sl : List Addr) (a g : Addr) (Fin : V → Shared → Prop)
end
section
variable {P : Program} {w : World} {A : Around} {a g : Addr} {Fin : V → Shared → Prop} {R : Result → Shared → Prop}
end
end CardH
end
section
set_option maxHeartbeats 2000000
namespace CardH
open PySem PySem.Spec PyProof.Rows L2 LamX GenW

section
variable {X : Cx} {pins : List (Addr × Obj)} {σ : L2.St} {H : Hp} {s : Shared} {scope : Scope} {tg iter elt : Expr} {ifs : List Expr} {gpos : Pos} {own : List (Str × Nat)} {wi : TI} {g : TG} {tt : TT} {te : TE} {k : Nat} {α : Type} {step : α → V → Option (α ⊕ V)} {fin : α → V} {acc0 : α}
variable {p pos : Pos}
end
section
variable {X : Cx} {scope : Scope} {tg iter elt : Expr} {ifs : List Expr} {gpos p pos : Pos} {own : List (Str × Nat)} {wi : TI} {g : TG} {tt : TT} {te : TE} {k : Nat}
structure GxOk (X : Cx) (T : List (Addr × Str)) (scope : Scope) (own : List (Str × Nat)) (k : Nat) (c P : Addr) : Prop where
  nd : X.N.Nodup
  tb : LamX.TabB X.base X.mg c P
  cd : X.env.code = .ref c
  mem : (P, X.env.qual ++ "<genexpr>") ∈ T
  uniq : ∀ p ∈ T, p.1 = P → p.2 = X.env.qual ++ "<genexpr>"
  co : scope.isCoroutine = false
  dot : scope.names.lookup (".0" : Str) = some NameKind.local
  ok : BlkOk X.N X.env.scope scope own
  nc : ∀ y ∈ scope.names, y.2 ≠ .cell
  room : Room (k + 3) X.A
section
variable {T : List (Addr × Str)} {c P : Addr} (O : GxOk X T scope own k c P) (hi : PI X tg iter wi)
    (hg : ∀ (A : Around) (s : Shared) (H : Hp) (code : Value) (fp : List Addr) (pn : List (Addr × Obj)), Room k (A.deeper (gEnv X scope s.heap.objs.size code)) → PG (gcx X A s H scope code fp pn) tg g)
    (ht : ∀ (A : Around) (s : Shared) (H : Hp) (code : Value) (fp : List Addr) (pn : List (Addr × Obj)), Room k (A.deeper (gEnv X scope s.heap.objs.size code)) → PTs (gcx X A s H scope code fp pn) ifs tt)
    (he : ∀ (A : Around) (s : Shared) (H : Hp) (code : Value) (fp : List Addr) (pn : List (Addr × Obj)), Room k (A.deeper (gEnv X scope s.heap.objs.size code)) → PE (gcx X A s H scope code fp pn) elt te)
    (hs : ∀ x, genFold iter X.env x = pure x)
    (hst : starEach [.GeneratorExp elt [⟨tg, iter, ifs, 0⟩] scope gpos] X.env = (false, eval (.GeneratorExp elt [⟨tg, iter, ifs, 0⟩] scope gpos) X.env) :: starEach [] X.env)
include O hi hg ht he hs hst
end
end
end CardH
end
section
set_option maxHeartbeats 2000000
namespace CardH
open PySem PySem.Spec PyProof.Rows L2 LamX GenW

section
variable {kt : Kt} {B : Bs} {X : Cx} {pi pt pe : Bool} {elt tg iter : Expr} {ifs : List Expr} {scope : Scope} {own : List (Str × Nat)} {pos gpos p : Pos} {sl : List Nat} {di : DI} {g : DG} {dt : DT} {de : DE} {k : Nat} {α : Type} {st : α → Vl → Option (α ⊕ Vl)} {step : α → V → Option (α ⊕ V)} {fn : α → Vl} {fin : α → V} {a0 : α}
end
end CardH
end
section
set_option maxHeartbeats 2000000
namespace CardH
open PySem PySem.Spec PyProof.Rows L2 LamX

section
variable {P : Program} {w : World} {base : Heap} {kt : Kt}
theorem fnOk_ofD {x qual : Str} {params : Arguments} {body : List Stmt} {scope : Scope} {pp : Str × Option Str} {N ps : List Str} {k : Nat} {fd : FuncData} (F : FunD kt.K x qual params body scope [] [] (He.fAd kt.K pp) fd) (S : FnScope N ps scope) (d : DS)
    (hbody : ∀ (A : Around) (outer : List Env) (s : Shared) (H : Hp) (E : XK) (W0 : Wd), Room k (A.deeper (envOfC qual scope s.heap.objs.size (He.fAd kt.K pp) (.ref (He.codeOf kt.K pp)))) →
      SSs kt ⟨W0, false, false⟩ (cxOf (L2.CX P w) P w kt.K kt.mg base N qual scope (He.fAd kt.K pp) (.ref (He.codeOf kt.K pp)) A outer s H E) body d) : FnOk P w kt.K kt.mg base (L2.CX P w) (k + 1) (He.fAd kt.K pp) fd ps (spD kt ps.length (runF N.length d)) := by
  obtain ⟨⟨oc, od, dV, kV, doc, pm, an, cdv, ct, osl, rfl, lk, hcd, hdv, hkw⟩, kp⟩ := F
  have hdV : dV = .none := by
    rcases hdv with ⟨_, e⟩ | ⟨e, _⟩
    · exact e
    · exact absurd rfl e
  subst hdV
  obtain ⟨c, rfl⟩ := He.codeIn_ref hcd
  have ec : He.codeOf kt.K pp = c := He.codeOf_eq lk rfl
  rw [ec] at hbody
  refine fn_of lk hcd S (fun vs H Q E ⟨W, G, xs, e, ok, nl, r, hl, q⟩ => by rw [← r.length]; exact hl) fun A outer s H vs Q E hr ⟨W, G, xs, e, ok, nl, r, hl, q⟩ => ?_
  subst e
  have tk : Takes (cxOf (L2.CX P w) P w kt.K kt.mg base N qual scope (He.fAd kt.K pp) (.ref c) A outer s W.H E) (fun cls d _ H => E cls d H) := takes_of rfl rfl rfl rfl
  refine ⟨_, hbody A outer s W.H E W hr _ tk, W, startE N.length xs, G, rfl, ⟨ok, start_re r _, Ext.refl, fun _ => nl⟩, ?_⟩
  unfold runF at q
  cases e : d (startE N.length xs) G with
  | bad => rw [e] at q; exact q
  | nx e' G' => rw [e] at q; exact fun W' σ _ A => q W' .non A.si A.ok (A.nl rfl) rfl
  | bk e' G' => rw [e] at q; exact q.elim
  | ct e' G' => rw [e] at q; exact q.elim
  | rt v G' => rw [e] at q; exact fun W' w _ A r => q W' w A.si A.ok (A.nl rfl) r
  | ex c e' G' => rw [e] at q; exact fun W' σ od _ A z => q W' od A.si A.ok (A.nl rfl) z
theorem sp_law {H : Hp} {a : Addr} {ns : List Int} {Φ : FT} {Tl : List (Addr × Str)} (hT : kt.T = tabsOf Tl) (h0 : ∀ p ∈ Tl, H p.1 = some (.tbl #[])) (hS : SqL kt.K H a (ns.map V.int)) (h : ∃ G', Φ [.scr ns] [] = .ok (.bl true) G') :
    spD kt 1 Φ [.ref a] H (fun v _ => v = .bl true) fun _ _ _ => False := by
  obtain ⟨G', h⟩ := h
  refine ⟨⟨fun _ => .no, [], H⟩, [], [.scr ns], rfl, ⟨fun a h => absurd rfl h, ⟨rfl, fun i o hi => by simp at hi⟩, ?_, fun _ _ _ => trivial⟩, fun a o u _ => rfl, ⟨.ref a, [], rfl, ⟨a, rfl, ?_⟩, rfl⟩, rfl, ?_⟩
  · rw [hT]
    intro q hq
    obtain ⟨p, hp, rfl⟩ := List.mem_map.mp hq
    exact NdefX.TabN.nil (h0 p hp)
  · rcases hS with z | ⟨o, its, n, h1, h2, h3, h4, h5, h6⟩
    · exact .inl ⟨rfl, z⟩
    · exact .inr ⟨o, its, n, h1, h2, h3, h4, h5, h6⟩
  · rw [h]
    exact fun W' v _ _ _ r => r
end
end CardH
end
section
set_option maxHeartbeats 2000000
namespace CardH
open PySem PySem.Spec PyProof.Rows L2

theorem vEq_int (i j : Int) : vEq (.int i) (.int j) = some (.bl (decide (i = j))) := by
  first | rfl | simp [vEq, py, PyData.eqv] | (unfold vEq; rfl)
theorem vNe_int (i j : Int) : vNe (.int i) (.int j) = some (.bl (!decide (i = j))) := by
  first | rfl | simp [vNe, py, PyData.eqv] | (unfold vNe; rfl)
theorem vFdiv_int (i j : Int) (h0 : 0 < j) (h1 : j < 4611686018427387904) : vFdiv (.int i) (.int j) = some (.int (i / j)) := by
  have h2 := sm62_of (i := j) (by omega)
  unfold vFdiv vInt
  simp [h0, h2]
theorem vMod_int (i j : Int) (h0 : 0 < j) : vMod (.int i) (.int j) = some (.int (i % j)) := by
  unfold vMod vInt
  simp [h0]
theorem vSub_int (i j : Int) : vSub (.int i) (.int j) = some (.int (i - j)) := rfl
theorem vAdd_int (i j : Int) : vAdd (.int i) (.int j) = some (.int (i + j)) := rfl
end CardH
end
section
set_option maxHeartbeats 2000000
namespace CardH
open PySem PySem.Spec PyProof.Rows L2

def Wp (r : SR) (P : SR → Prop) : Prop := P r
def sqK (b : DS) (P : SR → Prop) : SR → Prop
  | .nx e G => Wp (b e G) P
  | r => P r
def nxP (I : LEnv → Gst → Prop) : SR → Prop
  | .nx e G => I e G
  | .ct e G => I e G
  | _ => False
def rtP (v : Vl) (Q : Gst → Prop) : SR → Prop
  | .rt w G => w = v ∧ Q G
  | _ => False
theorem wp_seq {a b : DS} {e : LEnv} {G : Gst} {P : SR → Prop} (h : Wp (a e G) (sqK b P)) : Wp (dSeq a b e G) P := by
  unfold dSeq
  cases q : a e G <;> rw [q] at h <;> exact h
theorem wp_nxK {b : DS} {e : LEnv} {G : Gst} {P : SR → Prop} : Wp (.nx e G) (sqK b P) = Wp (b e G) P := rfl
theorem wp_rtK {b : DS} {v : Vl} {G : Gst} {P : SR → Prop} : Wp (.rt v G) (sqK b P) = Wp (.rt v G) P := rfl
theorem wp_ctK {b : DS} {e : LEnv} {G : Gst} {P : SR → Prop} : Wp (.ct e G) (sqK b P) = Wp (.ct e G) P := rfl
theorem wp_bkK {b : DS} {e : LEnv} {G : Gst} {P : SR → Prop} : Wp (.bk e G) (sqK b P) = Wp (.bk e G) P := rfl
theorem wp_exK {b : DS} {c : Ex} {e : LEnv} {G : Gst} {P : SR → Prop} : Wp (.ex c e G) (sqK b P) = Wp (.ex c e G) P := rfl
theorem wp_nxP {I : LEnv → Gst → Prop} {e : LEnv} {G : Gst} : Wp (.nx e G) (nxP I) = I e G := rfl
theorem wp_rtP {v w : Vl} {G : Gst} {Q : Gst → Prop} : Wp (.rt w G) (rtP v Q) = (w = v ∧ Q G) := rfl
theorem wp_ite {c : Prop} [Decidable c] {a b : SR} {P : SR → Prop} : Wp (if c then a else b) P = ((c → Wp a P) ∧ (¬ c → Wp b P)) := by
  by_cases h : c <;> simp [h]
theorem runF_rt {n : Nat} {D : DS} {xs : List Vl} {G : Gst} {v : Vl} {Q : Gst → Prop} (h : Wp (D (startE n xs) G) (rtP v Q)) : ∃ G', runF n D xs G = .ok v G' ∧ Q G' := by
  unfold runF
  cases q : D (startE n xs) G <;> rw [q] at h
  case rt w G' => obtain ⟨rfl, h⟩ := h; exact ⟨G', rfl, h⟩
  all_goals exact h.elim
theorem wp_for1 {i : Nat} {db : DS} {P : SR → Prop} {x : Vl} {e : LEnv} {G : Gst} (h : Wp (db (e.set i (some (.val x))) G) (nxP fun e G => Wp (.nx e G) P)) : Wp (forL (gSet i) db [x] e G) P :=
  by
    unfold forL gSet
    dsimp only
    cases q : db (e.set i (some (.val x))) G <;> rw [q] at h
    case nx e2 G2 => exact h
    case ct e2 G2 => exact h
    all_goals exact h.elim
def seqR (r : SR) (b : DS) : SR := (fun _ : Nat => match r with
  | .nx e G => b e G
  | r => r) hgt3
theorem dSeq_ev {a b : DS} {e : LEnv} {G : Gst} : dSeq a b e G = seqR (a e G) b := by
  unfold dSeq
  cases a e G <;> rfl
theorem seqR_nx {b : DS} {e : LEnv} {G : Gst} : seqR (.nx e G) b = b e G := rfl
theorem seqR_rt {b : DS} {v : Vl} {G : Gst} : seqR (.rt v G) b = .rt v G := rfl
theorem seqR_ct {b : DS} {e : LEnv} {G : Gst} : seqR (.ct e G) b = .ct e G := rfl
theorem seqR_bk {b : DS} {e : LEnv} {G : Gst} : seqR (.bk e G) b = .bk e G := rfl
theorem seqR_ex {b : DS} {c : Ex} {e : LEnv} {G : Gst} : seqR (.ex c e G) b = .ex c e G := rfl
theorem seqR_ite {c : Prop} [Decidable c] {a b : SR} {d : DS} : seqR (if c then a else b) d = if c then seqR a d else seqR b d := by
  by_cases h : c <;> simp [h]
def resR (r : SR) : R Vl := (fun _ : Nat => match r with
  | .nx _ G => .ok .non G
  | .rt v G => .ok v G
  | .ex c _ G => .exn c G
  | _ => .bad) hgt3
theorem runF_ev {n : Nat} {D : DS} {xs : List Vl} {G : Gst} : runF n D xs G = resR (D (startE n xs) G) := by
  unfold runF
  cases D (startE n xs) G <;> rfl
theorem resR_nx {e : LEnv} {G : Gst} : resR (.nx e G) = .ok .non G := rfl
theorem resR_rt {v : Vl} {G : Gst} : resR (.rt v G) = .ok v G := rfl
theorem resR_ex {c : Ex} {e : LEnv} {G : Gst} : resR (.ex c e G) = .exn c G := rfl
theorem resR_ite {c : Prop} [Decidable c] {a b : SR} : resR (if c then a else b) = if c then resR a else resR b := by
  by_cases h : c <;> simp [h]
section
variable {α β : Type}
theorem bind_ite {c : Prop} [Decidable c] {a b : R α} {f : α → Gst → R β} : R.bind (if c then a else b) f = if c then a.bind f else b.bind f := by
  by_cases h : c <;> simp [h]
theorem sb_ite {c : Prop} [Decidable c] {e : LEnv} {a b : R α} {f : α → Gst → SR} : sb e (if c then a else b) f = if c then sb e a f else sb e b f := by
  by_cases h : c <;> simp [h]
theorem opt_some {x : α} {G : Gst} : opt (some x) G = .ok x G := rfl
theorem opt_ite {c : Prop} [Decidable c] {a b : Option α} {G : Gst} : opt (if c then a else b) G = if c then opt a G else opt b G := by
  by_cases h : c <;> simp [h]
end
def tbK (v : Vl) (G : Gst) : R Bool := (fun _ : Nat => match v with
  | .bl b => .ok b G
  | _ => .bad) hgt3
theorem dTB_ev {d : DE} {e : LEnv} {G : Gst} : dTB d e G = (d e G).bind tbK := rfl
theorem tbK_bl {b : Bool} {G : Gst} : tbK (.bl b) G = .ok b G := rfl
theorem dIfS_ev {t : DT} {a b : DS} {e : LEnv} {G : Gst} : dIfS t a b e G = sb e (t e G) fun c G1 => if c = true then a e G1 else b e G1 := by
  unfold dIfS
  congr
  funext c G1
  cases c <;> rfl
def toldR (tf : Ex → Option Str) (r : R Vl) : R Vl := (fun _ : Nat => match r with
  | .ok v G1 => .ok v G1
  | .exn c G1 => match tf c with
    | some r => .ok (.str r) G1
    | none => .bad
  | .bad => .bad) hgt3
theorem dTold_ev {tf : Ex → Option Str} {d : DE} {e : LEnv} {G : Gst} : dTold tf d e G = toldR tf (d e G) := by
  unfold dTold toldR
  cases d e G <;> rfl
theorem toldR_ok {tf : Ex → Option Str} {v : Vl} {G : Gst} : toldR tf (.ok v G) = .ok v G := rfl
theorem toldR_exn {tf : Ex → Option Str} {c : Ex} {G : Gst} {r : Str} (h : tf c = some r) : toldR tf (.exn c G) = .ok (.str r) G := by
  unfold toldR
  dsimp only
  rw [h]
theorem toldR_ite {tf : Ex → Option Str} {c : Prop} [Decidable c] {a b : R Vl} : toldR tf (if c then a else b) = if c then toldR tf a else toldR tf b := by
  by_cases h : c <;> simp [h]
def chK (o' : Vl → Vl → Option Vl) (y : Vl) (dc : DE) (e : LEnv) : Vl → Gst → R Vl
  | .bl true, G2 => (dc e G2).bind fun z G3 => opt (o' y z) G3
  | .bl false, G2 => .ok (.bl false) G2
  | _, _ => .bad
theorem dChain_ev {o o' : Vl → Vl → Option Vl} {da db dc : DE} {e : LEnv} {G : Gst} : dChain o o' da db dc e G = (da e G).bind fun x G1 => (db e G1).bind fun y G2 => (opt (o x y) G2).bind (chK o' y dc e) := by
  unfold dChain
  congr
  funext x G1
  congr
  funext y G2
  cases o x y with
  | none => rfl
  | some z =>
    cases z with
    | bl b => cases b <;> rfl
    | _ => rfl
theorem chK_bl {o' : Vl → Vl → Option Vl} {y : Vl} {dc : DE} {e : LEnv} {b : Bool} {G : Gst} : chK o' y dc e (.bl b) G = if b = true then (dc e G).bind fun z G3 => opt (o' y z) G3 else .ok (.bl false) G := by
  cases b <;> rfl
def Gst.obj (G : Gst) (i : Nat) : Option Ob := G[i]?
section
variable {α : Type}
theorem cutL_to (xs : List α) (n : Nat) : cutL xs none (some (n : Int)) = xs.take n := by
  unfold cutL
  rw [HT.sIx_nat, HT.sIx_none]
  simp only [List.drop_zero, Nat.sub_zero]
  rcases Nat.le_total n xs.length with h | h
  · rw [Nat.min_eq_left h]
  · rw [Nat.min_eq_right h, List.take_of_length_le (Nat.le_refl _), List.take_of_length_le h]
theorem cutL_from (xs : List α) (n : Nat) : cutL xs (some (n : Int)) none = xs.drop n := by
  unfold cutL
  rw [HT.sIx_nat, HT.sIx_none]
  rcases Nat.le_total n xs.length with h | h
  · rw [Nat.min_eq_left h, List.take_of_length_le (by simp)]
  · rw [Nat.min_eq_right h, List.drop_of_length_le h]
    simp
theorem cutL_mid (xs : List α) (a b : Nat) : cutL xs (some (a : Int)) (some (b : Int)) = (xs.drop a).take (b - a) := by
  unfold cutL
  rw [HT.sIx_nat, HT.sIx_nat]
  rcases Nat.le_total a xs.length with h | h
  · rw [Nat.min_eq_left h]
    rcases Nat.le_total b xs.length with g | g
    · rw [Nat.min_eq_left g]
    · rw [Nat.min_eq_right g, List.take_of_length_le (by simp), List.take_of_length_le (by simp; omega)]
  · rw [Nat.min_eq_right h, List.drop_of_length_le h, List.drop_of_length_le (Nat.le_refl _)]
    simp
theorem cutL_toI (xs : List α) {i : Int} (h : 0 ≤ i) : cutL xs none (some i) = xs.take i.toNat := by
  obtain ⟨n, rfl⟩ : ∃ n : Nat, i = n := ⟨i.toNat, by omega⟩
  rw [cutL_to]; rfl
theorem cutL_fromI (xs : List α) {i : Int} (h : 0 ≤ i) : cutL xs (some i) none = xs.drop i.toNat := by
  obtain ⟨n, rfl⟩ : ∃ n : Nat, i = n := ⟨i.toNat, by omega⟩
  rw [cutL_from]; rfl
theorem cutL_midI (xs : List α) {i j : Int} (h : 0 ≤ i) (h' : 0 ≤ j) : cutL xs (some i) (some j) = (xs.drop i.toNat).take (j.toNat - i.toNat) := by
  obtain ⟨n, rfl⟩ : ∃ n : Nat, i = n := ⟨i.toNat, by omega⟩
  obtain ⟨m, rfl⟩ : ∃ m : Nat, j = m := ⟨j.toNat, by omega⟩
  rw [cutL_mid]; rfl
theorem cutL_all (xs : List α) : cutL xs none none = xs := by
  unfold cutL
  rw [HT.sIx_none, HT.sIx_none]
  simp
end
theorem isWhole_ite {xs : List Vl} {lo hi : Option Int} : (if isWhole xs.length lo hi = true then Vl.tup xs else Vl.tup (cutL xs lo hi)) = .tup (cutL xs lo hi) := by
  by_cases h : isWhole xs.length lo hi = true
  · rw [if_pos h]
    unfold isWhole at h
    simp only [Bool.and_eq_true, beq_iff_eq] at h
    unfold cutL
    rw [h.1, h.2]
    simp
  · rw [if_neg h]
theorem vSl_tup {G : Gst} {xs : List Vl} {lo hi : Option Int} : vSl G (.tup xs) lo hi = some (.tup (cutL xs lo hi)) := by
  exact congrArg some isWhole_ite
theorem vSl_lst {G : Gst} {xs : List Vl} {lo hi : Option Int} : vSl G (.lst xs) lo hi = some (.lst (cutL xs lo hi)) := rfl
section
variable {α : Type}
theorem atI_nat (xs : List α) (k : Nat) : atI xs (k : Int) = xs[k]? := by
  unfold atI ixN
  rw [if_pos (by omega)]
  by_cases h : k < xs.length
  · rw [if_pos (by omega)]; simp
  · rw [if_neg (by omega)]
    simp only [Option.bind_none]
    rw [List.getElem?_eq_none (by omega)]
end
theorem atI_int {α : Type} (xs : List α) {i : Int} (h : 0 ≤ i) : atI xs i = xs[i.toNat]? := by
  obtain ⟨n, rfl⟩ : ∃ n : Nat, i = n := ⟨i.toNat, by omega⟩
  rw [atI_nat]; rfl
theorem vIx_lst {G : Gst} {xs : List Vl} {k : Int} : vIx G (.lst xs) (.int k) = atI xs k := rfl
theorem vIx_tup {G : Gst} {xs : List Vl} {k : Int} : vIx G (.tup xs) (.int k) = atI xs k := rfl

mutual
def gd : Nat → Vl → Bool
  | _, .non => true
  | _, .bl _ => true
  | _, .int _ => true
  | _, .str _ => true
  | n + 1, .tup xs => gds n xs
  | n + 1, .ktp xs => gds n xs
  | n + 1, .stp xs => gds n xs
  | n + 1, .lst xs => gds n xs
  | _, _ => false
def gds : Nat → List Vl → Bool
  | _, [] => true
  | n, x :: xs => gd n x && gds n xs
end
mutual
theorem gd_py : ∀ (x : Vl) (n : Nat), gd n x = true → ∃ d, py x n = some d
  | .non, _, _ => ⟨_, rfl⟩
  | .bl _, _, _ => ⟨_, rfl⟩
  | .int _, _, _ => ⟨_, rfl⟩
  | .str _, _, _ => ⟨_, rfl⟩
  | .tup xs, n + 1, h => by obtain ⟨d, e⟩ := gds_pys xs n h; exact ⟨_, congrArg (Option.map _) e⟩
  | .ktp xs, n + 1, h => by obtain ⟨d, e⟩ := gds_pys xs n h; exact ⟨_, congrArg (Option.map _) e⟩
  | .stp xs, n + 1, h => by obtain ⟨d, e⟩ := gds_pys xs n h; exact ⟨_, congrArg (Option.map _) e⟩
  | .lst xs, n + 1, h => by obtain ⟨d, e⟩ := gds_pys xs n h; exact ⟨_, congrArg (Option.map _) e⟩
  | .tup _, 0, h => by cases h
  | .ktp _, 0, h => by cases h
  | .stp _, 0, h => by cases h
  | .lst _, 0, h => by cases h
  | .dct _ _, 0, h => by cases h
  | .dct _ _, _ + 1, h => by cases h
  | .ref _, 0, h => by cases h
  | .ref _, _ + 1, h => by cases h
  | .scr _, 0, h => by cases h
  | .scr _, _ + 1, h => by cases h
theorem gds_pys : ∀ (xs : List Vl) (n : Nat), gds n xs = true → ∃ ds, pys xs n = some ds
  | [], _, _ => ⟨_, rfl⟩
  | x :: xs, n, h => by
    unfold gds at h
    simp only [Bool.and_eq_true] at h
    obtain ⟨d, e⟩ := gd_py x n h.1
    obtain ⟨ds, e'⟩ := gds_pys xs n h.2
    exact ⟨d :: ds, by unfold pys; rw [e, e']⟩
end
theorem gds_all : ∀ (xs : List Vl) (n : Nat), gds n xs = xs.all (gd n)
  | [], _ => rfl
  | x :: xs, n => by
    unfold gds
    rw [gds_all xs n]; rfl
theorem gds_map {α : Type} (f : α → Vl) (l : List α) (n : Nat) (h : ∀ a, gd n (f a) = true) : gds n (l.map f) = true := by
  rw [gds_all]
  simp [h]
theorem gd_int {n : Nat} {i : Int} : gd n (.int i) = true := by cases n <;> rfl
theorem gds_nil {n : Nat} : gds n [] = true := by unfold gds; rfl
theorem gds_int {n : Nat} {l : List Int} : gds n (l.map .int) = true := gds_map _ _ _ fun _ => gd_int
theorem pys_nil_eqv : ∀ {xs : List Vl} {n : Nat} {ds : List PyData}, pys xs n = some ds → ds.length = xs.length
  | [], _, _, h => by cases h; rfl
  | x :: xs, n, ds, h => by
    unfold pys at h
    split at h
    · cases h
      rename_i e
      simp [pys_nil_eqv e]
    · cases h
theorem eqvAll_nil (ds : List PyData) : PyData.eqvAll ds [] = ds.isEmpty := by
  cases ds <;> rfl
theorem isEmpty_of_len {α β : Type} {a : List α} {b : List β} (h : a.length = b.length) : a.isEmpty = b.isEmpty := by
  cases a <;> cases b <;> simp at h <;> rfl
theorem vEq_lst0 {xs : List Vl} (h : gds 59 xs = true) : vEq (.lst xs) (.lst []) = some (.bl xs.isEmpty) := by
  obtain ⟨ds, e⟩ := gds_pys xs 59 h
  have e1 : py (.lst xs) 60 = some (.list ds) := congrArg (Option.map _) e
  unfold vEq
  rw [e1]
  show some (Vl.bl (PyData.eqvAll ds [])) = _
  rw [eqvAll_nil, isEmpty_of_len (pys_nil_eqv e)]
theorem pys_strs : ∀ (l : List Str) (n : Nat), pys (l.map .str) n = some (l.map PyData.str)
  | [], _ => rfl
  | i :: l, n => by
    rw [List.map_cons]
    unfold pys
    rw [pys_strs l n]
    rfl
theorem any_strs (l : List Str) (c : Str) : ((l.map PyData.str).any fun z => PyData.eqv z (.str c)) = l.contains c := by
  induction l with
  | nil => rfl
  | cons a l ih =>
    rw [List.map_cons, List.any_cons, List.contains_cons, ih]
    have : PyData.eqv (.str a) (.str c) = (c == a) := by
      show (a == c) = (c == a)
      exact Bool.eq_iff_iff.mpr ⟨fun h => by rw [beq_iff_eq] at h ⊢; exact h.symm, fun h => by rw [beq_iff_eq] at h ⊢; exact h.symm⟩
    rw [this]
theorem vIn_strsL {l : List Str} {c : Str} : vInV (.str c) (.lst (l.map .str)) = some (.bl (l.contains c)) := by
  have h : vIn (.str c) (.lst (l.map .str)) = some ((l.map PyData.str).any fun z => PyData.eqv z (.str c)) := by
    unfold vIn
    dsimp only
    rw [pys_strs]; rfl
  unfold vInV
  rw [h, any_strs]; rfl
theorem vIn_strsT {l : List Str} {c : Str} : vInV (.str c) (.tup (l.map .str)) = some (.bl (l.contains c)) := by
  have h : vIn (.str c) (.tup (l.map .str)) = some ((l.map PyData.str).any fun z => PyData.eqv z (.str c)) := by
    unfold vIn
    dsimp only
    rw [pys_strs]; rfl
  unfold vInV
  rw [h, any_strs]; rfl
theorem vIsN_non : vIsN .non .non = some (.bl true) := rfl
theorem vLt_int {i j : Int} : vLt (.int i) (.int j) = some (.bl (decide (i < j))) := rfl
theorem vGt_int {i j : Int} : vGt (.int i) (.int j) = some (.bl (decide (j < i))) := rfl
theorem vLe_int {i j : Int} : vLe (.int i) (.int j) = some (.bl (decide (i ≤ j))) := rfl
theorem vGe_int {i j : Int} : vGe (.int i) (.int j) = some (.bl (decide (j ≤ i))) := rfl
theorem vMul_int {i j : Int} (h : mulOk i j = true) : vMul (.int i) (.int j) = some (.int (i * j)) := if_pos h
theorem mulOk_r {i j : Int} (h : -18446744073709551616 < j ∧ j < 18446744073709551616) : mulOk i j = true := by
  unfold mulOk
  rw [sm64_of h, Bool.or_true]
theorem vMul_r {j : Int} (h : -18446744073709551616 < j ∧ j < 18446744073709551616) (i : Int) : vMul (.int i) (.int j) = some (.int (i * j)) := vMul_int (mulOk_r h)
theorem set_get {G : Gst} {i : Nat} {o u : Ob} (h : G[i]? = some o) : (G.set i u)[i]? = some u := by
  simp [(List.getElem?_eq_some_iff.mp h).1]
section
variable {α : Type} {g : DG} {dt : DT} {de : DE} {e0 env : LEnv} {G G1 : Gst} {vs : List Nat} {di : DI}
end
section
variable {α : Type} {g : DG} {de : DE} {e0 env : LEnv} {G G1 : Gst} {vs : List Nat} {di : DI}
end
section
variable {g : DG} {de : DE} {env : LEnv} {G G1 : Gst} {vs : List Nat} {di : DI} {X : R Vl}
end
theorem runF_true {n : Nat} {D : DS} {xs : List Vl} {G : Gst} (h : Wp (D (startE n xs) G) (rtP (.bl true) fun _ => True)) : ∃ G', runF n D xs G = .ok (.bl true) G' := by
  obtain ⟨G', h, _⟩ := runF_rt h
  exact ⟨G', h⟩
theorem wp_asg {d : DE} {g : DG} {b : DS} {e e1 : LEnv} {x : Vl} {G G1 : Gst} {P : SR → Prop} (h : d e G = .ok x G1) (hg : g e x = some e1) (k : Wp (b e1 G1) P) : Wp (dSeq (dAsg d g) b e G) P := by
  refine wp_seq ?_
  unfold dAsg
  rw [h, sb_ok, hg]
  exact k
theorem vIsN_str {s : Str} : vIsN (.str s) .non = some (.bl false) := rfl
theorem vIsN_int {s : Int} : vIsN (.int s) .non = some (.bl false) := rfl
theorem vIsN_tup {s : List Vl} : vIsN (.tup s) .non = some (.bl false) := rfl
theorem vIsN_lst {s : List Vl} : vIsN (.lst s) .non = some (.bl false) := rfl
end CardH
end
section
set_option maxHeartbeats 2000000
namespace CardH
open PySem PySem.Spec PyProof.Rows L2

section
variable {X : Cx} {o e : Expr} {es : List Expr} {to : TE} {t : TA} {name : Str} {apos cpos : Pos} {T id : String} {r : V → List V → Hp → VK → Prop}
def TyP (X : Cx) (T : String) (tp : V → Hp → Prop) : Prop := ∀ (pins : List (Addr × Obj)) (s : Shared) (σ : L2.St) (H : Hp) (x : V) (v : Value), Inv X pins σ H s → RelV x v → tp x H →
  s.TypeIs v T ∧ ∀ a, v = .ref a → ∃ ob, s.heap.get? a = some ob ∧ ob.dict = none
theorem tyP_V : TyP X T (fun x H => tyV X.K T x H) := fun pins s σ H x v I r h => tyV_is I r h
def tBMG (tp : V → Hp → Prop) (r : V → List V → Hp → VK → Prop) (to : TE) (t : TA) : TE := fun σ H Q => to σ H fun x H1 => tp x H1 ∧ t σ H1 fun xs H2 => r x xs H2 Q
theorem pe_bmG {tp : V → Hp → Prop} (ht : TyP X T tp) (pa : PlainAttrs T) (slot : Slot T name id) (hty : typeOf (.builtin id) = pure (.type "method_descriptor")) (hm : MtR X id r) (ho : PE X o to) (ha : PA X (e :: es) t)
    (hbase : attributeBase o name X.env (eval o X.env) = eval o X.env := by rfl)
    (hfew : ((backTo cpos (starEach (e :: es) X.env)).all (fun x => !x.1) && (backToKw cpos (keywordEach [] X.env)).all (fun x => x.1.isSome)
      && decide ((e :: es).length + ([] : List Keyword).length + (if ([] : List Keyword).isEmpty then 0 else 1) < 30)) = true := by rfl)
    (hline : (apos.endLine == cpos.line) = true := by rfl) (hs : starEach (e :: es) X.env = (false, eval e X.env) :: starEach es X.env := by rfl) (hplain : (backTo cpos (starEach es X.env)).any (·.1) = false := by rfl) :
    PE X (.Call (.Attribute o name apos) (e :: es) [] cpos) (tBMG tp r to t) := by
  refine ⟨fun pins s σ H Q I h => ?_⟩
  refine wpAny_Call_method_late hbase hfew hline rfl (thn (ho.run pins s σ H _ I h) fun v s1 ⟨x, H1, I1, r1, ty, q1⟩ => ?_)
  obtain ⟨h1, h2⟩ := ht pins s1 σ H1 x v I1 r1 ty
  refine ⟨T, id, pa, slot, hty, h1, h2, ?_⟩
  have hA := ha.run cpos pins s1 σ H1 _ I1 q1
  rw [hs] at hA ⊢
  refine Calls.callWith_builtin (by show (false || (backTo cpos (starEach es X.env)).any (·.1)) = false; rw [hplain] <;> rfl) (Calls.evalArgs_plain ?_)
  exact thn hA fun us s2 ⟨vs, H2, I2, r2, q2⟩ => hm pins s2 σ H2 x vs v us Q I2 r1 r2 q2
end
def RcS (kt : Kt) (X : Cx) (T : String) (t : Gst → Vl → Bool) : Prop := ∃ tp, TyP X T tp ∧ ∀ (B : Bs) (σ : L2.St) (env : LEnv) (G : Gst) (W : Wd) (x : Vl) (v : V), RAll kt B W σ env G → Pk kt.K W .f x v → t G x = true → tp v W.H
def BmS (kt : Kt) (X : Cx) (id : String) (o : Gst → Vl → List Vl → Option Vl) : Prop :=
  ∃ r : V → List V → Hp → VK → Prop, MtR X id r ∧ ∀ (B : Bs) (σ : L2.St) (env : LEnv) (G : Gst) (W : Wd) (x : Vl) (v : V) (xs : List Vl) (vs : List V) (z : Vl) (Q : VK), RAll kt B W σ env G → Pk kt.K W .f x v → PkS kt.K W .f xs vs → o G x xs = some z →
    (∀ W' w, Ext true W W' → RAll kt B W' σ env G → Rep kt.K W' z w → Q w W'.H) → r v vs W.H Q
def dBm (t : Gst → Vl → Bool) (o : Gst → Vl → List Vl → Option Vl) (d : DE) (ds : DA) : DE := fun env G => (d env G).bind fun x G1 => if t G1 x = true then (ds env G1).bind fun xs G2 => opt (o G2 x xs) G2 else .bad
section
variable {kt : Kt} {B : Bs} {X : Cx} {p pa pb pc : Bool} {m ma mb mc : Md} {a b c e : Expr} {es : List Expr} {da db dc d : DE} {ds : DA} {pos np apos cpos : Pos} {i : Nat} {x name : Str} {id T : String} {o : Gst → Vl → List Vl → Option Vl} {t : Gst → Vl → Bool}
theorem sx_bm (hR : RcS kt X T t) (ho : BmS kt X id o) (hpa : PlainAttrs T) (slot : Slot T name id) (hty : typeOf (.builtin id) = pure (.type "method_descriptor")) (ha : SX kt B X pa ma a da) (hs : SAm kt B X pb mb (e :: es) ds) (hm : okM pb ma = true := by rfl)
    (hbase : attributeBase a name X.env (eval a X.env) = eval a X.env := by rfl)
    (hfew : ((backTo cpos (starEach (e :: es) X.env)).all (fun x => !x.1) && (backToKw cpos (keywordEach [] X.env)).all (fun x => x.1.isSome)
      && decide ((e :: es).length + ([] : List Keyword).length + (if ([] : List Keyword).isEmpty then 0 else 1) < 30)) = true := by rfl)
    (hline : (apos.endLine == cpos.line) = true := by rfl) (hst : starEach (e :: es) X.env = (false, eval e X.env) :: starEach es X.env := by rfl) (hplain : (backTo cpos (starEach es X.env)).any (·.1) = false := by rfl) :
    SX kt B X (pa && pb) .s (.Call (.Attribute a name apos) (e :: es) [] cpos) (dBm t o da ds) := fun Wish tk => by
  obtain ⟨tp, ht, hR⟩ := hR
  obtain ⟨r, hr, ho⟩ := ho
  refine (pe_bmG ht hpa slot hty hr (ha Wish tk) (hs Wish tk) hbase hfew hline hst hplain).imp fun σ H Q ⟨W, env, G, e, A, h⟩ => ?_
  subst e
  refine ⟨W, env, G, rfl, A, h.bindE.mono ?_⟩
  rintro v H1 ⟨W1, x, G1, rfl, e1, A1, z1, h1⟩
  split at h1
  case isFalse => exact h1.elim
  rename_i htx
  refine ⟨hR B σ env G1 W1 x v A1 z1.any htx, W1, env, G1, rfl, A1, h1.bindL.mono ?_⟩
  rintro us H2 ⟨W2, ys, G2, rfl, e2, A2, z2, h2⟩
  obtain ⟨z, ez, q⟩ := opsPo h2
  exact ho B σ env G2 W2 x v ys us z Q A2 (z1.ext e2 (okM_or hm)).any z2.any ez q
end
def tStr (_ : Gst) : Vl → Bool
  | .str _ => true
  | _ => false
def tTup (_ : Gst) : Vl → Bool
  | .tup _ => true
  | _ => false
def tLst (G : Gst) (x : Vl) : Bool := match seqOf G x with
  | some (false, _) => true
  | _ => false
def oSIx (_ : Gst) : Vl → List Vl → Option Vl
  | .str a, [.str b] => match Builtin.Str.occurrences a b 0 a.length 1 with
    | i :: _ => some (.int (i : Nat))
    | [] => none
  | _, _ => none
section
variable {kt : Kt} {X : Cx}
theorem rc_str : RcS kt X "str" tStr := by
  refine ⟨_, tyP_V, fun B σ env G W x v A hx h => ?_⟩
  unfold tStr at h
  split at h
  · obtain ⟨rfl, _⟩ := hx.str
    rfl
  · cases h
theorem bm_sidx : BmS kt X "str.index" oSIx := by
  refine ⟨_, mt_sindex, fun B σ env G W x v xs vs z Q A hx hxs e q => ?_⟩
  unfold oSIx at e
  split at e
  · rename_i a b
    split at e
    · rename_i i rest ho
      cases e
      obtain ⟨rfl, _⟩ := hx.str
      obtain ⟨w, rfl, h2⟩ := hxs.one
      obtain ⟨rfl, _⟩ := h2.str
      exact ⟨a, b, i, rest, rfl, rfl, ho, q W _ Ext.refl A rfl⟩
    · cases e
  · cases e
end
end CardH
end
section
set_option maxHeartbeats 2000000
namespace CardH
open PySem PySem.Spec PyProof.Rows L2 RT
section
variable {prog : Program} {w : World} {A : Around} {E : Value → Shared → Prop} {s : Shared}
end
end CardH
end
section
set_option maxHeartbeats 2000000
namespace CardH
open PySem PySem.Spec PyProof.Rows L2
section
variable {X : Cx}
end
def dTupRev (d : DE) : DE := fun env G => (d env G).bind fun x G1 => opt ((seqOf G1 x).map fun k => .tup k.2.reverse) G1
def dListO (d : DE) : DE := fun env G => (d env G).bind fun x G1 => match seqOf G1 x with
  | some k => .ok (.ref G1.length) (G1 ++ [.lst k.2])
  | none => .bad
def dBmW (o : List Vl → List Vl → Option (Vl × List Vl)) (d : DE) (ds : DA) : DE := fun env G => (d env G).bind fun x G1 => if tLst G1 x = true then (ds env G1).bind fun ys G2 => match x with
  | .ref j => match G2[j]? with
    | some (.lst xs) => match o xs ys with
      | some r => .ok r.1 (G2.set j (.lst r.2))
      | none => .bad
    | _ => .bad
  | _ => .bad
  else .bad
section
variable {kt : Kt} {B : Bs} {X : Cx} {p pa pb pc : Bool} {m ma mb mc : Md} {a b c e : Expr} {es : List Expr} {da db dc d : DE} {ds : DA} {pos np np2 apos cpos pos2 : Pos} {i : Nat} {x name : Str} {id T : String}
end
section
variable {kt : Kt} {X : Cx}
end
end CardH
end
section
set_option maxHeartbeats 2000000
namespace CardH
open PySem PySem.Spec PyProof.Rows L2
def dLstO (ds : DA) : DE := fun env G => (ds env G).bind fun xs G1 => if xs.length ≤ 16777216 then .ok (.ref G1.length) (G1 ++ [.lst xs]) else .bad
def lstOf (G : Gst) : Vl → Option (List Vl)
  | .lst xs => some xs
  | .ref j => match G[j]? with
    | some (.lst xs) => some xs
    | _ => none
  | _ => none
def dCat (da db : DE) : DE := fun env G => (da env G).bind fun x G1 => (db env G1).bind fun y G2 => match lstOf G2 x, lstOf G2 y with
  | some xs, some ys => if xs.length + ys.length ≤ 16777216 then .ok (.lst (xs ++ ys)) G2 else .bad
  | _, _ => .bad
section
variable {kt : Kt} {B : Bs} {X : Cx} {p pa pb pc : Bool} {m ma mb mc : Md} {a b c e : Expr} {es : List Expr} {da db dc d dv : DE} {ds : DA} {pos pos' np apos cpos pos2 : Pos} {x name : Str}
end
section
variable {α : Type} {g : DG} {dt : DT} {de : DE} {e0 env : LEnv} {G G1 : Gst} {vs : List Nat} {di : DI}
end
end CardH
end
section
set_option maxHeartbeats 2000000
namespace CardH
open PySem PySem.Spec PyProof.Rows L2
section
variable {kt : Kt} {B : Bs} {X : Cx} {p pa pb pc pd pe : Bool} {m ma mb mc : Md} {a b c d' e : Expr} {es : List Expr} {da db dc dd d dv : DE} {ds : DA} {pos pos' pos1 pos3 np apos cpos pos2 : Pos} {x name : Str}
end
section
variable {kt : Kt} {B : Bs} {X : Cx} {p pi pt pe : Bool} {a elt tg iter : Expr} {ifs : List Expr} {scope : Scope} {own : List (Str × Nat)} {pos : Pos} {sl : List Nat} {di : DI} {g : DG} {dt : DT} {da de : DE}
end
end CardH
end
section
set_option maxHeartbeats 2000000
namespace CardH
open PySem PySem.Spec PyProof.Rows L2 LamX
def keyV : Value → Option Key
  | .int i _ => some (.inl i)
  | .str x _ => some (.inr x)
  | _ => none
def ktpB (K : PySem.W.Frag) (x : PySem.Str) (zs : List Key) : Bool := match K.lookup (He.ga K x) with
  | some o => (decide (o.cls = .type "tuple") && o.dict.isNone) && (match o.data with
    | .seq its _ => decide (its.toList.map keyV = zs.map some) && Nat.ble its.size 16777216
    | _ => false)
  | none => false
section
variable {kt : Kt} {B : Bs} {X : Cx} {p pi : Bool} {elt tg iter : Expr} {di : DI} {g : DG} {dt : DT} {de : DE} {ifs : List Expr} {scope : Scope} {own : List (Str × Nat)} {sl : List Nat} {pos spos py : Pos}
end
end CardH
end
section
set_option maxHeartbeats 2000000
namespace CardH
open PySem PySem.Spec PyProof.Rows L2

def isOb (i : Nat) : Role → Bool
  | .obj j => j == i
  | _ => false
theorem DRep.mut {K : PySem.W.Frag} {W : Wd} {t : Bool} {kvs : List (Vl × Vl)} {u : HO} (h : DRep K W t kvs u) : Mut (some u) := by
  cases t <;> obtain ⟨ks, e, _⟩ := h <;> subst e <;> trivial
section
variable {kt : Kt} {B : Bs} {X : Cx} {W W' W2 : Wd} {σ : L2.St} {env : LEnv} {G : Gst} {a : Addr} {o : HO} {i : Nat} {t : Bool} {kvs : List (Vl × Vl)} {u : HO} {p : Bool}
theorem ExtR.ob (ha : W.Γ a = .obj i) (hn : W.H a ≠ none) (ht : ∀ xs, W.H a ≠ some (.tup xs)) : ExtR p (isOb i) W (W.wr a o) where
  role := fun _ _ _ => rfl
  keep := fun b u hb _ hs _ => (upd_ne (fun e => by rw [e, ha] at hs; simp [isOb] at hs)).trans hb
  tups := fun b xs hb => (upd_ne (fun e => by rw [e] at hb; exact ht xs hb)).trans hb
  frz := fun b o u hb hs => (upd_ne (fun e => by rw [e, ha] at hs; simp [isOb] at hs)).trans hb
  there := fun b hb => by
    show upd W.H a o b ≠ none
    by_cases e : b = a
    · rw [e, upd_same]; simp
    · rw [upd_ne e]; exact hb
  pre := ⟨[], by simp [Wd.wr]⟩
theorem obn {t : Bool} {kvs : List (Vl × Vl)} {lk : Bool} (h : DAt W a lk u) (hr : DRep kt.K W t kvs u) : W.H a ≠ none ∧ (∀ xs, W.H a ≠ some (.tup xs)) ∧ (∀ ps, W.H a ≠ some (.tbl ps)) ∧ (∀ f, W.H a ≠ some (.ext f)) := by
  cases lk with
  | false =>
    have h : W.H a = some u := h
    rw [h]
    cases t <;> obtain ⟨ks, e, _⟩ := hr <;> subst e <;> simp
  | true =>
    obtain ⟨o, h⟩ := h
    rw [h]
    simp
theorem RAll.dctWr {lk lk' t' : Bool} {kvs' : List (Vl × Vl)} {u' : HO} (A : RAll kt B W σ env G) (ha : W.ρ[i]? = some a) (hr : DRep kt.K W t kvs u) (hd : DAt W a lk u) (hg : G[i]? = some (.dct lk t kvs))
    (hr' : DRep kt.K (W.wr a o) t' kvs' u') (hd' : DAt (W.wr a o) a lk' u') (hno : (∀ ps, o ≠ .tbl ps)) (hnl : ∀ x z, o = .frz x z → lk' = true) (hsi : Ext B.p B.W0 (W.wr a o)) : RAll kt B (W.wr a o) σ env (G.set i (.dct lk' t' kvs')) := by
  obtain ⟨n1, n2, n3, n4⟩ := obn hd hr
  obtain ⟨a2, q1, hΓ, _⟩ := A.ok.rg.ob i _ hg
  rw [ha] at q1; cases q1
  have e1 : ExtR true (isOb i) W (W.wr a o) := ExtR.ob hΓ n1 n2
  refine ⟨⟨fun b hb => e1.there b (A.ok.tr b hb), ⟨by rw [List.length_set]; exact A.ok.rg.len, fun j ob hj => ?_⟩, ?_, fun b ps q => A.ok.tb b ps ?_⟩, A.re.extR e1 rfl rfl (fun _ => rfl), hsi, fun z b x y q => ?_⟩
  · by_cases eij : i = j
    · subst eij
      have hl : i < G.length := (List.getElem?_eq_some_iff.mp hg).1
      rw [List.getElem?_set_self hl] at hj
      cases hj
      exact ⟨a, ha, hΓ, u', hr', hd'⟩
    · rw [List.getElem?_set_ne eij] at hj
      obtain ⟨b, h1, h2, h3⟩ := A.ok.rg.ob j ob hj
      have hba : b ≠ a := fun z => by rw [z, hΓ] at h2; exact eij (Role.obj.inj h2)
      refine ⟨b, h1, h2, ?_⟩
      cases ob with
      | lst xs =>
        obtain ⟨vs, q, z⟩ := h3
        exact ⟨vs, (upd_ne hba).trans q, Reps.extR e1 rfl rfl _ _ z⟩
      | ins C fs =>
        obtain ⟨dx, fv, q, z, k⟩ := h3
        exact ⟨dx, fv, (upd_ne hba).trans q, FldsRep.extR e1 rfl rfl (fun _ => rfl) _ _ z, k⟩
      | dct lk2 t2 kvs2 =>
        obtain ⟨u2, q, z⟩ := h3
        exact ⟨u2, q.extR e1 rfl rfl, z.same (upd_ne hba)⟩
      | frl xs =>
        obtain ⟨od, vs, q, z⟩ := h3
        exact ⟨od, vs, (upd_ne hba).trans q, Reps.extR e1 rfl rfl _ _ z⟩
  · refine tabs_but A.ok.tabs fun b u q k => (upd_ne (fun z => ?_)).trans q
    rw [z] at q
    rcases k with ⟨ps, k⟩ | ⟨f, k⟩
    · rw [k] at q; exact n3 ps q
    · rw [k] at q; exact n4 f q
  · have q : upd W.H a o b = some (.tbl ps) := q
    by_cases z : b = a
    · rw [z, upd_same] at q; cases q; exact absurd rfl (hno ps)
    · rw [upd_ne z] at q; exact q
  · have q : upd W.H a o b = some (.frz x y) := q
    by_cases k : b = a
    · show (W.Γ b).lockable = true
      rw [k, hΓ]; rfl
    · rw [upd_ne k] at q
      exact A.nl z b x y q
theorem DRep.wr {t : Bool} {kvs : List (Vl × Vl)} {u : HO} (h : DRep kt.K W t kvs u) (hΓ : W.Γ a = .obj i) (hn : W.H a ≠ none) (ht : ∀ xs, W.H a ≠ some (.tup xs)) : DRep kt.K (W.wr a o) t kvs u :=
  h.extR (ExtR.ob (p := true) hΓ hn ht) rfl rfl
theorem Ext.lk (hΓ : W.Γ a = .obj i) (h : W.H a = some u) (mu : Mut (some u)) (od : Obj) : Ext false W (W.wr a (.frz od u)) where
  role := fun _ _ => rfl
  keep := fun b x hb nt hp => (upd_ne (fun e => by
    rcases hp with hp | hp
    · cases hp
    · rw [e, hΓ] at hp; cases hp)).trans hb
  tups := fun b xs hb => (upd_ne (fun e => by rw [e, h] at hb; cases hb; exact mu)).trans hb
  frz := fun b x y hb => (upd_ne (fun e => by rw [e, h] at hb; cases hb; exact mu)).trans hb
  there := fun b hb => by
    show upd W.H a _ b ≠ none
    by_cases e : b = a
    · rw [e, upd_same]; simp
    · rw [upd_ne e]; exact hb
  pre := ⟨[], by simp [Wd.wr]⟩
theorem RAll.lk (A : RAll kt B W σ env G) (hp : B.p = false) (ha : W.ρ[i]? = some a) (hg : G[i]? = some (.dct false t kvs)) (hr : DRep kt.K W t kvs u) (h : W.H a = some u) (od : Obj) :
    RAll kt B (W.wr a (.frz od u)) σ env (G.set i (.dct true t kvs)) := by
  obtain ⟨a2, q1, hΓ, _⟩ := A.ok.rg.ob i _ hg
  rw [ha] at q1; cases q1
  obtain ⟨n1, n2, n3, n4⟩ := obn (lk := false) h hr
  exact A.dctWr (lk := false) (lk' := true) ha hr h hg (hr.wr hΓ n1 n2) ⟨od, upd_same⟩ (fun _ z => nomatch z) (fun _ _ _ => rfl) ((A.si.trans (Ext.lk hΓ h hr.mut od)).mono fun z => by rw [hp] at z; cases z)
end
theorem _root_.L2.PS.or {X : Cx} {e : Stmt} {t t' : TS} (h : PS X e t) (h' : PS X e t') : PS X e (fun D σ H => t D σ H ∨ t' D σ H) := ⟨fun pins s σ H D I q => q.elim (h.run pins s σ H D I) (h'.run pins s σ H D I)⟩
section
variable {kt : Kt} {B : Bs} {X : Cx} {W W' W2 : Wd} {σ : L2.St} {env : LEnv} {G : Gst} {a : Addr} {o : HO} {i : Nat} {t : Bool} {kvs : List (Vl × Vl)} {u : HO} {p : Bool}
end
end CardH
end
section
set_option maxHeartbeats 2000000
namespace CardH
open PySem PySem.Spec PyProof.Rows L2

def dctOf (G : Gst) : Vl → Option (Bool × List (Vl × Vl))
  | .dct t kvs => some (t, kvs)
  | .ref j => match G[j]? with
    | some (.dct _ t kvs) => some (t, kvs)
    | _ => none
  | _ => none
def OpSG (kt : Kt) (X : Cx) (f : Value → Value → Sem Value) (o : Gst → Vl → Vl → Option Vl) : Prop :=
  ∃ r : R2, OpR X f r ∧ ∀ (B : Bs) (σ : L2.St) (env : LEnv) (G : Gst) (W : Wd) (x y : Vl) (v u : V) (z : Vl) (Q : VK), RAll kt B W σ env G → Pk kt.K W .f x v → Pk kt.K W .f y u → o G x y = some z →
    (∀ W' w, Ext true W W' → RAll kt B W' σ env G → Rep kt.K W' z w → Q w W'.H) → r v u W.H Q
def dBinG (o : Gst → Vl → Vl → Option Vl) (da db : DE) : DE := fun env G => (da env G).bind fun x G1 => (db env G1).bind fun y G2 => opt (o G2 x y) G2
section
variable {kt : Kt} {B : Bs} {X : Cx} {p pa pb pc : Bool} {m ma mb mc : Md} {a b c e : Expr} {da db dc d : DE} {pos : Pos}
end
section
variable {K : PySem.W.Frag} {W : Wd} {kt : Kt} {B : Bs} {X : Cx} {σ : L2.St} {env : LEnv} {G : Gst}
theorem dctOf_r {x : Vl} {v : V} {t : Bool} {kvs : List (Vl × Vl)} (A : RAll kt B W σ env G) (hx : Pk kt.K W .f x v) (e : dctOf G x = some (t, kvs)) : ∃ a u, v = .ref a ∧ Rd W.H a u ∧ DRep kt.K W t kvs u := by
  cases x with
  | dct t' kvs' =>
    cases e
    cases t with
    | false => obtain ⟨a, ks, rfl, h1, h2⟩ := hx.dK; exact ⟨a, _, rfl, h1, ks, rfl, h2⟩
    | true => obtain ⟨a, ks, rfl, h1, h2⟩ := hx.dT; exact ⟨a, _, rfl, h1, ks, rfl, h2⟩
  | ref j =>
    have e : (match G[j]? with | some (.dct _ t kvs) => some (t, kvs) | _ => none) = some (t, kvs) := e
    split at e
    · rename_i lk t' kvs' eg
      cases e
      obtain ⟨a, rfl, ha⟩ := hx.ref
      obtain ⟨a', h1, h2, u, h3, h4⟩ := A.ok.rg.ob j _ eg
      rw [ha] at h1; cases h1
      exact ⟨a, u, rfl, h4.rd, h3⟩
    · cases e
  | _ => cases e
theorem drep_get {a : Addr} {t : Bool} {kvs : List (Vl × Vl)} {k : Vl} {u : V} {ho : HO} {o : Option Vl} (hd : Rd W.H a ho) (hr : DRep K W t kvs ho) (hk : Rep K W k u) (e : dAt t kvs k = some o) :
    ∃ o', DGet W.H a u o' ∧ GetR K W o o' := by
  cases t with
  | false =>
    obtain ⟨q, eq, rfl⟩ := Option.map_eq_some_iff.mp e
    obtain ⟨ks, rfl, h2⟩ := hr
    exact ⟨_, .inl ⟨ks, q, hd, keyOf_rep hk eq, rfl⟩, h2.to.get q⟩
  | true =>
    obtain ⟨q, eq, rfl⟩ := Option.map_eq_some_iff.mp e
    obtain ⟨ks, rfl, h2⟩ := hr
    obtain ⟨b, eb, hb⟩ := keyTOf_rep hk eq
    exact ⟨_, .inr ⟨ks, q, b, hd, eb, hb, rfl⟩, h2.to.get q⟩
theorem dAt_key {t : Bool} {kvs : List (Vl × Vl)} {k : Vl} {o : Option Vl} (e : dAt t kvs k = some o) {m : Md} {u : V} (h : Pk K W m k u) : Rep K W k u :=
  h.val (fun xs z => by subst z; cases t <;> cases e) fun t' kvs' z => by subst z; cases t <;> cases e
end
def vIxD (G : Gst) (x k : Vl) : Option Vl := (dctOf G x).bind fun d => (dAt d.1 d.2 k).join
def dIxD (da db : DE) : DE := fun env G => (da env G).bind fun x G1 => (db env G1).bind fun y G2 => opt (vIxD G2 x y) G2
def vGet (G : Gst) (x k y : Vl) : Option Vl := (dctOf G x).bind fun d => (dAt d.1 d.2 k).map fun o => o.getD y
def dGet2 (dd dk dy : DE) : DE := fun env G => (dd env G).bind fun x G1 => if (dctOf G1 x).isSome = true then (dk env G1).bind fun k G2 => (dy env G2).bind fun y G3 => opt (vGet G3 x k y) G3 else .bad
theorem join_some {α : Type} {o : Option (Option α)} {z : α} (h : o.join = some z) : o = some (some z) := by
  cases o with
  | none => cases h
  | some o => cases o <;> simpa using h
section
variable {kt : Kt} {B : Bs} {X : Cx} {p pa pb pc : Bool} {m ma mb mc : Md} {a b c e f : Expr} {da db dc d : DE} {pos apos cpos : Pos}
theorem sx_ixD (hu : X.A.units + 1 < cLine) (ha : SX kt B X pa ma a da) (hb : SX kt B X pb mb b db) (hs : PlainIx b := by intro _ _; rfl) (hm : okM pb ma = true := by rfl) :
    SX kt B X (pa && pb) .s (.Subscript a b pos) (dIxD da db) := fun Wish tk => by
  refine (pe_ix (ix_dict hu) (ha Wish tk) (hb Wish tk) hs).imp fun σ H Q ⟨W, env, G, e, A, h⟩ => ?_
  subst e
  refine ⟨W, env, G, rfl, A, h.bindE.mono ?_⟩
  rintro v H1 ⟨W1, x, G1, rfl, e1, A1, z1, h1⟩
  refine ⟨W1, env, G1, rfl, A1, h1.bindL.mono ?_⟩
  rintro u H2 ⟨W2, y, G2, rfl, e2, A2, z2, h2⟩
  obtain ⟨z, ez, q⟩ := opsPo h2
  obtain ⟨⟨t, kvs⟩, ed, ez⟩ := Option.bind_eq_some_iff.mp ez
  have ez := join_some ez
  obtain ⟨a', uo, rfl, hd, hr⟩ := dctOf_r A2 (z1.ext e2 (okM_or hm)).any ed
  obtain ⟨o', g, r⟩ := drep_get hd hr (dAt_key ez z2) ez
  obtain ⟨w, rfl, rw'⟩ := r
  exact ⟨a', w, rfl, g, q W2 w Ext.refl A2 rw'⟩
end
section
variable {kt : Kt} {B : Bs} {X : Cx} {W : Wd} {σ : L2.St} {env : LEnv} {G : Gst}
end
end CardH
end
section
set_option maxHeartbeats 2000000
namespace CardH
open PySem PySem.Spec PyProof.Rows L2

def Wd.mkO (W : Wd) (y : Addr) (n : Nat) (o : HO) : Wd := ⟨fun a => if a = y then .obj n else W.Γ a, W.ρ ++ [y], upd W.H y o⟩
section
variable {kt : Kt} {B : Bs} {X : Cx} {W : Wd} {σ : L2.St} {env : LEnv} {G : Gst}
theorem RAll.mkO {y : Addr} {o : HO} {ob : Ob} (A : RAll kt B W σ env G) (hy : W.H y = none) (ho : okW o = true) (hob : Ext true W (W.mkO y G.length o) → ObRep kt (W.mkO y G.length o) G.length y ob) :
    Ext true W (W.mkO y G.length o) ∧ RAll kt B (W.mkO y G.length o) σ env (G ++ [ob]) := by
  have nb : ∀ b, W.H b ≠ none → upd W.H y o b = W.H b := fun b hb => upd_ne (fun z => hb (by rw [z]; exact hy))
  have e : Ext true W (W.mkO y G.length o) := by
    exact ⟨fun b hb => if_neg fun z => hb (by rw [z]; exact hy), fun b u hb _ _ => (nb b (by rw [hb]; simp)).trans hb, fun b xs hb => (nb b (by rw [hb]; simp)).trans hb, fun b x u hb => (nb b (by rw [hb]; simp)).trans hb, fun b hb => by
      show upd W.H y o b ≠ none
      rw [nb b hb]; exact hb, [y], rfl⟩
  refine ⟨e, ⟨fun b hb => ?_, ⟨?_, fun i u hi => ?_⟩, tabsN_upd A.ok.tabs hy, fun b ps q => ?_⟩, A.re.ext e, (A.si.trans e).mono fun z => by rw [z]; rfl, fun z b u x q => ?_⟩
  · show upd W.H y o b ≠ none
    by_cases k : b = y
    · rw [k, upd_same]; simp
    · rw [upd_ne k]
      refine A.ok.tr b fun w => hb ?_
      show (if b = y then _ else W.Γ b) = _
      rw [if_neg k]; exact w
  · simp [Wd.mkO, A.ok.rg.len]
  · by_cases hl : i < G.length
    · rw [List.getElem?_append_left hl] at hi
      obtain ⟨b, h1, h2, h3⟩ := A.ok.rg.ob i u hi
      have hbn : W.H b ≠ none := by
        cases u with
        | lst xs => obtain ⟨vs, q, _⟩ := h3; rw [q]; simp
        | ins C fs => obtain ⟨dx, fv, q, _⟩ := h3; rw [q]; simp
        | dct lk t kvs => obtain ⟨u, _, q⟩ := h3; exact q.some
        | frl xs => obtain ⟨od, vs, q, _⟩ := h3; rw [q]; simp
      refine ⟨b, e.toR.ref h1, (e.role b hbn).trans h2, ?_⟩
      cases u with
      | lst xs =>
        obtain ⟨vs, q, z⟩ := h3
        exact ⟨vs, e.keep b _ q (fun _ z => nomatch z) (.inl rfl), Reps.ext e _ _ z⟩
      | ins C fs =>
        obtain ⟨dx, fv, q, z, k⟩ := h3
        exact ⟨dx, fv, e.keep b _ q (fun _ z => nomatch z) (.inl rfl), FldsRep.extR e.toR rfl rfl (fun _ => rfl) _ _ z, k⟩
      | dct lk t kvs =>
        obtain ⟨u, q, z⟩ := h3
        exact ⟨u, q.ext e, z.keep e.toR rfl q.plain⟩
      | frl xs =>
        obtain ⟨od, vs, q, z⟩ := h3
        exact ⟨od, vs, e.frz b _ _ q, Reps.ext e _ _ z⟩
    · have hil : i = G.length := by
        have := (List.getElem?_eq_some_iff.mp hi).1
        rw [List.length_append, List.length_singleton] at this
        omega
      subst hil
      rw [List.getElem?_append_right (Nat.le_refl _)] at hi
      simp only [Nat.sub_self, List.getElem?_cons_zero, Option.some.injEq] at hi
      subst hi
      refine ⟨y, ?_, if_pos rfl, hob e⟩
      show (W.ρ ++ [y])[G.length]? = some y
      rw [← A.ok.rg.len, List.getElem?_append_right (Nat.le_refl _)]; simp
  · have q : upd W.H y o b = some (.tbl ps) := q
    by_cases k : b = y
    · rw [k, upd_same] at q; cases q; cases ho
    · rw [upd_ne k] at q; exact A.ok.tb b ps q
  · have q : upd W.H y o b = some (.frz u x) := q
    by_cases k : b = y
    · rw [k, upd_same] at q; cases q; cases ho
    · rw [upd_ne k] at q
      have g : (W.mkO y G.length o).Γ b = W.Γ b := if_neg k
      rw [g]
      exact A.nl z b u x q
theorem mkO_ref {y : Addr} {o : HO} (A : RAll kt B W σ env G) : (W.mkO y G.length o).ρ[G.length]? = some y := by
  show (W.ρ ++ [y])[G.length]? = some y
  rw [← A.ok.rg.len, List.getElem?_append_right (Nat.le_refl _)]; simp
end
section
variable {kt : Kt} {B : Bs} {X : Cx} {p pa pb pc : Bool} {m ma mb mc : Md} {a b c e f : Expr} {es : List Expr} {da db dc d dv : DE} {ds : DA} {pos pos' apos cpos np : Pos} {x : Str}
end
def pairOf (x : Vl) : Option (Vl × Vl) := match itemsOf x with
  | some [k, v] => if (keyOf k).isSome = true then some (k, v) else none
  | _ => none
def pairsOf : List Vl → Option (List (Vl × Vl))
  | [] => some []
  | x :: xs => match pairOf x, pairsOf xs with
    | some p, some ps => some (p :: ps)
    | _, _ => none
def putV (acc : List (Vl × Vl)) (p : Vl × Vl) : List (Vl × Vl) := match keyOf p.1 with
  | some q => dputF keyOf acc p.1 q p.2
  | none => acc
def mergeV (acc ps : List (Vl × Vl)) : List (Vl × Vl) := ps.foldl putV acc
def oPairs (G : Gst) : List Vl → Option (List (Vl × Vl))
  | [x] => (listOf G x).bind fun xs => (pairsOf xs).map (mergeV [])
  | _ => none
theorem listOf_r {kt : Kt} {B : Bs} {W : Wd} {σ : L2.St} {env : LEnv} {G : Gst} {x : Vl} {v : V} {ys : List Vl} (A : RAll kt B W σ env G) (hx : Pk kt.K W .f x v) (e : listOf G x = some ys) : ∃ a vs, v = .ref a ∧ Reps kt.K W ys vs ∧ SqL kt.K W.H a vs := by
  unfold listOf at e
  split at e
  · rename_i q
    cases e
    obtain ⟨a, vs, e1, r, h⟩ := seqOf_r A hx q
    exact ⟨a, vs, e1, r, h⟩
  · cases e
theorem pairs_r {kt : Kt} {W : Wd} : ∀ {xs : List Vl} {vs : List V} {kvs : List (Vl × Vl)}, Reps kt.K W xs vs → pairsOf xs = some kvs →
    ∃ (ps : List Addr) (ks : List (Key × V)), vs = ps.map V.ref ∧ Paired (fun p kv => SqT kt.K W.H p [kV kv.1, kv.2]) ps ks ∧ RepD kt.K W keyOf kvs ks
  | [], _, _, h, e => by cases h; cases e; exact ⟨[], [], rfl, .nil, .nil⟩
  | x :: xs, _, kvs, h, e => by
    obtain ⟨v, r, rfl, h1, h2⟩ := h
    unfold pairsOf at e
    split at e
    · rename_i p ps e1 e2
      cases e
      obtain ⟨as, ks, rfl, q1, q2⟩ := pairs_r h2 e2
      unfold pairOf at e1
      split at e1
      · rename_i k v' ei
        split at e1
        · rename_i hk
          cases e1
          obtain ⟨q, eq⟩ := Option.isSome_iff_exists.mp hk
          obtain ⟨a, vs, rfl, r1, hq⟩ := rep_sqT h1 ei
          obtain ⟨u1, r2, rfl, g1, g2⟩ := r1
          obtain ⟨u2, r3, rfl, g3, g4⟩ := g2
          cases g4
          have hk2 := keyOf_rep g1 eq
          subst hk2
          exact ⟨a :: as, (q, u2) :: ks, rfl, .cons (hq W ExtR.refl) q1, .cons ⟨⟨eq, ok_rep g1⟩, g3⟩ q2⟩
        · cases e1
      · cases e1
    · cases e
theorem merge_r {K : PySem.W.Frag} {W : Wd} : ∀ {ps : List (Vl × Vl)} {ks : List (Key × V)} {acc : List (Vl × Vl)} {ak : List (Key × V)}, RepD K W keyOf ps ks → RepD K W keyOf acc ak → RepD K W keyOf (mergeV acc ps) (mergeK ak ks)
  | _, _, _, _, .nil, h => h
  | p :: ps, k :: ks, acc, ak, .cons r t, h => by
    show RepD K W keyOf (mergeV (putV acc p) ps) (mergeK (putK ak k.1 k.2) ks)
    refine merge_r t ?_
    unfold putV
    rw [r.1.1]
    exact h.put ⟨r.1.1, r.1.2⟩ r.2
def dDictV (ds : DA) : DE := fun env G => (ds env G).bind fun xs G1 => match oPairs G1 xs with
  | some kvs => .ok (.dct false kvs) G1
  | none => .bad
def dDictO (ds : DA) : DE := fun env G => (ds env G).bind fun xs G1 => match oPairs G1 xs with
  | some kvs => .ok (.ref G1.length) (G1 ++ [.dct false false kvs])
  | none => .bad
section
variable {kt : Kt} {B : Bs} {X : Cx} {p pa pb pc : Bool} {m ma mb mc : Md} {a b c e f : Expr} {es : List Expr} {da db dc d dv : DE} {ds : DA} {pos pos' apos cpos np : Pos} {x : Str}
theorem oPairs_r {W : Wd} {σ : L2.St} {env : LEnv} {G : Gst} {xs : List Vl} {vs : List V} {kvs : List (Vl × Vl)} (A : RAll kt B W σ env G) (hx : PkS kt.K W m xs vs) (e : oPairs G xs = some kvs) :
    ∃ (a : Addr) (ps : List Addr) (ks : List (Key × V)), vs = [.ref a] ∧ SqL kt.K W.H a (ps.map V.ref) ∧ Paired (fun p kv => SqT kt.K W.H p [kV kv.1, kv.2]) ps ks ∧ RepK kt.K W kvs (mergeK [] ks) := by
  unfold oPairs at e
  split at e
  · obtain ⟨v, rfl, h⟩ := hx.one
    obtain ⟨ys, e1, e2⟩ := Option.bind_eq_some_iff.mp e
    obtain ⟨ps, e3, rfl⟩ := Option.map_eq_some_iff.mp e2
    obtain ⟨a, us, rfl, r, hq⟩ := listOf_r A h.any e1
    obtain ⟨as, ks, rfl, q1, q2⟩ := pairs_r r e3
    exact ⟨a, as, ks, rfl, hq, q1, RepK.of (merge_r q2 .nil)⟩
  · cases e
theorem sx_dictO (hc : X.calm = true) (ha : SAm kt B X p m (e :: es) ds) (hg : Gl X "dict" := by rfl) (hm : X.mg "dict" = none := by rfl)
    (he : starEach (e :: es) X.env = (false, eval e X.env) :: starEach es X.env := by rfl) (hpl : (backTo pos (starEach es X.env)).any (·.1) = false := by rfl) (hK : X.K = kt.K := by rfl) : SX kt B X p .s (.Call (.Name "dict" np) (e :: es) [] pos) (dDictO ds) := fun Wish tk => by
  refine (pe_callTy (call_dictP hc) hg hm (by kernel_rfl) (ha Wish tk) (by decide) (by decide) he hpl).imp fun σ H Q ⟨W, env, G, e, A, h⟩ => ?_
  subst e
  refine ⟨W, env, G, rfl, A, h.bindL.mono ?_⟩
  rintro vs H1 ⟨W1, xs, G1, rfl, e1, A1, z1, h1⟩
  split at h1
  · rename_i kvs ek
    obtain ⟨a, ps, ks, rfl, q1, q2, q3⟩ := oPairs_r A1 z1 ek
    rw [hK]
    refine ⟨a, ps, ks, rfl, q1, q2, fun y hy => ?_⟩
    obtain ⟨e2, A2⟩ := A1.mkO (o := .dK (mergeK [] ks)) (ob := .dct false false kvs) hy rfl fun ee => ⟨_, ⟨_, rfl, q3.ext ee⟩, upd_same⟩
    exact h1 _ (.ref y) e2.weak A2 (.inl ⟨y, rfl, mkO_ref A1⟩)
  · exact h1.elim
end
def wkOf (G : Gst) : Vl → Option (Bool × List (Vl × Vl))
  | .dct t kvs => some (t, kvs)
  | .ref j => match G[j]? with
    | some (.dct true t kvs) => some (t, kvs)
    | _ => none
  | _ => none
def wkKeys (x : Vl) (G : Gst) : Option (List Vl) := (wkOf G x).map fun q => q.2.map (·.1)
def diKeys (d : DE) : DI := fun env G => (d env G).bind fun x G1 => opt (wkKeys x G1) G1
def vtOf (q : Bool × List (Vl × Vl)) : Option (List (Vl × Vl)) := match q.1 with
  | false => some q.2
  | true => none
def wkVals (x : Vl) (G : Gst) : Option (List Vl) := ((wkOf G x).bind vtOf).map fun kvs => kvs.map (·.2)
def diVals (d : DE) : DI := fun env G => (d env G).bind fun x G1 => opt (wkVals x G1) G1
def wkItems (x : Vl) (G : Gst) : Option (List Vl) := ((wkOf G x).bind vtOf).map fun kvs => kvs.map fun q => .stp [q.1, q.2]
def diItems (d : DE) : DI := fun env G => (d env G).bind fun x G1 => opt (wkItems x G1) G1
section
variable {kt : Kt} {B : Bs} {X : Cx} {p pa pb pc : Bool} {m ma mb mc : Md} {tg a b c e f : Expr} {es : List Expr} {da db dc d dv : DE} {ds : DA} {pos pos' apos cpos np : Pos} {x : Str}
end
section
variable {kt : Kt} {B : Bs} {X : Cx} {p pa pb pc : Bool} {m ma mb mc : Md} {tg a b c e f : Expr} {es : List Expr} {da db dc d dv : DE} {ds : DA} {pos pos' apos cpos np tpos : Pos} {x : Str}
end
end CardH
end
section
set_option maxHeartbeats 2000000
namespace CardH
open PySem PySem.Spec PyProof.Rows L2

section
variable {prog : Program} {w : World} {A : Around} {E : Value → Shared → Prop} {s : Shared}
open PySem.W PySem.Calls in
end

section
variable {X : Cx}
end
def pyD (x : Vl) : PyData := (py x 60).getD .none
section
variable {kt : Kt} {B : Bs} {X : Cx}
end

mutual
def cn : Nat → Vl → Bool
  | _, .non => true
  | _, .bl _ => true
  | _, .int _ => true
  | _, .str _ => true
  | n + 1, .tup xs => cns n xs
  | n + 1, .lst xs => cns n xs
  | _, _ => false
def cns : Nat → List Vl → Bool
  | _, [] => true
  | n, x :: xs => cn n x && cns n xs
end
def minV (y : Vl) (ys : List Vl) : Vl := ys.foldl (fun a z => if PySem.W.dataLt (pyD z) (pyD a) = true then z else a) y
def mmOk (xs : List Vl) : Bool := cns 60 xs && match pys xs 60 with
  | some ds => ds.all (fun d => ds.all (PySem.W.alike d)) && ds.all fun d => !isN d
  | none => false
def oMinV (G : Gst) : List Vl → Option Vl
  | [x] => (seqOf G x).bind fun q => match q.2 with
    | y :: ys => if mmOk (y :: ys) = true then some (minV y ys) else none
    | [] => none
  | _ => none
section
variable {X : Cx}
end
section
variable {kt : Kt} {B : Bs} {X : Cx}
end
end CardH
end
section
set_option maxHeartbeats 2000000
namespace CardH
open PySem PySem.Spec PyProof.Rows L2

def dDead : DS := fun _ _ => .bad
section
variable {kt : Kt} {B : Bs} {X : Cx}
theorem sss_dead {sts : List Stmt} : SSs kt B X sts dDead := fun Wish tk => ⟨fun pins s σ H D I ⟨W, env, G, e, A, h⟩ => h.elim⟩
def orF (o1 o2 : Gst → List Vl → Option Vl) (G : Gst) (xs : List Vl) : Option Vl := match o1 G xs with
  | some z => some z
  | none => o2 G xs
theorem FnS.or {f : Value} {o1 o2 : Gst → List Vl → Option Vl} (h1 : FnS kt X f o1) (h2 : FnS kt X f o2) : FnS kt X f (orF o1 o2) := by
  obtain ⟨r1, c1, s1⟩ := h1
  obtain ⟨r2, c2, s2⟩ := h2
  refine ⟨_, c1.or c2, fun B σ env G W xs vs z Q A hx e q => ?_⟩
  unfold orF at e
  split at e
  · cases e
    exact .inl (s1 B σ env G W xs vs z Q A hx (by assumption) q)
  · exact .inr (s2 B σ env G W xs vs z Q A hx e q)
end
def oMinA := orF oMinI oMinV
end CardH
end
section
set_option maxHeartbeats 4000000
namespace CardH
open PySem PySem.Spec PyProof.Rows L2
def andK (db : DE) (e : LEnv) (x : Vl) (G : Gst) : CardH.R Vl := match x with
  | .bl true => db e G
  | .bl false => .ok (.bl false) G
  | _ => .bad
def orK (db : DE) (e : LEnv) (x : Vl) (G : Gst) : CardH.R Vl := match x with
  | .bl false => db e G
  | .bl true => .ok (.bl true) G
  | _ => .bad
theorem dAndV_ev (da db : DE) (e : LEnv) (G : Gst) : dAndV da db e G = (da e G).bind (andK db e) := by
  unfold dAndV
  congr
theorem dOrV_ev (da db : DE) (e : LEnv) (G : Gst) : dOrV da db e G = (da e G).bind (orK db e) := by
  unfold dOrV
  congr
theorem andK_bl (db : DE) (e : LEnv) (b : Bool) (G : Gst) : andK db e (.bl b) G = if b = true then db e G else .ok (.bl false) G := by cases b <;> rfl
theorem orK_bl (db : DE) (e : LEnv) (b : Bool) (G : Gst) : orK db e (.bl b) G = if b = true then .ok (.bl true) G else db e G := by cases b <;> rfl
section
variable {α : Type} [DecidableEq α]
def uniq (acc l : List α) : List α := l.foldl (fun acc a => if a ∈ acc then acc else acc ++ [a]) acc
end
instance memKeyDec (q : Option L2.Key) (l : List (Option L2.Key)) : Decidable (q ∈ l) := @List.instDecidableMemOfLawfulBEq _ instBEqOfDecidableEq _ q l
end CardH
end
section
set_option maxHeartbeats 2000000
namespace CardH
open PySem PySem.Spec PyProof.Rows L2 RZ
section
variable {K : PySem.W.Frag} {a b : Addr} {xs ys : List V}
end
section
variable {kt : Kt} {B : Bs} {X : Cx} {p : Bool} {e f : Expr} {ds : DA} {pos np : Pos}
end
section
variable {X : Cx} {a b c d : Expr} {ta tb tc td : TE} {pos : Pos}
end
section
variable {kt : Kt} {B : Bs} {X : Cx} {p pa pb pc pd : Bool} {m ma mb mc md : Md} {a b c d : Expr} {da db dc dd : DE} {pos : Pos}
end
end CardH
end
section
set_option maxHeartbeats 2000000
namespace CardH
open PySem PySem.Spec PyProof.Rows L2 RZ
section
variable {kt : Kt} {X : Cx}
end
section
variable {kt : Kt} {B : Bs} {X : Cx} {pos : Pos} {j : Option Str}
end
end CardH
end
section
set_option maxHeartbeats 2000000
namespace CardH
open PySem PySem.Spec PyProof.Rows L2 RZ
section
variable {kt : Kt} {B : Bs} {X : Cx} {p pa pb pc : Bool} {m ma mb mc : Md} {a b c e f : Expr} {es : List Expr} {da db dc d dv : DE} {ds : DA} {pos pos' ps np : Pos} {x : Str}
end
section
variable {kt : Kt} {X : Cx}
end
end CardH
end
section
set_option maxHeartbeats 2000000
namespace CardH
open PySem PySem.Spec PyProof.Rows L2 RZ
section
variable {kt : Kt} {X : Cx}
end
end CardH
end
section
set_option maxHeartbeats 2000000
namespace CardH
open PySem PySem.Spec PyProof.Rows L2 RZ
section
variable {kt : Kt} {X : Cx}
end
end CardH
end
section
set_option maxHeartbeats 2000000
namespace CardH
open PySem PySem.Spec PyProof.Rows L2 RZ RT
section
variable {K : PySem.W.Frag} {a : Addr} {xs : List V}
end
section
variable {kt : Kt} {B : Bs} {X : Cx} {p pa pb : Bool} {m ma mb : Md} {tg a b e : Expr} {da db : DE} {pos np apos cpos : Pos}
def dGet1 (dd dk : DE) : DE := fun env G => (dd env G).bind fun x G1 => if (dctOf G1 x).isSome = true then (dk env G1).bind fun k G2 => opt (vGet G2 x k .non) G2 else .bad
end
end CardH
end
section
set_option maxHeartbeats 2000000
namespace CardH
open PySem PySem.Calls PyProof.Rows
section
variable {prog : Program} {w : World} {A : Around} {E : Value → Shared → Prop} {t : Shared} {x q : Addr} {up : Bool} {vs : List Value} {e1 : Nat} {P : PySem.Fin → Shared → Prop} {f : Value}
end
end CardH
end
section
set_option maxHeartbeats 2000000
namespace CardH
open PySem PySem.Spec PyProof.Rows L2
section
variable {X : Cx} {CX : CXT} {k : Nat} {f : Addr} {fd : FuncData} {ps : List Str} {sp : Sp} {pins : List (Addr × Obj)} {σ : L2.St} {H : Hp} {s : Shared}
end
end CardH
end
section
set_option maxHeartbeats 2000000
namespace CardH
open PySem PySem.Spec PyProof.Rows L2
section
variable {kt : Kt} {B : Bs} {σ : L2.St} {env : LEnv}
end
section
variable {kt : Kt} {B : Bs} {X : Cx} {p : Bool} {e : Expr} {ds : DA} {pos np fp kp : Pos} {x : Str} {k : Nat} {f : Addr} {Φ : FT}
end
end CardH
end
section
set_option maxHeartbeats 2000000
namespace CardH
open PySem PySem.Spec PyProof.Rows L2 LamX
def CodeAt (pos : Pos) (P : Addr) (H : Hp) (c' : Addr) : Prop := ∃ ps, H P = some (.tbl ps) ∧ codeAmong pos ps.toList = some (.ref c')
theorem codeAmong_pre {pos : Pos} {cv : Value} {m : List Value} (l : List Value) (h : TriplesOk l) (hc : codeAmong pos l = some cv) : codeAmong pos (l ++ m) = some cv := by
  fun_induction TriplesOk l with
  | case1 => simp [codeAmong] at hc
  | case2 a t b u x rest ih =>
    simp only [List.cons_append, codeAmong] at hc ⊢
    split at hc
    · rename_i q
      rw [if_pos q]
      exact hc
    · rename_i q
      rw [if_neg q]
      exact ih h hc
  | case3 l h1 h2 => exact h.elim
def TblsUp (H H' : Hp) : Prop := ∀ b ps, H b = some (.tbl ps) → ∃ more, H' b = some (.tbl (ps ++ more))
theorem CodeAt.up {pos : Pos} {P c' : Addr} {q : Str} {H H' : Hp} (h : CodeAt pos P H c') (t : TabS H P q) (u : TblsUp H H') : CodeAt pos P H' c' := by
  obtain ⟨ps, a, b⟩ := h
  obtain ⟨ps', a', tr, _⟩ := t
  rw [a] at a'
  cases a'
  obtain ⟨more, e⟩ := u _ _ a
  exact ⟨_, e, by rw [Array.toList_append]; exact codeAmong_pre _ tr b⟩
theorem CodeAt.code {pos : Pos} {P c' : Addr} {q : Str} {H : Hp} (h : CodeAt pos P H c') (t : TabS H P q) : H c' = some (CodeO c' q) := by
  obtain ⟨ps, a, b⟩ := h
  obtain ⟨ps', a', _, am⟩ := t
  rw [a] at a'
  cases a'
  obtain ⟨c, e1, e2⟩ := am _ _ b
  cases e1
  exact e2
def FunO (f : Addr) (o : Obj) : HO := .ext fun h => h.get? f = some o
section
variable {X : Cx} {pins : List (Addr × Obj)} {σ : L2.St} {H : Hp} {s : Shared}
end
structure LamP (N : List Str) (sc scope : Scope) (a : Str) (i : Nat) : Prop where
  kind : scope.kind = .function
  co : scope.isCoroutine = false
  gen : scope.isGenerator = false
  par : scope.names.lookup a = some .local
  ix : N[i]? = some a
  own : ∀ y ∈ scope.names, y.2 = .local → y.1 = a
  noc : ∀ y ∈ scope.names, y.2 ≠ .cell
  free : ∀ y ∈ scope.names, y.2 = .free → sc.names.lookup y.1 = some .cell ∨ sc.names.lookup y.1 = some .free
theorem LamP.has {X : Cx} {scope : Scope} {N : List Str} {a : Str} {i : Nat} (L : LamP N X.env.scope scope a i) (ok : X.Ok) : ∀ y ∈ scope.names, y.2 = .free → ∃ c, X.env.cells.lookup y.1 = some c := fun y hy e => by
  rcases L.free y hy e with k | k
  · exact ok.has _ (.inl k)
  · exact ok.has _ (.inr k)
section
variable {X : Cx} {pins : List (Addr × Obj)} {σ : L2.St} {H : Hp} {s : Shared}
abbrev lamO (X : Cx) (params : Arguments) (body : Expr) (scope : Scope) (pm : Value) (c' : Addr) (ctv : Value) : Obj := PySem.W.kla_obj "<lambda>" (X.env.qual ++ "<lambda>") params body scope (cloFrom X.env.cells scope.names []) pm c' ctv
end
end CardH
end
section
set_option maxHeartbeats 2000000
namespace CardH
open PySem PySem.Spec PyProof.Rows L2 LamX
section
open PySem.Calls
end
section
variable {X : Cx} {pins : List (Addr × Obj)} {σ : L2.St} {H : Hp} {s : Shared}
end
end CardH
end
section
set_option maxHeartbeats 2000000
namespace CardH
open PySem PySem.Spec PyProof.Rows L2 LamX
section
variable {X : Cx}
end
section
variable {kt : Kt} {B : Bs} {σ : L2.St} {env : LEnv}
end
section
variable {kt : Kt} {B : Bs} {X : Cx} {p p2 : Bool} {e : Expr} {ds : DA} {d : DE}
end
end CardH
end
section
set_option maxHeartbeats 2000000
namespace CardH
open PySem PySem.Spec PyProof.Rows L2 LamX
section
variable {X : Cx} {CX : CXT} {k : Nat} {f : Addr} {fd : FuncData} {ps : List Str} {sp : Sp}
end
section
variable {kt : Kt} {B : Bs} {σ : L2.St} {env : LEnv}
end
section
variable {kt : Kt} {B : Bs} {X : Cx} {p : Bool} {e : Expr} {ds : DA} {pos np fp kp : Pos} {x : Str} {k : Nat} {f : Addr} {Φ : FT}
end
end CardH
end
section
set_option maxHeartbeats 2000000
namespace CardH
open PySem PySem.Spec PyProof.Rows L2
section
variable {kt : Kt} {B : Bs} {X : Cx} {pos : Pos}
end
end CardH
end
section
set_option maxHeartbeats 2000000
namespace CardH
open PySem PySem.Spec PyProof.Rows L2
def oOrG (o1 : Gst → Vl → Vl → Option Vl) (o2 : Vl → Vl → Option Vl) : Gst → Vl → Vl → Option Vl := fun G x y => match o1 G x y with
  | some z => some z
  | none => o2 x y
theorem OpSG.or {kt : Kt} {X : Cx} {f : Value → Value → Sem Value} {o1 : Gst → Vl → Vl → Option Vl} {o2 : Vl → Vl → Option Vl} (h1 : OpSG kt X f o1) (h2 : OpS kt X f o2) : OpSG kt X f (oOrG o1 o2) := by
  obtain ⟨r1, a1, b1⟩ := h1
  obtain ⟨r2, a2, b2⟩ := h2
  refine ⟨fun x y H Q => r1 x y H Q ∨ r2 x y H Q, fun pins s σ H x y v u Q I rx ry h => ?_, fun B σ env G W x y v u z Q A hx hy e q => ?_⟩
  · rcases h with h | h
    · exact a1 pins s σ H x y v u Q I rx ry h
    · exact a2 pins s σ H x y v u Q I rx ry h
  · unfold oOrG at e
    split at e
    · rename_i z' e1
      cases e
      exact .inl (b1 B σ env G W x y v u z Q A hx hy e1 q)
    · exact .inr (b2 B σ env G W x y v u z Q A hx hy e q)
end CardH
end
section
set_option maxHeartbeats 2000000
namespace CardH
open PySem PySem.Spec PyProof.Rows L2
section
variable {kt : Kt} {B : Bs} {X : Cx}
end
end CardH
end
section
set_option maxHeartbeats 2000000
namespace CardH
open PySem PySem.Spec PyProof.Rows L2 LamX
section
variable {kt : Kt} {B : Bs} {X : Cx} {p pi pt pe : Bool} {elt tg iter : Expr} {ifs : List Expr} {scope : Scope} {own : List (Str × Nat)} {pos spos py : Pos} {sl : List Nat} {di : DI} {g : DG} {dt : DT} {de : DE}
end
end CardH
end
section
set_option maxHeartbeats 2000000
namespace CardH
open PySem PySem.Spec PyProof.Rows L2 RZ SrtR
section
variable {kt : Kt} {B : Bs} {X : Cx} {p pa pb pc : Bool} {m ma mb mc : Md} {a b c e f : Expr} {es : List Expr} {da db dc d dv : DE} {ds : DA} {pos pos' ps np : Pos} {x : Str}
end
section
variable {X : Cx}
end
section
variable {kt : Kt} {B : Bs} {X : Cx} {p : Bool} {e : Expr} {ds : DA} {pos np fp kp : Pos} {j : _}
end
end CardH
end
section
set_option maxHeartbeats 2000000
namespace CardH
open PySem PySem.Spec PyProof.Rows L2 RZ
section
variable {kt : Kt} {B : Bs} {X : Cx} {p pa pb pc : Bool} {m ma mb mc : Md} {a b c e : Expr} {dv : DE} {pos pos' : Pos} {x : Str}
end
end CardH
end
section
set_option maxHeartbeats 2000000
namespace CardH
open PySem PySem.Spec PyProof.Rows L2 RZ SrtR
section
variable {X : Cx}
end
section
variable {kt : Kt} {B : Bs} {X : Cx}
end
end CardH
end
section
set_option maxHeartbeats 4000000
namespace CardH
open PySem PySem.Spec PyProof.Rows L2
theorem pys_mapD {α : Type} (T : α → Vl) (D : α → PyData) (n : Nat) (h : ∀ a, py (T a) n = some (D a)) : ∀ l : List α, pys (l.map T) n = some (l.map D)
  | [] => by cases n <;> rfl
  | a :: l => by
    rw [List.map_cons]
    unfold pys
    rw [pys_mapD T D n h l, h a]; rfl
end CardH
end
section
set_option maxHeartbeats 2000000
namespace CardH
open PySem PySem.Spec PyProof.Rows L2 RZ
section
variable {X : Cx} {e : Expr} {t : TE} {apos cpos : Pos}
end
section
variable {kt : Kt} {B : Bs} {W W' : Wd} {σ : L2.St} {env : LEnv} {G : Gst} {p : Addr} {f : Heap → Prop}
end
section
variable {kt : Kt} {B : Bs} {X : Cx} {pa : Bool} {m : Md} {a : Expr} {da : DE} {pos np apos cpos kp fp : Pos} {n : Int} {j : _}
end
end CardH
end
section
set_option maxHeartbeats 2000000
namespace CardH
open PySem PySem.Spec PyProof.Rows L2 RZ
section
variable {kt : Kt} {B : Bs} {X : Cx} {p : Bool} {e f : Expr} {ds : DA} {pos np : Pos}
end
section
variable {kt : Kt} {B : Bs} {X : Cx} {p : Bool} {e : Expr} {d : DE} {pos : Pos}
end
end CardH
end
section
set_option maxHeartbeats 2000000
namespace CardH
open PySem PySem.Spec PyProof.Rows L2 RZ
section
variable {kt : Kt} {X : Cx}
end
end CardH
end
section
set_option maxHeartbeats 2000000
namespace CardH
open PySem PySem.Calls PyProof.Rows PySem.W
section
variable {prog : Program} {w : World} {A : Around} {R : Result → Shared → Prop} {it z q : Addr} {fp wr : List Addr} {G : Array GenState → Array GenState → Prop} {n : Nat} {P : Nat → Value → Prop} {St : Nat → Shared → Prop} {J0 : Shared → Prop} {J : Nat → Value → Value → Shared → Prop} {E : Value → Shared → Prop} {t0 : Shared}
end
end CardH
end
section
set_option maxHeartbeats 2000000
namespace CardH
open PySem PySem.Spec PyProof.Rows L2 LamX
section
variable {prog : Program} {w : World} {A : Around}
end
section
variable {X : Cx} {pins : List (Addr × Obj)} {σ : L2.St} {H : Hp} {s : Shared}
end
end CardH
end
section
set_option maxHeartbeats 2000000
namespace CardH
open PySem PySem.Spec PyProof.Rows L2 LamX
section
variable {kt : Kt} {B : Bs} {σ : L2.St} {env : LEnv}
end
section
variable {X : Cx}
end
section
variable {kt : Kt} {B : Bs} {X : Cx} {p p2 : Bool} {e : Expr} {ds : DA} {d : DE}
end
section
variable {X : Cx}
end
section
variable {kt : Kt} {B : Bs} {X : Cx} {p p2 : Bool} {e : Expr} {ds : DA} {d : DE}
end
end CardH
end
section
set_option maxHeartbeats 2000000
namespace CardH
open PySem PySem.Spec PyProof.Rows L2 RZ
section
variable {X : Cx}
open PySem.W PySem.Calls in
end
section
variable {kt : Kt} {B : Bs} {X : Cx} {pa : Bool} {m : Md} {a : Expr} {da : DE} {pos np apos cpos : Pos}
end
end CardH
end
section
set_option maxHeartbeats 2000000
namespace CardH
open PySem PySem.Spec PyProof.Rows L2
section
variable {X : Cx}
end
end CardH
end
section
set_option maxHeartbeats 2000000
namespace CardH
open PySem PySem.Spec PyProof.Rows L2
section
variable {kt : Kt} {B : Bs} {W W0 : Wd} {σ : L2.St} {env : LEnv} {G : Gst} {D : Addr} {ks0 ks : List (Key × V)} {od : Obj} {p : Bool}
theorem ExtR.putK (hT : W.Γ D = .tmp) (hD : W.H D = some (.dK ks0)) : ExtR p isTmp W (W.put D (.frz od (.dK ks)) .froz) where
  role := fun a _ ht => if_neg (fun e => by rw [e, hT] at ht; cases ht)
  keep := fun a o h _ ht _ => (upd_ne (fun e => by rw [e, hT] at ht; cases ht)).trans h
  tups := fun a zs h => (upd_ne (fun e => by rw [e, hD] at h; cases h)).trans h
  frz := fun a o u h _ => (upd_ne (fun e => by rw [e, hD] at h; cases h)).trans h
  there := fun a h => by
    show upd W.H D _ a ≠ none
    by_cases e : a = D
    · rw [e, upd_same]; simp
    · rw [upd_ne e]; exact h
  pre := ⟨[], by simp [Wd.put]⟩
theorem Ext.putK (e : Ext p W0 W) (h0 : W0.H D = none) (hD : W.H D = some (.dK ks0)) : Ext p W0 (W.put D (.frz od (.dK ks)) .froz) where
  role := fun a h => (if_neg (fun z => h (by rw [z]; exact h0))).trans (e.role a h)
  keep := fun a o h nt hp => (upd_ne (ne_of_none h h0)).trans (e.keep a o h nt hp)
  tups := fun a zs h => (upd_ne (ne_of_none h h0)).trans (e.tups a zs h)
  frz := fun a o u h => (upd_ne (ne_of_none h h0)).trans (e.frz a o u h)
  there := fun a h => by
    show upd W.H D _ a ≠ none
    rw [upd_ne (fun z => h (by rw [z]; exact h0))]; exact e.there a h
  pre := e.pre
theorem RAll.putK (A : RAll kt B W σ env G) (hT : W.Γ D = .tmp) (hD : W.H D = some (.dK ks0)) (h0 : B.W0.H D = none) : RAll kt B (W.put D (.frz od (.dK ks)) .froz) σ env G := by
  have e : ExtR true isTmp W (W.put D (.frz od (.dK ks)) .froz) := ExtR.putK hT hD
  refine ⟨⟨fun a ha => ?_, A.ok.rg.extR e rfl rfl (fun _ => rfl) (fun _ _ => rfl) rfl, ?_, fun b ps q => ?_⟩, A.re.extR e rfl rfl (fun _ => rfl), A.si.putK h0 hD, fun z a u o q => ?_⟩
  · show upd W.H D _ a ≠ none
    by_cases z : a = D
    · rw [z, upd_same]; simp
    · rw [upd_ne z]
      refine A.ok.tr a fun k => ha ?_
      show (if a = D then _ else W.Γ a) = .no
      rw [if_neg z]; exact k
  · refine tabs_but A.ok.tabs fun b u q k => (upd_ne (fun z => ?_)).trans q
    rw [z, hD] at q; cases q
    rcases k with ⟨_, k⟩ | ⟨_, k⟩ <;> cases k
  · have q : upd W.H D (.frz od (.dK ks)) b = some (.tbl ps) := q
    by_cases z : b = D
    · rw [z, upd_same] at q; cases q
    · rw [upd_ne z] at q; exact A.ok.tb b ps q
  · have q : upd W.H D (.frz od (.dK ks)) a = some (.frz u o) := q
    by_cases k : a = D
    · rw [k]
      show (if D = D then Role.froz else W.Γ D).lockable = true
      rw [if_pos rfl]
      rfl
    · rw [upd_ne k] at q
      have g : (W.put D (.frz od (.dK ks)) .froz).Γ a = W.Γ a := if_neg k
      rw [g]
      exact A.nl z a u o q
end
abbrev DP := LEnv → Gst → R (List (Vl × Vl))
def RepP (K : PySem.W.Frag) (W : Wd) : List (Vl × Vl) → List (V × V) → Prop
  | [], vs => vs = []
  | p :: ps, vs => ∃ v r, vs = v :: r ∧ (Rep K W p.1 v.1 ∧ Rep K W p.2 v.2) ∧ RepP K W ps r
theorem RepP.ext {K : PySem.W.Frag} {p : Bool} {W W' : Wd} (e : Ext p W W') : ∀ {ps : List (Vl × Vl)} {vs : List (V × V)}, RepP K W ps vs → RepP K W' ps vs
  | [], _, h => h
  | q :: ps, _, h => by
    obtain ⟨v, r, rfl, h1, h2⟩ := h
    exact ⟨v, r, rfl, ⟨Rep.ext e _ _ h1.1, Rep.ext e _ _ h1.2⟩, h2.ext e⟩
section
variable {kt : Kt} {B : Bs} {X : Cx} {pos : Pos} {p1 p2 : Bool} {k v : Expr} {dk dv : DE} {keys : List (Option Expr)} {values : List Expr} {r d : DP}
end
end CardH
end
section
set_option maxHeartbeats 2000000
namespace CardH
open PySem PySem.Spec PyProof.Rows L2
section
variable {kt : Kt} {X : Cx}
end
end CardH
end
section
set_option maxHeartbeats 4000000
namespace CardH
open PySem PySem.Spec PyProof.Rows L2
abbrev tS (r : List Str) : Vl := .tup (r.map .str)
abbrev lS (r : List Str) : Vl := .lst (r.map .str)
abbrev iT (r : List Int) : Vl := .tup (r.map .int)
abbrev iL (r : List Int) : Vl := .lst (r.map .int)
theorem vEqI (a b : Int) : vEq (.int a) (.int b) = some (.bl (decide (a = b))) := vEq_int a b
theorem inTT (l : List Str) (c : Str) : vInV (.str c) (tS l) = some (.bl (decide (c ∈ l))) := by
  show vInV (.str c) (.tup (l.map .str)) = _
  rw [vIn_strsT, List.contains_eq_mem]
theorem notinT (l : List Str) (c : Str) : vNotInV (.str c) (tS l) = some (.bl (!decide (c ∈ l))) := by
  have := inTT l c
  unfold vInV at this
  unfold vNotInV
  cases h : vIn (.str c) (tS l) with
  | none => rw [h] at this; cases this
  | some b => rw [h] at this; simp at this; simp [this]
def nx (nn : List Str) (k : Nat) : Str := nn.getD k ""
theorem inL (l : List Str) (c : Str) : vInV (.str c) (.lst (l.map .str)) = some (.bl (decide (c ∈ l))) := by
  rw [vIn_strsL, List.contains_eq_mem]
theorem notinL (l : List Str) (c : Str) : vNotInV (.str c) (.lst (l.map .str)) = some (.bl (!decide (c ∈ l))) := by
  have := inL l c
  unfold vInV at this
  unfold vNotInV
  cases h : vIn (.str c) (.lst (l.map .str)) with
  | none => rw [h] at this; cases this
  | some b => rw [h] at this; simp at this; simp [this]
theorem notinL' (l : List Str) (c : Str) : vNotInV (.str c) (lS l) = some (.bl (!decide (c ∈ l))) := notinL l c
theorem inL' (l : List Str) (c : Str) : vInV (.str c) (lS l) = some (.bl (decide (c ∈ l))) := inL l c
theorem len_lS (G : Gst) (l : List Str) : oLen G [lS l] = some (.int (l.length : Nat)) := by simp [oLen, seqOf]
theorem len_tS (G : Gst) (l : List Str) : oLen G [tS l] = some (.int (l.length : Nat)) := by simp [oLen, seqOf]
theorem len_iL (G : Gst) (l : List Int) : oLen G [iL l] = some (.int (l.length : Nat)) := by simp [oLen, seqOf]
abbrev SF := Str → Vl
def kd (ks : List Str) (F : SF) : List (Vl × Vl) := ks.map fun n => (.str n, F n)
section
variable {G : Gst} {x : Vl} {ks : List Str} {F : SF} (g : dctOf G x = some (false, kd ks F))
include g
end
section
variable {G : Gst} {x : Vl} {ks : List Str} {F : SF} (g : wkOf G x = some (false, kd ks F))
include g
end
end CardH
end
section
set_option maxHeartbeats 2000000
namespace CardH
open PySem PySem.Spec PyProof.Rows L2
end CardH
end
section
set_option maxHeartbeats 2000000
namespace CardH
open PySem PySem.Spec PyProof.Rows L2
structure Dat (α : Type) where
  N : α → Vl
  D : α → PyData
  hD : ∀ a, py (N a) 60 = some (D a)
  hc : ∀ a, cn 60 (N a) = true
  al : ∀ a b, PySem.W.alike (D a) (D b) = true
  nn : ∀ a, isN (D a) = false
  ni : ∀ a i, N a ≠ .int i
def mnO {α : Type} (D : α → PyData) : List α → Option α
  | [] => none
  | y :: ys => some (ys.foldl (fun a z => if PySem.W.dataLt (D z) (D a) = true then z else a) y)
section
variable {α : Type} (T : Dat α)
theorem Dat.pys (l : List α) : CardH.pys (l.map T.N) 60 = some (l.map T.D) := pys_mapD T.N T.D 60 T.hD l
theorem Dat.cns : ∀ l : List α, CardH.cns 60 (l.map T.N) = true
  | [] => rfl
  | s :: l => by
    rw [List.map_cons]
    unfold CardH.cns
    rw [Dat.cns l, T.hc]; rfl
theorem Dat.mmOk (l : List α) : CardH.mmOk (l.map T.N) = true := by
  unfold CardH.mmOk
  rw [T.pys, T.cns]
  simp only [Bool.and_eq_true, List.all_eq_true, List.mem_map, true_and]
  refine ⟨?_, ?_⟩
  · rintro d ⟨a, _, rfl⟩ e ⟨b, _, rfl⟩
    exact T.al a b
  · rintro d ⟨a, _, rfl⟩
    rw [T.nn]; rfl
theorem Dat.pyD (a : α) : CardH.pyD (T.N a) = T.D a := by
  unfold CardH.pyD
  rw [T.hD]; rfl
theorem Dat.noInt (y : α) (ys : List Vl) : intsOf (T.N y :: ys) = none := by
  have := T.ni y
  cases h : T.N y with
  | int i => exact absurd h (this i)
  | _ => rfl
theorem Dat.foldMin : ∀ (ys : List α) (y : α), (ys.map T.N).foldl (fun a z => if PySem.W.dataLt (CardH.pyD z) (CardH.pyD a) = true then z else a) (T.N y) = T.N (ys.foldl (fun a z => if PySem.W.dataLt (T.D z) (T.D a) = true then z else a) y)
  | [], y => rfl
  | z :: ys, y => by
    rw [List.map_cons, List.foldl_cons, List.foldl_cons, T.pyD, T.pyD]
    by_cases q : PySem.W.dataLt (T.D z) (T.D y) = true
    · rw [if_pos q, if_pos q, Dat.foldMin ys]
    · rw [if_neg q, if_neg q, Dat.foldMin ys]
theorem Dat.min (G : Gst) (l : List α) : oMinA G [.lst (l.map T.N)] = (mnO T.D l).map T.N := by
  cases l with
  | nil => rfl
  | cons y ys =>
    have h1 : oMinI G [.lst ((y :: ys).map T.N)] = none := by
      show ((intsOf (T.N y :: ys.map T.N)).bind minI).map Vl.int = none
      rw [T.noInt]; rfl
    unfold oMinA orF
    rw [h1]
    show (if CardH.mmOk ((y :: ys).map T.N) = true then some (minV (T.N y) (ys.map T.N)) else none) = _
    rw [if_pos (T.mmOk _)]
    show some ((ys.map T.N).foldl (fun a z => if PySem.W.dataLt (CardH.pyD z) (CardH.pyD a) = true then z else a) (T.N y)) = _
    rw [T.foldMin]; rfl
end
end CardH
end
section
set_option maxHeartbeats 2000000
namespace CardH
open PySem PySem.Spec PyProof.Rows L2 RZ
section
variable {X : Cx} {e st : Expr} {lo hi : Option Expr} {te : TE} {tl th ts : TO} {p2 pos : Pos}
end
section
variable {kt : Kt} {B : Bs} {X : Cx} {p pa pb pc pd : Bool} {m ma mb mc : Md} {a b c e : Expr} {da db dc d : DE} {pos : Pos} {dl dh dt : DO} {lo hi : Option Expr} {st : Expr}
end
section
variable {kt : Kt} {B : Bs} {X : Cx} {p pa pb pc : Bool} {m ma mb mc : Md} {a b c e f : Expr} {es : List Expr} {da db dc d dv : DE} {ds : DA} {pos pos' ps np : Pos} {x : Str}
end
end CardH
end
section
set_option maxHeartbeats 2000000
namespace CardH
open PySem PySem.Spec PyProof.Rows L2 RZ
section
variable {kt : Kt} {B : Bs} {X : Cx} {p pa pb pc : Bool} {m ma mb mc : Md} {a b c e f : Expr} {es : List Expr} {da db dc d dv : DE} {ds : DA} {pos tpos : Pos} {x : Str}
end
end CardH
end
section
set_option maxHeartbeats 2000000
namespace CardH
open PySem PySem.Spec PyProof.Rows L2 RZ
section
variable {X : Cx} {pins : List (Addr × Obj)} {σ : L2.St} {H : Hp} {s : Shared} {h' : Heap}
end
section
variable {X : Cx} {e : Expr} {t : TE} {apos cpos : Pos}
end
section
variable {kt : Kt} {B : Bs} {X : Cx} {pa : Bool} {m : Md} {a : Expr} {da : DE} {pos np apos cpos : Pos}
end
end CardH
end
section
set_option maxHeartbeats 2000000
namespace CardH
open PySem PySem.Spec PyProof.Rows L2 RZ
section
open PySem.W PySem.Calls
end
section
variable {kt : Kt} {B : Bs} {X : Cx} {pa : Bool} {m : Md} {a : Expr} {da : DE} {pos np apos cpos : Pos}
end
end CardH
end
section
set_option maxHeartbeats 2000000
namespace PySem
section
open AutoSeq1
variable {prog : Program} {w : World} {A : Around} {E : Value → Shared → Prop} {s : Shared}
end
end PySem
namespace CardH
open PySem PySem.Spec PyProof.Rows L2 RZ
section
variable {kt : Kt} {B : Bs} {X : Cx} {pa : Bool} {m : Md} {a : Expr} {da : DE} {pos np apos cpos : Pos}
end
end CardH
end
section
set_option maxHeartbeats 2000000
namespace CardH
open PySem PySem.Spec PyProof.Rows L2 LamX
section
variable {kt : Kt} {B : Bs} {X : Cx} {p p2 : Bool} {e : Expr} {ds : DA} {d : DE}
end
end CardH
end
section
set_option maxHeartbeats 2000000
namespace CardH
open PySem PySem.Spec PyProof.Rows L2 RZ SrtR
section
variable {X : Cx}
end
section
variable {kt : Kt} {B : Bs} {X : Cx} {pa : Bool} {m : Md} {a : Expr} {da : DE} {pos np : Pos}
end
end CardH
end
section
set_option maxHeartbeats 2000000
namespace CardH
open PySem PySem.Spec PyProof.Rows L2
end CardH
end
section
set_option maxHeartbeats 2000000
namespace CardH
open PySem PySem.Spec PyProof.Rows L2
section
variable {kt : Kt} {B : Bs} {X : Cx} {pa pb : Bool} {e f : Expr} {db dc : DE} {np apos cpos : Pos}
end
end CardH
end
section
set_option maxHeartbeats 2000000
namespace CardH
open PySem PySem.Spec PyProof.Rows L2
section
variable {kt : Kt} {B : Bs} {X : Cx} {W W' W2 : Wd} {σ : L2.St} {env : LEnv} {G : Gst} {a : Addr} {o : HO} {i : Nat} {p : Bool} {xs : List Vl} {vs : List V}
end
section
variable {kt : Kt} {B : Bs} {X : Cx} {p : Bool}
end
end CardH
end
section
set_option maxHeartbeats 2000000
namespace CardH
open PySem PySem.Spec PyProof.Rows L2
def mL {α : Type} (f : α → Vl) (l : List α) : Vl := .lst (l.map f)
def mT {α : Type} (f : α → Vl) (l : List α) : Vl := .tup (l.map f)
section
variable {α : Type} {G : Gst} {l m : List Str} {i j : List Int} {f : α → Vl} {r : List α} {xs : List Vl} {c d : Str} {a b : Int}
theorem fx_wS : walkOf (lS l) = some (l.map .str) := rfl
theorem fx_wT : walkOf (tS l) = some (l.map .str) := rfl
theorem fx_wI : walkOf (iL i) = some (i.map .int) := rfl
theorem fx_wJ : walkOf (iT i) = some (i.map .int) := rfl
theorem fx_wL : walkOf (mL f r) = some (r.map f) := rfl
theorem fx_wM : walkOf (mT f r) = some (r.map f) := rfl
theorem fx_wl : walkOf (.lst xs) = some xs := rfl
theorem fx_wt : walkOf (.tup xs) = some xs := rfl
theorem fx_ws : walkOf (.stp xs) = some xs := rfl
theorem fx_tS : oTuple G [lS l] = some (tS l) := rfl
theorem fx_tT : oTuple G [tS l] = some (tS l) := rfl
theorem fx_tI : oTuple G [iL i] = some (iT i) := rfl
theorem fx_tJ : oTuple G [iT i] = some (iT i) := rfl
theorem fx_tL : oTuple G [mL f r] = some (mT f r) := rfl
theorem fx_tM : oTuple G [mT f r] = some (mT f r) := rfl
theorem fx_tl : oTuple G [.lst xs] = some (.tup xs) := rfl
theorem fx_tt : oTuple G [.tup xs] = some (.tup xs) := rfl
theorem fx_ts : oTuple G [.stp xs] = some (.stp xs) := rfl
theorem fx_lS : oList G [lS l] = some (lS l) := rfl
theorem fx_lT : oList G [tS l] = some (lS l) := rfl
theorem fx_lI : oList G [iL i] = some (iL i) := rfl
theorem fx_lJ : oList G [iT i] = some (iL i) := rfl
theorem fx_lL : oList G [mL f r] = some (mL f r) := rfl
theorem fx_lM : oList G [mT f r] = some (mL f r) := rfl
theorem fx_ll : oList G [.lst xs] = some (.lst xs) := rfl
theorem fx_lt : oList G [.tup xs] = some (.lst xs) := rfl
theorem fx_ls : oList G [.stp xs] = some (.lst xs) := rfl
theorem fx_nS : oLen G [lS l] = some (.int (l.length : Nat)) := len_lS G l
theorem fx_nT : oLen G [tS l] = some (.int (l.length : Nat)) := len_tS G l
theorem fx_nI : oLen G [iL i] = some (.int (i.length : Nat)) := len_iL G i
theorem fx_nJ : oLen G [iT i] = some (.int (i.length : Nat)) := by simp [oLen, seqOf]
theorem fx_nL : oLen G [mL f r] = some (.int (r.length : Nat)) := by simp [oLen, seqOf, mL]
theorem fx_nM : oLen G [mT f r] = some (.int (r.length : Nat)) := by simp [oLen, seqOf, mT]
theorem fx_nl : oLen G [.lst xs] = some (.int (xs.length : Nat)) := rfl
theorem fx_nt : oLen G [.tup xs] = some (.int (xs.length : Nat)) := rfl
theorem fx_ns : oLen G [.stp xs] = some (.int (xs.length : Nat)) := rfl
theorem fx_iS : vInV (.str c) (lS l) = some (.bl (decide (c ∈ l))) := inL' l c
theorem fx_iT : vInV (.str c) (tS l) = some (.bl (decide (c ∈ l))) := inTT l c
theorem fx_oS : vNotInV (.str c) (lS l) = some (.bl (!decide (c ∈ l))) := notinL' l c
theorem fx_oT : vNotInV (.str c) (tS l) = some (.bl (!decide (c ∈ l))) := notinT l c
theorem fx_es : vEq (.str c) (.str d) = some (.bl (decide (c = d))) := rfl
theorem fx_us : vNe (.str c) (.str d) = some (.bl (!decide (c = d))) := rfl
theorem fx_ei : vEq (.int a) (.int b) = some (.bl (decide (a = b))) := vEqI a b
theorem fx_ui : vNe (.int a) (.int b) = some (.bl (!decide (a = b))) := by
  rw [vNe_int]
theorem eqv_strs : ∀ a b : List Str, PyData.eqvAll (a.map PyData.str) (b.map PyData.str) = decide (a = b)
  | [], [] => rfl
  | [], _ :: _ => rfl
  | _ :: _, [] => rfl
  | x :: a, y :: b => by
    show (PyData.eqv (.str x) (.str y) && PyData.eqvAll (a.map PyData.str) (b.map PyData.str)) = _
    rw [eqv_strs a b]
    have : PyData.eqv (.str x) (.str y) = decide (x = y) := rfl
    rw [this, Bool.eq_iff_iff]
    simp
theorem pys_strL (l : List Str) (n : Nat) : pys (l.map .str) n = some (l.map PyData.str) := pys_mapD .str PyData.str n (fun _ => by cases n <;> rfl) l
theorem fx_eS : vEq (lS l) (lS m) = some (.bl (decide (l = m))) := by
  have e : ∀ l : List Str, py (lS l) 60 = some (.list (l.map PyData.str)) := fun l => congrArg (Option.map _) (pys_strL l 59)
  unfold vEq
  rw [e, e, ← eqv_strs]; rfl
theorem fx_eT : vEq (tS l) (tS m) = some (.bl (decide (l = m))) := by
  have e : ∀ l : List Str, py (tS l) 60 = some (.tuple (l.map PyData.str)) := fun l => congrArg (Option.map _) (pys_strL l 59)
  unfold vEq
  rw [e, e, ← eqv_strs]; rfl
theorem fx_uS : vNe (lS l) (lS m) = some (.bl (!decide (l = m))) := by
  have e : ∀ l : List Str, py (lS l) 60 = some (.list (l.map PyData.str)) := fun l => congrArg (Option.map _) (pys_strL l 59)
  unfold vNe
  rw [e, e, ← eqv_strs]; rfl
theorem fx_uT : vNe (tS l) (tS m) = some (.bl (!decide (l = m))) := by
  have e : ∀ l : List Str, py (tS l) 60 = some (.tuple (l.map PyData.str)) := fun l => congrArg (Option.map _) (pys_strL l 59)
  unfold vNe
  rw [e, e, ← eqv_strs]; rfl
theorem fx_eS0 : vEq (lS l) (.lst []) = some (.bl (decide (l = []))) := fx_eS (m := [])
theorem fx_eT0 : vEq (tS l) (.tup []) = some (.bl (decide (l = []))) := fx_eT (m := [])
theorem fx_uS0 : vNe (lS l) (.lst []) = some (.bl (!decide (l = []))) := fx_uS (m := [])
theorem fx_uT0 : vNe (tS l) (.tup []) = some (.bl (!decide (l = []))) := fx_uT (m := [])
end
section
variable {α : Type} {g : DG} {dt : DT} {de : DE} {env : LEnv} {G G1 : Gst} {vs : List Nat} {di : DI}
end
section
variable {α β : Type}
end
end CardH
end
section
set_option maxHeartbeats 2000000
namespace CardH
open PySem PySem.Spec PyProof.Rows L2
end CardH
end
section
set_option maxHeartbeats 2000000
namespace CardH
open PySem PySem.Spec PyProof.Rows L2
section
variable {d X : DE} {s : DS} {e e' : LEnv} {G G1 T : Gst} {j : Nat} {xs : List Vl} {y : Vl}
end
section
variable {α : Type} {g : DG} {de : DE} {env : LEnv} {G G1 : Gst} {vs : List Nat} {di : DI}
end
end CardH
end
section
set_option maxHeartbeats 2000000
namespace CardH
open PySem PySem.Spec PyProof.Rows L2
end CardH
end
section
set_option maxHeartbeats 2000000
namespace CardH
open PySem PySem.Spec PyProof.Rows L2 RZ SrtR
section
variable {kt : Kt} {B : Bs} {X : Cx} {p pa pb pc : Bool} {m ma mb mc : Md} {a b c e f : Expr} {es : List Expr} {da db dc d dv : DE} {ds : DA} {pos pos' ps np apos cpos : Pos} {x name : Str} {id : String}
end
end CardH
end
section
set_option maxHeartbeats 2000000
namespace CardH
open PySem PySem.Spec PyProof.Rows L2 RZ
section
variable {X : Cx} {e : Expr} {t : TE} {apos cpos : Pos}
end
section
variable {kt : Kt} {B : Bs} {X : Cx} {p pa : Bool} {m : Md} {a e : Expr} {es : List Expr} {da : DE} {ds : DA} {pos np apos cpos : Pos}
end
end CardH
end
section
set_option maxHeartbeats 2000000
namespace CardH
open PySem PySem.Spec PyProof.Rows L2 LamX
section
variable {X : Cx} {pins : List (Addr × Obj)} {σ : L2.St} {H : Hp} {s : Shared}
end
section
variable {X : Cx}
end
section
variable {kt : Kt} {B : Bs} {X : Cx} {p p2 : Bool} {e : Expr} {ds : DA} {d : DE}
end
end CardH
end
section
set_option maxHeartbeats 2000000
namespace CardH
open PySem PySem.Spec PyProof.Rows L2 PySem.SeqAt
open AutoSeq1 (wpAny_loadPart')
open MeetsSeq MeetsSeq2 MeetsSeq3 SeqRoads2
section
variable {kt : Kt} {X : Cx}
end
end CardH
end
section
set_option maxHeartbeats 2000000
namespace CardH
open PySem PySem.Spec PyProof.Rows L2 RZ SrtR
open PySem.W PySem.Calls in
open PySem.W PySem.Calls in
section
variable {X : Cx}
end
section
variable {kt : Kt} {B : Bs} {X : Cx} {p : Bool} {e : Expr} {ds : DA} {pos np fp kp : Pos} {j : _}
end
section
variable {kt : Kt} {X : Cx}
end
end CardH
end
section
set_option maxHeartbeats 2000000
namespace CardH
open PySem PySem.Spec PyProof.Rows L2
abbrev veT : List Value := [.type "ValueError", .type "Exception", .type "BaseException", .type "object"]
abbrev obody (p0 p1 ap cp p2 p3 sp p4 rp p5 : Pos) (ms : Str) (j : Nat) : List Stmt :=
  [.Expr (.Call (.Attribute (.Call (.Name "super" p0) [] [] p1) "__init__" ap) [.Constant (.str ms) j cp] [] p2) p3, .Assign [.Attribute (.Name "self" sp) "row" p4] (.Name "row" rp) p5]
structure OwnK (P : Program) (K : PySem.W.Frag) (C fI cc cda : Addr) (fd : FuncData) : Prop where
  iC : PySem.W.findIn K (.ref C) "__init__" = some (some (.ref fI))
  tI : PySem.W.isFn K (.ref fI) = true
  lk : ∃ oc od osl, K.lookup fI = some ⟨oc, od, .func fd, osl⟩
  clo : fd.closure = [(("__class__" : Str), cc)]
  gl : fd.globals = mainGlobals
  bl : fd.builtins = builtinsNs
  cd : fd.code = .ref cda
  cq : PySem.W.codeIn K (.ref cda) fd.qualname = true
  fl : ∃ ccl cdd vs ccs file tf, K.lookup cda = some ⟨ccl, cdd, .fields vs, ccs⟩ ∧ vs[2]? = some (.str file tf) ∧ ((P.main.file : Str) == file) = true
  cell : ∃ cl cld csl, K.lookup cc = some ⟨cl, cld, .cell (some (.ref C)), csl⟩
  q : PySem.W.excInitIn K C veT "ValueError.__new__" = true
  sa : PySem.W.findIn K (.ref C) "__setattr__" = some (some (.builtin "object.__setattr__"))
  sup : PySem.W.ks_superIn K C C "__init__" = some (some (.builtin "ValueError.__init__"))
  sv : PySem.W.subIn K (.ref C) (.type "ValueError") = some true
  mr : PySem.W.mroIn K C (.ref C) = some true
  opq : PySem.W.nsIn K cStatics "thirdparty.any" = some none
  cls : ∃ cd, PySem.W.clsIn K C = some cd ∧ PySem.HandSPX.refsVE cd.mro = true ∧ cd.hasDict = true
  na : PySem.W.findIn K (.ref C) "row" = some none
  top : (P.main.scope.names.lookup ("super" : Str)).isSome = false
theorem own_init {P : Program} {w : World} {K : PySem.W.Frag} {A : Around} {C fI cc cda : Addr} {fd : FuncData} {hp h2 : Heap} {g : Array GenState} {d : Drawn} {t : Nat} {os : OsState} {e t0 : Addr} {v : Value} {mg mb : Str → Option Value} {R : Result → Shared → Prop}
    {p0 p1 ap cp p2 p3 sp p4 rp p5 : Pos} {ms : Str} {j : Nat} {ar : Arg}
    (O : OwnK P K C fI cc cda fd) (hbody : fd.body = .stmts (obody p0 p1 ap cp p2 p3 sp p4 rp p5 ms j)) (hbind : bindArgs fd ⟨[.ref e, v], []⟩ = pure [(("self" : Str), .ref e), (("row" : Str), v)])
    (hcall : ∀ env : Env, ∃ pl : Sem Bool, eval (.Call (.Attribute (.Call (.Name "super" p0) [] [] p1) "__init__" ap) [.Constant (.str ms) j cp] [] p2) env = (do
      let ov ← attributeBase (.Call (.Name "super" p0) [] [] p1) "__init__" env (eval (.Call (.Name "super" p0) [] [] p1) env)
      standAt ap.atName
      let (f, first) ← holding [ov] (getMethod ov "__init__" pl)
      callWith p2 f first (backTo p2 (starEach [.Constant (.str ms) j cp] env)) []))
    (har : (fd.params.posonlyargs ++ fd.params.args).head? = some ar) (harn : ar.arg = "self")
    (hcell : ∀ x ∈ fd.scope.names, x.2 ≠ .cell) (hks : fd.scope.names.lookup ("super" : Str) = some .globalImplicit) (hkc : fd.scope.names.lookup ("__class__" : Str) = some .free) (hself : fd.scope.names.lookup ("self" : Str) = some .local) (hrow : fd.scope.names.lookup ("row" : Str) = some .local)
    (hco : fd.scope.isCoroutine = false) (hgen : fd.scope.isGenerator = false) (hkind : fd.scope.kind = .function)
    (X₀ : K.In hp) (hk : ∀ b o, hp.get? b = some o → h2.get? b = some o) (hsz : hp.objs.size ≤ h2.objs.size) (he : h2.get? e = some (PySem.W.excObj C t0 none .none)) (en : hp.get? e = none)
    (G : hp.Ns mainGlobals mg) (hm : mg "super" = none) (Bn : hp.Ns builtinsNs mb) (hb : mb "super" = some (.type "super")) (lim : hp.NoLimit) (hroom : A.depth < recursionLimit)
    (h : ∀ dx t1 h' tk', (∀ b o, hp.get? b = some o → h'.get? b = some o) → h'.get? e = some (PySem.W.excObj C t1 (some dx) .none) → hp.objs.size ≤ dx → dx ≠ e → h'.Ns1 dx (fun y => if y = "row" then some v else none) → R (.ok (.ret .none)) ⟨h', g, d, tk', os⟩) :
    codeAny (model P w) A (.call (.ref fI) ⟨[.ref e, v], []⟩) R ⟨h2, g, d, t, os⟩ := by
  obtain ⟨oc, od, osl, lk⟩ := O.lk
  have X2 : K.In h2 := fun a o q => hk _ _ (X₀ a o q)
  refine ks_codeAny_call_defAt hroom (X2 _ _ lk) rfl (lim.keeps hk) (by rw [O.cd]; exact PySem.W.codeRec_of X2 O.cq) hbody (BindsTo.of_eq hbind) hcell (fun x hx => ?_) (fun h0 hns k0 => ?_) hco hgen hkind
  · have hx : x = (("self" : Str), .ref e) ∨ x = (("row" : Str), v) := by simpa using hx
    rcases hx with rfl | rfl
    · exact hself
    · exact hrow
  have hkk : ∀ b o, hp.get? b = some o → h0.get? b = some o := fun b o q => k0 b o (hk b o q)
  have X0 : K.In h0 := fun a o q => hkk _ _ (X₀ a o q)
  have F : Fr hp h2.objs.size h0 _ := ⟨hns, hkk, hsz⟩
  have N : News hp h2.objs.size h0 [(e, PySem.W.excObj C t0 none .none)] := fun p hp' => by
    rw [List.mem_singleton.mp hp']
    exact ⟨k0 _ _ he, Nat.ne_of_lt (Heap.lt_size he), en⟩
  obtain ⟨ccl, cdd, vs, ccs, file, tf, lkc, hvs, hfile⟩ := O.fl
  obtain ⟨cl, cld, csl, lkk⟩ := O.cell
  obtain ⟨cdD, hcd, hmro, hdict⟩ := O.cls
  obtain ⟨oD, hD1, hD2⟩ : ∃ oD, h0.get? C = some oD ∧ oD.data = .cls cdD := by
    have hc2 := hcd
    unfold PySem.W.clsIn at hc2
    split at hc2
    · rename_i c d' cd' sl ho
      cases hc2
      exact ⟨_, X0 _ _ ho, rfl⟩
    · cases hc2
  have I : PySem.W.InstAt h0 e (PySem.W.excObj C t0 none .none) C none := PySem.W.InstAt.of_exc0 N (by simp)
  have hM : ∀ (k : Str) (u : Value), [(("self" : Str), Value.ref e), (("row" : Str), v)].reverse.lookup k = some u → ∀ {h1 : Heap}, h1.Ns h2.objs.size (fun x => [(("self" : Str), Value.ref e), (("row" : Str), v)].reverse.lookup x) → True := fun _ _ _ _ _ => trivial
  have hi : interactive (callEnv fd h2.objs.size fI) = false := by simp [interactive, callEnv, newEnv, hkind]
  obtain ⟨pl, hcl⟩ := hcall (callEnv fd h2.objs.size fI)
  refine ks_wpAt_execs_cons (ks_wpAt_Expr_any (hi := hi) (ks_wpAt_MethodCall (he := hcl) (ks_wpAt_super_base (env := callEnv fd h2.objs.size fI) hks hkc (by decide) rfl (X0 _ _ lk) rfl har O.cd (X0 _ _ lkc) rfl hvs hfile O.top ?_)))
  refine PySem.W.ks_loadName_global hkind hks (PySem.Calls.loadGlobal_builtin (env := callEnv fd h2.objs.size fI) (mg := mg) (mb := mb) (by show h0.Ns fd.globals mg; rw [O.gl]; exact G.keeps hkk) hm (by show h0.Ns fd.builtins mb; rw [O.bl]; exact Bn.keeps hkk) hb ⟨rfl, ?_⟩)
  refine wpAny_loadName_free (c := cc) (v := .ref C) hkind hkc (by show fd.closure.lookup _ = _; rw [O.clo]; rfl) ⟨_, X0 _ _ lkk, rfl⟩ ?_
  rw [harn]
  refine wpAny_loadName_local (v := .ref e) hkind hself hns rfl ?_
  refine ks_wpAny_isType_cls hD1 hD2 ⟨rfl, ?_⟩
  refine ks_wpAny_call_super hD1 hD2 I.at_ I.cls (fun c q => by cases q) (PySem.W.looks_mroIn X0 O.mr) (fun h1 q1 k1 => ?_)
  obtain ⟨F1, N1, l1⟩ := PySem.W.ks_newsPush (s := ⟨h0, g, d, t + 2, os⟩) F N rfl q1 k1
  generalize h0.objs.size = so at *
  have I1 : PySem.W.InstAt h1 e (PySem.W.excObj C t0 none .none) C none := PySem.W.InstAt.of_exc0 N1 (by simp)
  refine PySem.W.kxs_method PySem.W.kxs_ValueError F1 X₀ N1 (so := so) (D := C) (x := e) (C := C) (by exact List.mem_cons_self) I1 O.opq O.sup O.sv (by decide) (fun mw h3 F2 N2 l2 => ?_)
  refine PySem.W.kxs_callWith1 N2 (i := "ValueError.__init__") (x := e) (u := mw) List.mem_cons_self ?_
  show wpAny _ _ (spliced ((false, eval (.Constant (.str ms) j cp) (callEnv fd h2.objs.size fI)) :: backTo p2 (starEach [] (callEnv fd h2.objs.size fI)))) _ _ _
  refine PySem.Calls.spliced_cons (wpAny_Constant_str (PySem.Calls.spliced_nil ⟨PySem.W.kxs_at N2 List.mem_cons_self, ?_⟩))
  have e1 : so ≠ e := Nat.ne_of_gt (l1 _ (by simp : (e, PySem.W.excObj C t0 none .none) ∈ _))
  have e2 : mw ≠ e := Nat.ne_of_gt (l2 _ (by simp : (e, PySem.W.excObj C t0 none .none) ∈ _))
  refine PySem.W.kxs_call (s := ⟨h3, g, d, _, os⟩) F2 X₀ N2 PySem.F.excBase_ValueError O.q (u := mw) (x := e) List.mem_cons_self (.tail e2 (.tail e1 (.head (fun p hp' => absurd hp' List.not_mem_nil)))) (by show 1 ≤ sizeLine; rw [sizeLine_eq]; omega) (fun t3 h4 F3 N3 l3 => ?_)
  refine ks_wpAt_execs_cons (ks_wpAt_Assign_Attr ?_)
  have e3 : t3 ≠ e := Nat.ne_of_gt (l3 _ (by simp : (e, PySem.W.excObj C t0 none .none) ∈ _))
  refine wpAt_of_wpAny (wpAny_Name (wpAny_loadName_local (v := v) hkind hrow F3.ns rfl (wpAny_Name (wpAny_loadName_local (v := .ref e) hkind hself F3.ns rfl ?_))))
  have X4 : K.In h4 := fun a o q => F3.keep _ _ (X₀ a o q)
  have N4 := (N3 (e, PySem.W.excObj C t3 none .none) (by simp)).1
  refine PySem.W.set_plain (s := ⟨h4, g, d, _, os⟩) X4 (ox := PySem.W.excObj C t3 none .none) (od := none) (PySem.W.InstAt.of_exc0 N3 (by simp)) O.sa ?_
  refine PySem.HandSPX.exc_osa X4 N4 hcd hmro hdict O.na (fun h5 tk5 dx k5 dn dne hx hn => ?_)
  refine wpAt_of_wpAny (wpAny_execs_nil ?_)
  exact h dx t3 h5 _ (fun b o q => k5 b o (fun z => by rw [z, en] at q; cases q) (F3.keep b o q)) hx (Nat.le_trans F3.above (Nat.le_trans (Nat.le_of_lt F3.ns.lt) dn)) dne hn
end CardH
end
section
set_option maxHeartbeats 2000000
namespace CardH
open PySem PySem.Spec PyProof.Rows L2
structure OwnS (fd : FuncData) (p0 p1 ap cp p2 p3 sp p4 rp p5 : Pos) (ms : Str) (j : Nat) : Prop where
  body : fd.body = .stmts (obody p0 p1 ap cp p2 p3 sp p4 rp p5 ms j)
  bind : ∀ e v, bindArgs fd ⟨[.ref e, v], []⟩ = pure [(("self" : Str), .ref e), (("row" : Str), v)]
  call : ∀ env : Env, ∃ pl : Sem Bool, eval (.Call (.Attribute (.Call (.Name "super" p0) [] [] p1) "__init__" ap) [.Constant (.str ms) j cp] [] p2) env = (do
      let ov ← attributeBase (.Call (.Name "super" p0) [] [] p1) "__init__" env (eval (.Call (.Name "super" p0) [] [] p1) env)
      standAt ap.atName
      let (f, first) ← holding [ov] (getMethod ov "__init__" pl)
      callWith p2 f first (backTo p2 (starEach [.Constant (.str ms) j cp] env)) [])
  ar : ∃ ar : Arg, (fd.params.posonlyargs ++ fd.params.args).head? = some ar ∧ ar.arg = "self"
  cell : ∀ x ∈ fd.scope.names, x.2 ≠ .cell
  ks : fd.scope.names.lookup ("super" : Str) = some .globalImplicit
  kc : fd.scope.names.lookup ("__class__" : Str) = some .free
  self : fd.scope.names.lookup ("self" : Str) = some .local
  row : fd.scope.names.lookup ("row" : Str) = some .local
  co : fd.scope.isCoroutine = false
  gen : fd.scope.isGenerator = false
  kind : fd.scope.kind = .function
theorem pmk_ownI {X : Cx} {x : Str} {C fI cc cda : Addr} {fd : FuncData} {a : Expr} {ta : TE} {p pos : Pos} {p0 p1 ap cp p2 p3 sp p4 rp p5 : Pos} {ms : Str} {j : Nat}
    (O : OwnK X.prog X.K C fI cc cda fd) (S : OwnS fd p0 p1 ap cp p2 p3 sp p4 rp p5 ms j) (kC : PySem.W.keepIn X.K (.ref C) = true) (r : Raises X (.ref C)) (tI : PySem.W.typeIn X.K (.ref fI) = some (.type "function"))
    (hr : Room 1 X.A) (hg : Gl X x) (hm : X.mg x = some (.ref C)) (hms : X.mg "super" = none) (ha : PE X a ta)
    (hdb : (x == ("__debug__" : Str)) = false := by decide) (he : starEach [a] X.env = (false, eval a X.env) :: starEach [] X.env := by rfl) (hpl : (backTo pos (starEach [] X.env)).any (·.1) = false := by rfl) :
    PMk X (.Call (.Name x p) [a] [] pos) (fun σ H Q => ta σ H fun v H1 => ∀ dx, H1 dx = none → Q (.ref C) (some dx) (upd H1 dx (.xd [(("row" : Str), v)]))) := by
  intro pins s σ H Q I h
  refine wpAny_Call_Name_kw (ld_glob I hg hm ?_ hdb)
  have hpa : PA X [a] (tCons ta tNil) := pa_cons ha pa_nil he
  refine PySem.W.callWith_K (h₀ := X.base) I.ok.mod.kin kC (thn (hpa.run pos pins s σ H (fun vs H1 => match vs with | [v] => ∀ dx, H1 dx = none → Q (.ref C) (some dx) (upd H1 dx (.xd [(("row" : Str), v)])) | _ => False) I h) fun us s1 ⟨vs, H1, I1, r1, q1⟩ => ⟨I1.kIn, ?_⟩) he hpl
  cases r1 with
  | nil => exact q1.elim
  | @cons v u vs' us' ru rn =>
    cases rn with
    | cons _ _ => exact q1.elim
    | nil =>
    have q1 : ∀ dx, H1 dx = none → Q (.ref C) (some dx) (upd H1 dx (.xd [(("row" : Str), v)])) := q1
    show wpAny _ _ (call (.ref C) [u]) _ _ _
    obtain ⟨nm, N, qn, bs, bm, hdct, sn, sub, ab, col, dd, k0, k1, k2, k3, k5, hC, hT⟩ := PySem.W.excInit_of I1.kIn O.q
    obtain ⟨ar, har, harn⟩ := S.ar
    obtain ⟨mb, hmb, hmb2⟩ := I.ok.mod.blt
    obtain ⟨hp, g, dr, tk, os⟩ := s1
    have hsz : hp.objs.size ≤ hp.objs.size + 1 := Nat.le_succ _
    have kk : ∀ b o, hp.get? b = some o → ((hp.push (PySem.W.kdv_tup [u])).push (PySem.HandSPX.excO C hp.objs.size)).get? b = some o := fun b o e => Heap.get?_push_of_some _ (Heap.get?_push_of_some _ e)
    have hget : ((hp.push (PySem.W.kdv_tup [u])).push (PySem.HandSPX.excO C hp.objs.size)).get? (hp.objs.size + 1) = some (PySem.HandSPX.excO C hp.objs.size) := by heap_get
    have en : hp.get? (hp.objs.size + 1) = none := by
      cases q : hp.get? (hp.objs.size + 1) with
      | none => rfl
      | some o => exact absurd (Heap.lt_size q) (Nat.not_lt.mpr (Nat.le_succ _))
    have sz2 : hp.objs.size ≤ ((hp.push (PySem.W.kdv_tup [u])).push (PySem.HandSPX.excO C hp.objs.size)).objs.size := by
      have a1 : (hp.push (PySem.W.kdv_tup [u])).objs.size = hp.objs.size + 1 := Heap.size_push ..
      have a2 : ((hp.push (PySem.W.kdv_tup [u])).push (PySem.HandSPX.excO C hp.objs.size)).objs.size = (hp.push (PySem.W.kdv_tup [u])).objs.size + 1 := Heap.size_push ..
      rw [a2, a1]
      exact Nat.le_trans (Nat.le_succ _) (Nat.le_succ _)
    refine wpAny_call (PySem.HandSPX.call_own PySem.F.excBase_ValueError hT hC (PySem.W.looks_findIn I1.kIn O.iC) (fun self => PySem.W.bind_fn I1.kIn self tI) (by show 1 ≤ sizeLine; rw [sizeLine_eq]; omega)
      (own_init O S.body (S.bind _ _) S.call har harn S.cell S.ks S.kc S.self S.row S.co S.gen S.kind I1.kIn kk sz2 hget en (I.ok.mod.glob.keeps I1.bk) hms (hmb.keeps I1.bk) ((hmb2 _ (by decide)).trans (by kernel_rfl)) I1.nolimit (hr.make C [u] []).depth fun dx t1 h' tk' k he' dn dne hns => ?_))
    refine ⟨rfl, ?_⟩
    obtain ⟨G, gk, ge⟩ := restrict h' fun b => decide (b ≠ hp.objs.size + 1)
    have gk : ∀ b, b ≠ hp.objs.size + 1 → G.get? b = h'.get? b := fun b hb => gk b (decide_eq_true hb)
    have ge : G.get? (hp.objs.size + 1) = none := ge _ (by simp)
    have kG : ∀ b o, hp.get? b = some o → G.get? b = some o := fun b o q => by
      rw [gk b (fun z => by rw [z, en] at q; cases q)]
      exact k b o q
    have nG : G.Ns1 dx (fun y => if y = ("row" : Str) then some u else none) := hns.at fun o q => by rw [gk dx dne]; exact q
    have hok : ObjOk X.prog X.w (upd H1 dx (.xd [(("row" : Str), v)])) G dx (.xd [(("row" : Str), v)]) := by
      refine ⟨_, nG, fun f => ?_⟩
      exact relO_put (fs := []) (mA := fun _ => none) ru (fun g => True.intro) f
    have J := I1.laid (t' := tk') (a := dx) (o := .xd [(("row" : Str), v)]) (h' := G) kG dn hok
    have en2 : H1 (hp.objs.size + 1) = none := I1.hok.fresh hsz
    exact ⟨hp.objs.size + 1, _, _, ⟨G, g, dr, tk', os⟩, _, .ref C, some dx, rfl, J, fun b o q => by
      by_cases z : b = hp.objs.size + 1
      · rw [z, ge] at q; cases q
      · rw [← gk b z]; exact q, ge, he', ⟨rfl, rfl⟩, rfl, rfl, (by rw [upd_ne dne.symm]; exact en2), rfl, I1.bare, r, q1 dx (I1.hok.fresh dn)⟩
end CardH
end
section
set_option maxHeartbeats 2000000
namespace CardH
open PySem PySem.Spec PyProof.Rows L2
def XdOk (d : Option Addr) (H : Hp) : Prop := ∀ dx, d = some dx → ∃ fs, H dx = some (.xd fs)
theorem XdOk.up {d : Option Addr} {H : Hp} (h : XdOk d H) {p : Addr} {o : HO} (hp : H p = none) : XdOk d (upd H p o) := fun dx e => by
  obtain ⟨fs, q⟩ := h dx e
  exact ⟨fs, by rw [upd_ne (ne_of_none q hp)]; exact q⟩
theorem call_isE2 {X : Cx} {a D : Addr} {oe : Obj} {d : Option Addr} {pn : List (Addr × Obj)} (C : ExcC X.K D) (hz : Zc (.ref D) d oe) (hf : ∃ vs, oe.data = .fields vs) :
    CallR (X.suite a ((a, oe) :: pn)) (.builtin "isinstance") (fun xs H Q => ∃ (c : V) (cv : Value) (b : Bool), xs = [.ref a, c] ∧ (∀ u, RelV c u → u = cv) ∧ PySem.W.kitOne X.K (.ref D) cv = some b ∧ XdOk d H ∧ Q (.bl b) H) := by
  intro pins s σ H xs us Q I r h
  obtain ⟨c, cv, b, rfl, hcv, e, xd, q⟩ := h
  cases r with
  | cons rx rr =>
    cases rr with
    | cons rt rr =>
      cases rr
      cases rx
      have ec := hcv _ rt
      subst ec
      obtain ⟨hget, _⟩ := I.pin (a, oe) (List.mem_append.mpr (.inl List.mem_cons_self))
      obtain ⟨vs, hv⟩ := hf
      obtain ⟨odx, J⟩ : ∃ odx, PySem.W.InstAt s.heap a oe D odx := by
        obtain ⟨oc, od, oda, osl⟩ := oe
        obtain ⟨h1, h2⟩ := hz
        dsimp only at h1 h2 hv
        subst h1 h2 hv
        cases od with
        | none => exact ⟨none, hget, rfl, rfl, trivial⟩
        | some dx =>
          obtain ⟨fs, hfs⟩ := xd dx rfl
          obtain ⟨mA, ⟨o, es, ep, ho, _⟩, _⟩ := (show ∃ mA, s.heap.Ns1 dx mA ∧ ∀ f, RelO (fs.lookup f) (mA f) from I.hok dx _ hfs)
          exact ⟨some o, hget, rfl, rfl, ho⟩
      have cl : (PySem.W.clsIn X.K D).isSome = true := by
        obtain ⟨cd, hc, _⟩ := PySem.W.any_some C.hd
        rw [hc]; rfl
      exact PySem.W.kia_one (PySem.W.kitx_exc cl C.hg C.hk C.hs C.ha C.hn C.ht C.hm) I.kIn J e (fun z => nomatch z) fun tk => ⟨.bl b, H, I.kept (t' := tk) fun _ _ z => z, rfl, q⟩
section
variable {X : Cx} {a D : Addr} {oe : Obj} {d : Option Addr} {pn : List (Addr × Obj)} (C : ExcC X.K D) (hz : Zc (.ref D) d oe) (hf : ∃ vs, oe.data = .fields vs)
def tIsi (a : Addr) (d : Option Addr) (ie : Nat) (b : Bool) : TE := fun σ H Q => σ[ie]? = some (some (.ref a)) ∧ XdOk d H ∧ Q (.bl b) H
include C hz hf
theorem pe_isi {ie : Nat} {c : Str} {cv : V} {cu : Value} {b : Bool} {p1 p2 p3 p4 : Pos} (hN : X.N[ie]? = some "e") (hv : Vis X.env.scope "e") (hg : Gl X "isinstance") (hm : X.mg "isinstance" = none)
    (hc : PE (X.suite a ((a, oe) :: pn)) (.Name c p3) (tC cv)) (hu : ∀ u, RelV cv u → u = cu) (hk : PySem.W.kitOne X.K (.ref D) cu = some b)
    (he : starEach [.Name "e" p2, .Name c p3] X.env = (false, eval (.Name "e" p2) X.env) :: starEach [.Name c p3] X.env := by rfl) (he2 : starEach [.Name c p3] X.env = (false, eval (.Name c p3) X.env) :: starEach [] X.env := by rfl) (hpl : (backTo p4 (starEach [.Name c p3] X.env)).any (·.1) = false := by rfl) :
    PE (X.suite a ((a, oe) :: pn)) (.Call (.Name "isinstance" p1) [.Name "e" p2, .Name c p3] [] p4) (tIsi a d ie b) := by
  refine (pe_callB (X := X.suite a ((a, oe) :: pn)) (call_isE2 C hz hf) hg hm (by kernel_rfl) (pa_cons (pe_var (i := ie) hN hv) (pa_cons hc pa_nil he2) he) (by decide) (by decide) he hpl).imp fun σ H Q ⟨h1, h2, h3⟩ => ?_
  exact ⟨.ref a, h1, cv, cu, b, rfl, hu, hk, h2, h3⟩
end
end CardH
end
section
set_option maxHeartbeats 2000000
namespace CardH
open PySem PySem.Spec PyProof.Rows L2 LamX
section
variable {X : Cx} {pins : List (Addr × Obj)} {σ : L2.St} {H : Hp} {s : Shared}
theorem lam_newG {T : List (Addr × Str)} {c P : Addr} {params : Arguments} {body : Expr} {scope : Scope} {pos : Pos} {E : Value → Shared → Prop} {Q : Value → Shared → Prop} (I : Inv X pins σ H s) (TB : TabB X.base X.mg c P) (hcode : X.env.code = .ref c)
    (hm : (P, X.env.qual ++ "<lambda>") ∈ T) (hu : ∀ p ∈ T, p.1 = P → p.2 = X.env.qual ++ "<lambda>") (hT : Tabs T H) (hdef : defaultsOf params X.env = ([], [])) (hfree : ∀ y ∈ scope.names, y.2 = .free → ∃ c, X.env.cells.lookup y.1 = some c)
    (k : ∀ (f c' : Addr) (pm ctv : Value) (H1 : Hp) (s' : Shared), Inv X pins σ H1 s' → Grown T H H1 → s'.heap.get? f = some (PySem.W.kla_obj "<lambda>" (X.env.qual ++ "<lambda>") params body scope (cloFrom X.env.cells scope.names []) pm c' ctv) →
      H1 f = none → H f = none → FpOk X pins H1 f → CodeAt pos P H1 c' → TblsUp H H1 → Q (.ref f) s') : wpAny (model X.prog X.w) X.A (eval (.Lambda params body scope pos) X.env) Q E s := by
  obtain ⟨ps, atP, trip, among⟩ := hT _ hm
  have bP := TB.bm.keeps I.bk
  have get : s.heap.get? P = some { cls := .none, data := .fields ps } := I.hok P _ atP
  have nofr : ∀ f, s.heap.objs.size ≤ f → f ∉ frs X.stack := by
    intro f hf z
    rcases List.mem_cons.mp (I.stkSub _ z) with e | e
    · subst e; exact absurd (Nat.lt_of_lt_of_le I.lt hf) (Nat.lt_irrefl _)
    · exact I.nofs hf e
  refine PySem.W.kla_eval hdef ?_
  rcases e : codeAmong pos ps.toList with _ | cv
  · refine PySem.W.kla_makeFunction (mg := X.mg) (c := c) (P := P) (ps := ps) (closure_ok hfree) I.ok.glob (I.mod.glob.keeps I.bk) hcode (TB.code.keeps I.bk) get trip e TB.gP bP ?_
    intro c' ctv h' tk hx hge hlt ⟨c2, oc, vs, t, e2, hoc, hd, hv⟩ htb
    cases e2
    have new : H c' = none := I.hok.fresh hge
    have fsz := Nat.le_trans hge (Nat.le_of_lt hlt)
    have nf1 : h'.objs.size ≠ c' := Nat.ne_of_gt hlt
    have nf2 : h'.objs.size ≠ P := Nat.ne_of_gt (Nat.lt_of_lt_of_le (Heap.lt_size get) fsz)
    have nPc : P ≠ c' := ne_of_none atP new
    have J := inv_table (t' := tk) (more := #[rawInt pos.line, rawInt pos.col, .ref c']) (h' := h'.push (PySem.W.kla_obj "<lambda>" (X.env.qual ++ "<lambda>") params body scope (cloFrom X.env.cells scope.names []) ((X.mg "__name__").getD .none) c' ctv)) I atP
      (fun b o hb q => Heap.get?_push_of_some _ (hx b o hb q)) (Heap.get?_push_of_some _ htb) hge ⟨oc, vs, t, Heap.get?_push_of_some _ hoc, hd, hv⟩
    generalize hG : upd (upd H P (.tbl (ps ++ #[rawInt pos.line, rawInt pos.col, .ref c']))) c' (CodeO c' (X.env.qual ++ "<lambda>")) = H1 at J
    have at1 : H1 c' = some (CodeO c' (X.env.qual ++ "<lambda>")) := by rw [← hG]; exact upd_same
    have at2 : H1 P = some (.tbl (ps ++ #[rawInt pos.line, rawInt pos.col, .ref c'])) := by rw [← hG, upd_ne nPc]; exact upd_same
    have at3 : ∀ b, b ≠ c' → b ≠ P → H1 b = H b := fun b n1 n2 => by rw [← hG, upd_ne n1, upd_ne n2]
    have ex : ExtN H H1 := by
      intro b o q n
      have n2 : b ≠ P := by rintro rfl; rw [atP] at q; exact n ps (Option.some.inj q).symm
      rw [at3 b (ne_of_none q new) n2]; exact q
    refine k h'.objs.size c' ((X.mg "__name__").getD .none) ctv H1 _ J ⟨ex, ?_, fun b hb => ?_, fun b qs q => ?_⟩ (Heap.get?_push_size _ rfl) ?_ (I.hok.fresh fsz) (I.fpOk fsz (by rw [at3 _ nf1 nf2]; exact I.hok.fresh fsz)) ⟨_, at2, by rw [Array.toList_append]; exact codeAmong_snoc _ trip e⟩ (fun b qs q => by
      by_cases z : b = P
      · rw [z, atP] at q
        cases q
        exact ⟨_, z ▸ at2⟩
      · exact ⟨#[], by rw [at3 b (ne_of_none q new) z, q]; simp⟩)
    · intro p hp
      by_cases hb : p.1 = P
      · rw [hu p hp hb, hb]
        refine ⟨_, at2, ?_, fun p' cv hcv => ?_⟩
        · rw [Array.toList_append]; exact PySem.TriplesOk_snoc _ _ _ _ trip
        · rw [Array.toList_append] at hcv
          rcases among_app _ trip hcv with z | z
          · obtain ⟨c0, q1, q2⟩ := among p' cv z
            exact ⟨c0, q1, ex _ _ q2 codeO_ne⟩
          · exact ⟨c', z, at1⟩
      · obtain ⟨qs, a1, a2, a3⟩ := hT p hp
        refine ⟨qs, by rw [at3 _ (ne_of_none a1 new) hb]; exact a1, a2, fun p' cv hcv => ?_⟩
        obtain ⟨c0, q1, q2⟩ := a3 p' cv hcv
        exact ⟨c0, q1, ex _ _ q2 codeO_ne⟩
    · by_cases z : b = P
      · subst z; rw [at2]; simp
      · by_cases z' : b = c'
        · subst z'; exact absurd new hb
        · rw [at3 b z' z]; exact hb
    · by_cases z : b = P
      · subst z; exact ⟨_, at2⟩
      · exact ⟨qs, by rw [at3 b (ne_of_none q new) z]; exact q⟩
    · rw [at3 _ nf1 nf2]; exact I.hok.fresh fsz
  · obtain ⟨c', ec, hco⟩ := among pos cv e
    subst ec
    refine PySem.W.kla_makeFunctionHit (mg := X.mg) (c := c) (P := P) (ps := ps) (closure_ok hfree) I.ok.glob (I.mod.glob.keeps I.bk) hcode (TB.code.keeps I.bk) get trip e bP ?_
    intro ctv h' tk hx hsz
    have J : Inv X pins σ H { s with heap := h'.push (PySem.W.kla_obj "<lambda>" (X.env.qual ++ "<lambda>") params body scope (cloFrom X.env.cells scope.names []) ((X.mg "__name__").getD .none) c' ctv), toks := tk } := I.kept fun b o q => Heap.get?_push_of_some _ (hx b o q)
    exact k h'.objs.size c' ((X.mg "__name__").getD .none) ctv H _ J ⟨ExtN.refl H, hT, fun _ h => h, fun b qs q => ⟨qs, q⟩⟩ (Heap.get?_push_size _ rfl) (I.hok.fresh hsz) (I.hok.fresh hsz) (I.fpOk hsz (I.hok.fresh hsz)) ⟨ps, atP, e⟩ (fun b qs q => ⟨#[], by rw [q]; simp⟩)
end
def tLm0 (X : Cx) (T : List (Addr × Str)) (P : Addr) (lpos : Pos) (params : Arguments) (body : Expr) (scope : Scope) : TE := fun σ H Q => Tabs T H ∧ ∀ (f c' : Addr) (pm ctv : Value) (H2 : Hp), Grown T H H2 → TblsUp H H2 → H f = none → H2 f = some (FunO f (lamO X params body scope pm c' ctv)) → CodeAt lpos P H2 c' → Q (.ref f) H2
section
variable {X : Cx}
theorem pe_lam0 {T : List (Addr × Str)} {c P : Addr} {params : Arguments} {body : Expr} {scope : Scope} {lpos : Pos} (L : LamS X.env.scope scope) (TB : TabB X.base X.mg c P) (hcode : X.env.code = .ref c)
    (hm : (P, X.env.qual ++ "<lambda>") ∈ T) (hu : ∀ p ∈ T, p.1 = P → p.2 = X.env.qual ++ "<lambda>") (hdef : defaultsOf params X.env = ([], [])) : PE X (.Lambda params body scope lpos) (tLm0 X T P lpos params body scope) := by
  refine ⟨fun pins s σ H Q I ⟨hT, h⟩ => ?_⟩
  refine lam_newG I TB hcode hm hu hT hdef (L.has I.ok) fun f c' pm ctv H1 s' I1 gr hf hfn hf0 fp hco tu => ?_
  have ne : ∀ b o, H1 b = some o → upd H1 f (FunO f (lamO X params body scope pm c' ctv)) b = some o := fun b o e => by
    rw [upd_ne (ne_of_none e hfn)]; exact e
  refine ⟨.ref f, upd H1 f (FunO f (lamO X params body scope pm c' ctv)), I1.take (o := FunO f (lamO X params body scope pm c' ctv)) (t' := s'.toks) (fun b o _ e => e) fp ⟨hf, ⟨_, hf⟩, fun h1 h2 e st => st _ e⟩, rfl, h f c' pm ctv _ ⟨fun b o q n => ne _ _ (gr.ext b o q n), gr.tabs.ext ne, fun b hb => ?_, fun b ps q => ?_⟩ (fun b ps q => ?_) hf0 upd_same ?_⟩
  · have := gr.there b hb
    cases e : H1 b with
    | none => exact absurd e this
    | some o => rw [ne _ _ e]; simp
  · obtain ⟨ps', e⟩ := gr.tb b ps q
    exact ⟨ps', ne _ _ e⟩
  · obtain ⟨ps', e⟩ := tu b ps q
    exact ⟨ps', ne _ _ e⟩
  · obtain ⟨ps, e1, e2⟩ := hco
    exact ⟨ps, ne _ _ e1, e2⟩
end
structure LamR where
  params : Arguments
  body : Expr
  scope : Scope
  lpos : Pos
def LamR.ex (r : LamR) : Expr := .Lambda r.params r.body r.scope r.lpos
def tLms (X : Cx) (T : List (Addr × Str)) (P : Addr) : List LamR → TA
  | [] => tNil
  | r :: rs => tCons (tLm0 X T P r.lpos r.params r.body r.scope) (tLms X T P rs)
def LamIs (X : Cx) (P : Addr) (H0 H : Hp) : List LamR → List Addr → Prop
  | [], [] => True
  | r :: rs, f :: fs => (∃ (c' : Addr) (pm ctv : Value), H0 f = none ∧ H f = some (FunO f (lamO X r.params r.body r.scope pm c' ctv)) ∧ CodeAt r.lpos P H c') ∧ LamIs X P H0 H rs fs
  | _, _ => False
theorem LamIs.at {X : Cx} {P : Addr} {H0 H : Hp} : ∀ {rs : List LamR} {fs : List Addr}, LamIs X P H0 H rs fs → ∀ {k : Nat} {r : LamR}, rs[k]? = some r → ∃ f, fs[k]? = some f ∧ ∃ (c' : Addr) (pm ctv : Value), H0 f = none ∧ H f = some (FunO f (lamO X r.params r.body r.scope pm c' ctv)) ∧ CodeAt r.lpos P H c'
  | [], [], _, k, r, e => by cases e
  | r0 :: rs, f0 :: fs, h, k, r, e => by
    cases k with
    | zero => cases e; exact ⟨f0, rfl, h.1⟩
    | succ k => exact LamIs.at h.2 (k := k) e
  | [], _ :: _, h, _, _, _ => h.elim
  | _ :: _, [], h, _, _, _ => h.elim
section
variable {X : Cx} {T : List (Addr × Str)} {c P : Addr}
theorem pa_lams (TB : TabB X.base X.mg c P) (hcode : X.env.code = .ref c) (hm : (P, X.env.qual ++ "<lambda>") ∈ T) (hu : ∀ p ∈ T, p.1 = P → p.2 = X.env.qual ++ "<lambda>") : ∀ rs : List LamR, (∀ r ∈ rs, LamS X.env.scope r.scope ∧ defaultsOf r.params X.env = ([], [])) → PA X (rs.map LamR.ex) (tLms X T P rs)
  | [], _ => pa_nil
  | r :: rs, h => pa_cons (pe_lam0 (h r (by simp)).1 TB hcode hm hu (h r (by simp)).2) (pa_lams TB hcode hm hu rs fun r' h' => h r' (by simp [h'])) rfl
theorem Grown.trans {T : List (Addr × Str)} {H H1 H2 : Hp} (a : Grown T H H1) (b : Grown T H1 H2) : Grown T H H2 := ⟨a.ext.trans b.ext, b.tabs, fun x h => b.there x (a.there x h), fun x ps q => by
  obtain ⟨ps', e⟩ := a.tb x ps q
  exact b.tb x ps' e⟩
theorem TblsUp.trans {H H1 H2 : Hp} (a : TblsUp H H1) (b : TblsUp H1 H2) : TblsUp H H2 := fun x ps q => by
  obtain ⟨m1, e1⟩ := a x ps q
  obtain ⟨m2, e2⟩ := b x _ e1
  exact ⟨m1 ++ m2, by rw [e2, Array.append_assoc]⟩
theorem tLms_in {q : Str} (hm : (P, q) ∈ T) {σ : L2.St} {Qv : List V → Hp → Prop} : ∀ (rs : List LamR) (H : Hp), Tabs T H → (∀ (H' : Hp) (fs : List Addr), Grown T H H' → TblsUp H H' → LamIs X P H H' rs fs → Qv (fs.map V.ref) H') → tLms X T P rs σ H Qv
  | [], H, hT, k => k H [] ⟨ExtN.refl H, hT, fun _ h => h, fun b qs q => ⟨qs, q⟩⟩ (fun b qs q => ⟨#[], by rw [q]; simp⟩) trivial
  | r :: rs, H, hT, k => by
    refine ⟨hT, fun f c' pm ctv H2 g tu hf0 hf hc => ?_⟩
    refine tLms_in hm (Qv := fun xs H2 => Qv (.ref f :: xs) H2) rs H2 g.tabs fun H' fs g2 tu2 li => ?_
    refine k H' (f :: fs) (g.trans g2) (tu.trans tu2) ⟨⟨c', pm, ctv, hf0, g2.ext _ _ hf (fun ps z => by unfold FunO at z; cases z), hc.up (g.tabs _ hm) tu2⟩, ?_⟩
    have low : ∀ {rs : List LamR} {fs : List Addr}, LamIs X P H2 H' rs fs → LamIs X P H H' rs fs := by
      intro rs
      induction rs with
      | nil => intro fs h; cases fs with
        | nil => trivial
        | cons _ _ => exact h.elim
      | cons r rs ih => intro fs h; cases fs with
        | nil => exact h.elim
        | cons f fs =>
          obtain ⟨⟨c', pm, ctv, z, q⟩, h2⟩ := h
          refine ⟨⟨c', pm, ctv, ?_, q⟩, ih h2⟩
          cases e : H f with
          | none => rfl
          | some o => exact absurd z (g.there f (by rw [e]; simp))
    exact low li
end
section
variable {X : Cx} {CX : CXT} {k : Nat} {f C : Addr} {fd : FuncData} {ps : List Str} {sp : Sp} {E : L2.St → XK} {x m : Str} {p pos apos : Pos} {e o : Expr} {es : List Expr} {ta : TE} {t : TA}
theorem run_fnT {pins : List (Addr × Obj)} {σ : L2.St} {H : Hp} {s : Shared} {Q : VK} {us : List Value} {vs : List V} (F : FnOk X.prog X.w X.K X.mg X.base CX k f fd ps sp) (hr : Room k X.A) (hb : Binds X.K fd ps []) (hx : PassesAt CX X σ (E σ))
    (I : Inv X pins σ H s) (r : Vals vs us) (h : sp vs H (fun v H' => TblsUp H H' → Q v H') (E σ)) : wpAny (model X.prog X.w) X.A (call (.ref f) us) (EP X pins σ Q) X.xe s := by
  have hl : us.length = ps.length := by rw [← r.length]; exact F.len _ _ _ _ h
  have b := hb s us I.kIn (by rw [List.append_nil]; exact hl)
  rw [List.append_nil] at b
  refine wpAny_call (codeAny_mono (F.run X.A X.stack s H ⟨us, []⟩ us vs _ (E σ) hr I.env0 b r h) fun r s' hq => ?_)
  cases r with
  | error e => exact hx pins H s e s' I hq
  | ok fl =>
    cases fl with
    | ret u =>
      obtain ⟨v, H', h1, h2, un, h4, h5, q⟩ := hq
      exact I.after ⟨v, H', h1, h2, un, h4, h5, q un.tbls⟩
    | next => exact False.elim hq
    | brk => exact False.elim hq
    | cont => exact False.elim hq
theorem pe_callT (F : FnOk X.prog X.w X.K X.mg X.base CX k f fd ps sp) (hr : Room k X.A) (hg : Gl X x) (hm : X.mg x = some (.ref f)) (hk : PySem.W.keepIn X.K (.ref f) = true) (hb : Binds X.K fd ps []) (hx : ∀ σ, PassesAt CX X σ (E σ))
    (ha : PA X (e :: es) t) (hdb : (x == ("__debug__" : Str)) = false := by decide) (he : starEach (e :: es) X.env = (false, eval e X.env) :: starEach es X.env := by rfl) (hpl : (backTo pos (starEach es X.env)).any (·.1) = false := by rfl) :
    PE X (.Call (.Name x p) (e :: es) [] pos) (fun σ H Q => t σ H fun vs H1 => sp vs H1 (fun v H' => TblsUp H1 H' → Q v H') (E σ)) := by
  refine ⟨fun pins s σ H Q I h => ?_⟩
  refine wpAny_Call_Name_kw (ld_glob I hg hm ?_ hdb)
  refine PySem.W.callWith_K (h₀ := X.base) I.ok.mod.kin hk (thn (ha.run pos pins s σ H _ I h) fun us s1 ⟨vs, H1, I1, r, q⟩ => ⟨I1.kIn, ?_⟩) he hpl
  exact run_fnT F hr hb (hx σ) I1 r q
end
section
variable {X : Cx} {pins : List (Addr × Obj)} {σ : L2.St} {H : Hp} {s : Shared}
theorem pe_actF {CXg : CXT} {Eg : XK} {Ng : List Str} {qg : Str} {sg : Scope} {g f c' : Addr} {cdg pm ctv : Value} {params : Arguments} {body : Expr} {scope : Scope} {k i : Nat} {a : Str} {pn : List (Addr × Obj)} {xe : Value → Shared → Prop} {W : WX} {E : XK} {tb : TE} {p1 p2 : Pos}
    (I : Inv X pins σ H s) (L : LamS X.env.scope scope)
    (hbind : bindArgs (PySem.W.kla_fn "<lambda>" (X.env.qual ++ "<lambda>") params body scope (cloFrom X.env.cells scope.names []) pm (.ref c') ctv) ⟨[], []⟩ = pure [])
    (tk : Takes ((cxOf CXg X.prog X.w X.K X.mg X.base Ng qg sg g cdg X.A X.stack s H Eg).tr pn xe) W) (hW : ∀ cls d σ' H', σ'.length = Ng.length → E cls d H' → W cls d σ' H') (hr : Room (k + 1) (X.A.deeper (envOfC qg sg s.heap.objs.size g cdg)))
    (hbody : ∀ (A : Around) (outer : List Env) (s : Shared) (H : Hp), Room k (A.deeper (lamEnv X scope s.heap.objs.size f c')) → PE (lamCx X A outer s H E scope f c') body tb)
    (hN : Ng[i]? = some a) (hv : Vis sg a) (hd : (a == ("__debug__" : Str)) = false := by decide) (hcd : (a == ("__classdict__" : Str)) = false := by decide) :
    PE ((cxOf CXg X.prog X.w X.K X.mg X.base Ng qg sg g cdg X.A X.stack s H Eg).tr pn xe) (.Call (.Name a p1) [] [] p2)
      (fun σZ HZ Q => σZ[i]? = some (some (.ref f)) ∧ HZ f = some (FunO f (PySem.W.kla_obj "<lambda>" (X.env.qual ++ "<lambda>") params body scope (cloFrom X.env.cells scope.names []) pm c' ctv)) ∧ HZ c' = some (CodeO c' (X.env.qual ++ "<lambda>")) ∧ tb σ HZ Q) := by
  refine ⟨fun pinsZ sZ σZ HZ Q IZ h => ?_⟩
  obtain ⟨hs, hf, hc, ht⟩ := h
  refine wpAny_Call_Name_kw (thn ((pe_var (pos := p1) (i := i) hN hv hd hcd).run pinsZ sZ σZ HZ (fun v H1 => v = .ref f ∧ H1 = HZ) IZ ⟨.ref f, hs, rfl, rfl⟩) fun u s1 ⟨v, H1, I1, r1, q1⟩ => ?_)
  obtain ⟨ev, eH⟩ := q1
  subst ev
  rw [eH] at I1
  obtain rfl : u = Value.ref f := r1
  obtain ⟨of1, _, _⟩ := I1.hok f _ hf
  refine PySem.W.callWith_F0 ⟨_, _, _, _, of1⟩ ?_
  have un : Un (frs X.stack) [] H HZ s.heap s1.heap := I1.base
  obtain ⟨⟨oc, vs, t, hoc, hdc, hvc⟩, _, _⟩ := I1.hok c' _ hc
  have rc : codeAny (model X.prog X.w) (X.A.deeper (envOfC qg sg s.heap.objs.size g cdg)) (.call (.ref f) ⟨[], []⟩) (CR (L2.CX X.prog X.w) (envOfC qg sg s.heap.objs.size g cdg :: X.stack) X.prog X.w HZ s1 Q E) s1 := by
    refine PySem.W.kla_callFunE hr.depth of1 rfl L.co L.gen rfl ⟨c', oc, vs, t, rfl, hoc, hdc, hvc⟩ ?_
    rw [hbind]
    refine wpAny_pure (wpAny_newFunctionEnv (fun y hy => (L.own y hy).2) (fun y hy => absurd hy (by simp)) (fun h₁ hns hsb => ⟨I1.nolimit.fresh _ hsb, ?_⟩) L.kind)
    show codeAny _ _ (.expr body (lamEnv X scope s1.heap.objs.size f c')) _ _
    have kp : ∀ b o, s1.heap.get? b = some o → h₁.get? b = some o := fun b o e => hsb.extBut b o (Nat.ne_of_lt (Heap.lt_size e)) (Heap.get?_push_of_some _ e)
    have J : Inv (lamCx X (X.A.deeper (envOfC qg sg s.heap.objs.size g cdg)) (envOfC qg sg s.heap.objs.size g cdg :: X.stack) s1 HZ E scope f c') [] σ HZ { s1 with heap := h₁, toks := s1.toks + ([] : List (Str × Value)).length } :=
      lam_start2 I L I1.env0 hr.hd un hns kp
    refine PySem.W.kla_codeExpr (wpAny_mono ((hbody _ _ s1 HZ (hr.deeper _)).run [] _ _ HZ Q J ht) (fun v s' hq => ?_) fun e s' hq => hq)
    obtain ⟨w', H', J', rv, q⟩ := hq
    exact ⟨w', H', J'.os, J'.bare, J'.base, J'.hok, rv, q⟩
  have hx : Passes (L2.CX X.prog X.w) ((cxOf CXg X.prog X.w X.K X.mg X.base Ng qg sg g cdg X.A X.stack s H Eg).tr pn xe) E := fun pins σ H s e s' I c => tk e s' (XE.of_call I (fun cls d H' h => hW cls d σ H' I.len h) c)
  refine wpAny_call (codeAny_mono rc fun r s' hq => ?_)
  cases r with
  | error e => exact hx pinsZ σZ HZ s1 e s' I1 hq
  | ok fl =>
    cases fl with
    | ret u => exact I1.after hq
    | next => exact False.elim hq
    | brk => exact False.elim hq
    | cont => exact False.elim hq
end
end CardH
end
section
set_option maxHeartbeats 2000000
namespace CardH
open PySem PySem.Spec PyProof.Rows L2 LamX
structure LamB (kt : Kt) (B : Bs) (p : Bool) (X : Cx) (k : Nat) (params : Arguments) (body : Expr) (scope : Scope) (d : DE) : Prop where
  L : LamS X.env.scope scope
  bind : ∀ (q : Str) (cl : List (Str × Addr)) (pm cv ctv : Value), bindArgs (PySem.W.kla_fn "<lambda>" q params body scope cl pm cv ctv) ⟨[], []⟩ = pure []
  body : ∀ (A : Around) (outer : List Env) (s : Shared) (H : Hp) (E : XK) (f c' : Addr), Room k (A.deeper (lamEnv X scope s.heap.objs.size f c')) → SX kt B (lamCx X A outer s H E scope f c') p .s body d
abbrev lamOb (X : Cx) (params : Arguments) (body : Expr) (scope : Scope) (pm : Value) (c' : Addr) (ctv : Value) : Obj := PySem.W.kla_obj "<lambda>" (X.env.qual ++ "<lambda>") params body scope (cloFrom X.env.cells scope.names []) pm c' ctv
def UndQ (kt : Kt) (B : Bs) (p : Bool) (X : Cx) (k : Nat) (Ng : List Str) (ie : Nat) (cfA : Value) (ts : Addr → Value → Option Addr → TS) (σ : L2.St) (v : V) (H1 : Hp) (Q : VK) : Prop :=
  ∃ (f c' : Addr) (pm ctv : Value) (params : Arguments) (body : Expr) (scope : Scope) (d : DE) (W : Wd) (env : LEnv) (G G1 : Gst) (c1 : Ex), v = .ref f ∧ LamB kt B p X k params body scope d ∧
      H1 f = some (FunO f (lamOb X params body scope pm c' ctv)) ∧ H1 c' = some (CodeO c' (X.env.qual ++ "<lambda>")) ∧ W.H = H1 ∧ RAll kt B W σ env G ∧ d env G = .exn c1 G1 ∧ PySem.W.exmOne X.K (kt.exc c1.cls) cfA = some true ∧
      ∀ (W' : Wd) (od : Option Addr), Ext p W W' → RAll kt B W' σ env G1 → ExOk c1 od W'.H → ∀ (a : Addr) (σ' : L2.St), σ'.length = Ng.length → W'.H a = none → ts a (kt.exc c1.cls) od { nx := fun _ _ => False, rt := Q } (σ'.set ie (some (.ref a))) W'.H
section
variable {kt : Kt} {B : Bs} {X : Cx} {p : Bool}
theorem pe_und {x a cf en : Str} {g : Addr} {k ie : Nat} {sg : Scope} {Ng : List Str} {np pos p1 p2 p3 p7 p8 p9 : Pos} {b₀ last : Stmt} {suite : List Stmt} {cfA : Value} {ts : Addr → Value → Option Addr → TS} {tl : TS} {e : Expr} {te : TE}
    (D : ToldD kt x a g Ng sg [.Try [.Expr (.Call (.Name a p1) [] [] p2) p3] [.ExceptHandler (some (.Name cf p9)) (some en) (b₀ :: suite) p7] [] [] p8, last] [])
    (hie : Ng[ie]? = some en) (hln : sg.names.lookup en = some .local)
    (hcf : ∀ (cdv : Value) (s : Shared) (H : Hp), Names (cxOf C8.CX0 X.prog X.w X.K X.mg X.base Ng x sg g cdv X.A X.stack s H C8.E0).nox cf cfA)
    (hsu : ∀ (cdv : Value) (s : Shared) (H : Hp) (a : Addr) (oe : Obj) (cls : Value) (d : Option Addr) (pn : List (Addr × Obj)), Zc cls d oe → (∃ vs, oe.data = .fields vs) → PSs ((cxOf C8.CX0 X.prog X.w X.K X.mg X.base Ng x sg g cdv X.A X.stack s H C8.E0).nox.suite a ((a, oe) :: pn)) (b₀ :: suite) (ts a cls d))
    (hlast : ∀ (cdv : Value) (s : Shared) (H : Hp), PS (cxOf C8.CX0 X.prog X.w X.K X.mg X.base Ng x sg g cdv X.A X.stack s H C8.E0).nox last tl)
    (hmono : ∀ (a : Addr) (cls : Value) (d : Option Addr) (D D' : Ends) (σ : L2.St) (H : Hp), (∀ v H', D.rt v H' → D'.rt v H') → ts a cls d D σ H → ts a cls d D' σ H)
    (hr : Room (k + 2) X.A) (he : PE X e te)
    (hg : Gl X x := by rfl) (hK : X.K = kt.K := by rfl) (hmg : X.mg = kt.mg := by rfl) (hs : starEach [e] X.env = (false, eval e X.env) :: starEach [] X.env := by rfl) (hpl : (backTo pos (starEach [] X.env)).any (·.1) = false := by rfl) (hdb : (x == ("__debug__" : Str)) = false := by decide) (hd : (a == ("__debug__" : Str)) = false := by decide) (hcd : (a == ("__classdict__" : Str)) = false := by decide) :
    PE X (.Call (.Name x np) [e] [] pos) (fun σ H Q => te σ H fun v H1 => UndQ kt B p X k Ng ie cfA ts σ v H1 Q) := by
  obtain ⟨⟨oc, od, pg, dV, kV, doc, pm, an, cdv, ct, osl, lk, hcg, hb⟩, kp, gl, Sg, hNg, hva⟩ := D
  rw [← hK] at lk hcg hb kp
  rw [← hmg] at gl
  refine ⟨fun pins s σ H Q I h => ?_⟩
  refine wpAny_Call_Name_kw (ld_glob I hg gl ?_ hdb)
  refine PySem.W.callWith_K (h₀ := X.base) I.ok.mod.kin kp (thn ((pa_cons he pa_nil hs).run pos pins s σ H (fun vs H1 => (match vs with | [v] => UndQ kt B p X k Ng ie cfA ts σ v H1 Q | _ => False)) I h) fun us s1 ⟨vs, H1, I1, r1, q1⟩ => ⟨I1.kIn, ?_⟩) hs hpl
  cases r1 with
  | nil => exact q1.elim
  | @cons v u vs' us' ru rn =>
    cases rn with
    | cons _ _ => exact q1.elim
    | nil =>
    obtain ⟨f, c', pm', ctv, params, body, scope, d, W, env, G, G1, c1, rfl, LB, hf, hco, eW, A, ed, hex, hts⟩ := q1
    obtain rfl : u = Value.ref f := ru
    show wpAny _ _ (call (.ref g) [.ref f]) _ _ _
    have rc : codeAny (model X.prog X.w) X.A (.call (.ref g) ⟨[.ref f], []⟩) (CR C8.CX0 X.stack X.prog X.w H1 s1 Q C8.E0) s1 := by
      refine run_ofS (N := Ng) (ps := [a]) (us := [.ref f]) (vs := [.ref f]) lk hcg Sg hr I1.env0 (hb s1 [.ref f] I1.kIn rfl) (.cons rfl .nil) rfl fun hr' => ?_
      have X0 := ps_try_as (X := (cxOf C8.CX0 X.prog X.w X.K X.mg X.base Ng x sg g cdv X.A X.stack s1 H1 C8.E0).nox) (i := ie) (pos := p8) (body := [.Expr (.Call (.Name a p1) [] [] p2) p3]) (np := p9) (pos' := p7)
        (tb := fun Wi D σZ HZ => ∃ Ech : XK, (∀ cls d σ' H', σ'.length = Ng.length → Ech cls d H' → Wi cls d σ' H') ∧ σZ[0]? = some (some (.ref f)) ∧ HZ f = some (FunO f (lamOb X params body scope pm' c' ctv)) ∧ HZ c' = some (CodeO c' (X.env.qual ++ "<lambda>")) ∧ rdX kt B p (fun cls d _ H => Ech cls d H) (fun W x v => Pk kt.K W .s x v) d σ HZ (fun _ H' => D.nx σZ H'))
        rfl rfl Sg.nd hie hln (hcf cdv s1 H1) LamX.takes0 (fun Wi pn xe tkW _ => ?_) (hsu cdv s1 H1)
      · refine ⟨_, (pss_cons X0 (pss_one (hlast cdv s1 H1))).nox, ?_⟩
        refine ⟨fun cls d' H' => PySem.W.exmOne X.K cls cfA = some true ∧ ∀ (a : Addr) (σ' : L2.St), σ'.length = Ng.length → H' a = none → ts a cls d' { nx := fun _ _ => False, rt := Q } (σ'.set ie (some (.ref a))) H', fun cls d' σ' H' hl ⟨q1, q2⟩ => ⟨true, q1, fun _ a na => ?_, fun z => nomatch z⟩, ?_, hf, hco, W, env, G, eW, A, ?_⟩
        · exact hmono a cls d' { nx := fun _ _ => False, rt := Q } _ _ _ (fun v H' q => q) (q2 a σ' hl na)
        · have hpl : ([a] : List Str).length ≤ Ng.length := by
            have := congrArg List.length Sg.pre
            rw [List.length_take] at this; omega
          cases Ng with
          | nil => simp at hNg
          | cons y r => rfl
        · rw [ed]
          intro W' od' ee A' xo
          exact ⟨hex, fun a σ' hl na => hts W' od' ee A' xo a σ' hl na⟩
      · refine ⟨fun pinsZ sZ σZ HZ DZ IZ ⟨Ech, hW, z1, z2, z3, z4⟩ => ?_⟩
        have act := pe_actF (CXg := C8.CX0) (Eg := C8.E0) (Ng := Ng) (i := 0) (p1 := p1) (p2 := p2) (pm := pm') (ctv := ctv) I1 LB.L (LB.bind _ _ _ _ _) tkW hW hr' (fun A outer s2 H2 hr2 => LB.body A outer s2 H2 Ech f c' hr2 (fun cls d _ H => Ech cls d H) (takes_of rfl rfl rfl rfl)) hNg hva hd hcd
        exact (pss_one (ps_expr (pos := p3) act)).run pinsZ sZ σZ HZ DZ IZ ⟨z1, z2, z3, z4⟩
    refine wpAny_call (codeAny_mono rc fun r s2 hq => ?_)
    rcases r with e | fl
    · exact (show False from hq).elim
    · cases fl with
      | ret u => exact I1.after hq
      | next => exact False.elim hq
      | brk => exact False.elim hq
      | cont => exact False.elim hq
end
end CardH
end
section
set_option maxHeartbeats 2000000
namespace CardH
open PySem PySem.Spec PyProof.Rows L2 LamX
def dNeL (bs : List Bool) (dE : DE) : DT := fun env G => match dE env G with
  | .ok y G1 => match vNe (.lst (bs.map .bl)) y with
    | some (.bl b) => .ok b G1
    | _ => .bad
  | .exn c G1 => .exn c G1
  | .bad => .bad
def dLams (iw ik i0 : Nat) (Φ : FT) (n : Int) (ds : List DE) (uf : Ex → Option (List Bool)) (dE : DE) (s1 : DS) : DS := fun env G => if iw < env.length ∧ ik < env.length then match env[i0]? with
  | some (some (.val x)) => match Φ [x, .int n] G with
    | .ok (.int i) G1 => if 0 ≤ i then match ds[i.toNat]? with
      | some d => match d ((env.set iw none).set ik (some (.val (.int i)))) G1 with
        | .exn c G2 => match uf c with
          | some bs => sb ((env.set iw none).set ik (some (.val (.int i)))) (dNeL bs dE ((env.set iw none).set ik (some (.val (.int i)))) G2) fun b G3 => if b = true then s1 ((env.set iw none).set ik (some (.val (.int i)))) G3 else .nx ((env.set iw none).set ik (some (.val (.int i)))) G3
          | none => .bad
        | _ => .bad
      | none => .bad
      else .bad
    | _ => .bad
  | _ => .bad
  else .bad
theorem RAll.setN {kt : Kt} {B : Bs} {W : Wd} {σ : L2.St} {env : LEnv} {G : Gst} (A : RAll kt B W σ env G) (i : Nat) (v : Option V) : RAll kt B W (σ.set i v) (env.set i none) G :=
  ⟨A.ok, ⟨by rw [List.length_set, List.length_set]; exact A.re.len, fun j fv h => by
    by_cases e : i = j
    · subst e
      by_cases hl : i < env.length
      · rw [List.getElem?_set_self hl] at h; cases h
      · rw [List.getElem?_eq_none (by simpa using hl)] at h; cases h
    · rw [List.getElem?_set_ne e] at h
      rw [List.getElem?_set_ne e]
      exact A.re.sl j fv h⟩, A.si, A.nl⟩
theorem ExOk.xd {c : Ex} {od : Option Addr} {H : Hp} (h : ExOk c od H) : XdOk od H := fun dx e => by
  unfold ExOk at h
  split at h
  · rw [h] at e; cases e
  · obtain ⟨d, e2, q⟩ := h
    rw [e] at e2; cases e2
    exact ⟨_, q⟩
section
variable {kt : Kt} {B : Bs} {X : Cx} {p pE : Bool}
theorem sss_lams {Tl : List (Addr × Str)} {c P fr : Addr} {rs : List LamR} {ds : List DE} {iw ik i0 kk kr k ie : Nat} {n : Int} {jn : _} {Φ : FT} {uf : Ex → Option (List Bool)} {dE : DE} {s1 : DS} {es : List Expr} {e2 : Expr} {body : List Stmt} {me : _}
    {xw xk xd xr x a cf en : Str} {g : Addr} {sg : Scope} {Ng : List Str} {q1 q2 q3 q4 q5 q6 q7 q8 q9 q10 q11 q12 q13 q14 np p0 p1 p2 p3 p7 p8 p9 : Pos} {b₀ last : Stmt} {suite : List Stmt} {cfA : Value} {ts : Addr → Value → Option Addr → TS} {tl : TS}
    (hT : kt.T = tabsOf Tl) (TB : TabB X.base X.mg c P) (hcode : X.env.code = .ref c) (hmT : (P, X.env.qual ++ "<lambda>") ∈ Tl) (hu : ∀ p ∈ Tl, p.1 = P → p.2 = X.env.qual ++ "<lambda>")
    (hes : es = rs.map LamR.ex) (hrs : ∀ r ∈ rs, LamS X.env.scope r.scope ∧ defaultsOf r.params X.env = ([], [])) (hB : ∀ (k : Nat) (d : DE), ds[k]? = some d → ∃ r : LamR, rs[k]? = some r ∧ LamB kt B p X kk r.params r.body r.scope d) (hsz : rs.length ≤ 1000)
    (F : DFn X.prog X.w X.base kt kr fr 2 Φ) (hrr : Room kr X.A) (hfr : kt.mg xr = some (.ref fr)) (hlk : B.lk = false) (hp : B.p = false)
    (D : ToldD kt x a g Ng sg [.Try [.Expr (.Call (.Name a p1) [] [] p2) p3] [.ExceptHandler (some (.Name cf p9)) (some en) (b₀ :: suite) p7] [] [] p8, last] [])
    (hie : Ng[ie]? = some en) (hln : sg.names.lookup en = some .local)
    (hcf : ∀ (cdv : Value) (s : Shared) (H : Hp), Names (cxOf C8.CX0 X.prog X.w X.K X.mg X.base Ng x sg g cdv X.A X.stack s H C8.E0).nox cf cfA)
    (hsu : ∀ (cdv : Value) (s : Shared) (H : Hp) (a : Addr) (oe : Obj) (cls : Value) (d : Option Addr) (pn : List (Addr × Obj)), Zc cls d oe → (∃ vs, oe.data = .fields vs) → PSs ((cxOf C8.CX0 X.prog X.w X.K X.mg X.base Ng x sg g cdv X.A X.stack s H C8.E0).nox.suite a ((a, oe) :: pn)) (b₀ :: suite) (ts a cls d))
    (hlast : ∀ (cdv : Value) (s : Shared) (H : Hp), PS (cxOf C8.CX0 X.prog X.w X.K X.mg X.base Ng x sg g cdv X.A X.stack s H C8.E0).nox last tl)
    (hmono : ∀ (a : Addr) (cls : Value) (d : Option Addr) (D D' : Ends) (σ : L2.St) (H : Hp), (∀ v H', D.rt v H' → D'.rt v H') → ts a cls d D σ H → ts a cls d D' σ H)
    (hts : ∀ (c : Ex) (bs : List Bool), uf c = some bs → PySem.W.exmOne X.K (kt.exc c.cls) cfA = some true ∧ ∀ (H : Hp) (od : Option Addr) (a : Addr) (σ' : L2.St) (Q : VK), Tabs Tl H → XdOk od H → σ'.length = Ng.length → H a = none →
      (∀ (H4 : Hp) (p5 : Addr), Grown Tl H H4 → H4 p5 = none → Q (.ref p5) (upd H4 p5 (.lst (bs.map V.bl)))) → ts a (kt.exc c.cls) od { nx := fun _ _ => False, rt := Q } (σ'.set ie (some (.ref a))) H)
    (hr2 : Room (kk + 2) X.A) (hE : SX kt B X pE me e2 dE) (hs1 : SSs kt B X body s1)
    (hN : X.N.Nodup) (hiw : X.N[iw]? = some xw) (hik : X.N[ik]? = some xk) (hi0 : X.N[i0]? = some xd) (hlw : Loc X.env.scope xw) (hlk2 : Loc X.env.scope xk) (hv0 : Vis X.env.scope xd) (hvw : Vis X.env.scope xw) (hvk : Vis X.env.scope xk) (hne : iw ≠ i0) (hnk : ik ≠ iw)
    (hfw : X.fn xw = true ∨ X.env.scope.names.lookup xw = some .local) (hfk : X.fn xk = true ∨ X.env.scope.names.lookup xk = some .local) (hd0 : (xd == ("__debug__" : Str)) = false) (hc0 : (xd == ("__classdict__" : Str)) = false) (hdw : (xw == ("__debug__" : Str)) = false) (hcw : (xw == ("__classdict__" : Str)) = false) (hdk : (xk == ("__debug__" : Str)) = false) (hck : (xk == ("__classdict__" : Str)) = false)
    (hgr : Gl X xr) (hdr : (xr == ("__debug__" : Str)) = false) (hgu : Gl X x) (hdu : (x == ("__debug__" : Str)) = false) (hda : (a == ("__debug__" : Str)) = false) (hca : (a == ("__classdict__" : Str)) = false) (hc : X.calm = true) (hu64 : X.A.units + 64 < cLine) (hK : X.K = kt.K) (hmg : X.mg = kt.mg)
    (hw1 : swapsWith (.List es q2) (some (.Name xw q1)) q3.line X.env = pure false) (hw2 : swapsWith (.Call (.Name xr q6) [.Name xd q5, .Constant (.int n) jn q7] [] q8) (some (.Name xk q4)) q9.line X.env = pure false)
    (hs2 : starEach [.Name xd q5, .Constant (.int n) jn q7] X.env = (false, eval (.Name xd q5) X.env) :: starEach [.Constant (.int n) jn q7] X.env) (hs3 : starEach [.Constant (.int n) jn q7] X.env = (false, eval (.Constant (.int n) jn q7) X.env) :: starEach [] X.env) (hpl2 : (backTo q8 (starEach [.Constant (.int n) jn q7] X.env)).any (·.1) = false)
    (hs4 : starEach [.Subscript (.Name xw q10) (.Name xk q11) q12] X.env = (false, eval (.Subscript (.Name xw q10) (.Name xk q11) q12) X.env) :: starEach [] X.env) (hpl4 : (backTo q13 (starEach [] X.env)).any (·.1) = false) (hpi : PlainIx (.Name xk q11)) (hnm : behindInMarks .NotEq e2 = false) :
    SSs kt B X [.Assign [.Name xw q1] (.List es q2) q3, .Assign [.Name xk q4] (.Call (.Name xr q6) [.Name xd q5, .Constant (.int n) jn q7] [] q8) q9, .If (.Compare (.Call (.Name x np) [.Subscript (.Name xw q10) (.Name xk q11) q12] [] q13) [.NotEq] [e2] q14) body [] p0]
      (dLams iw ik i0 Φ n ds uf dE s1) := fun Wish tk => by
  subst hes
  have F0 := F
  obtain ⟨⟨fd, ps, F, b, l⟩, kp⟩ := F
  rw [← hK, ← hmg] at F
  rw [← hK] at b kp
  rw [← hmg] at hfr
  obtain ⟨r, hr, hs⟩ := (ops_ne (kt := kt) (X := X) hu64 hK : OpS kt X (compareOp .NotEq) vNe)
  have P1 := ps_set (pos := q3) (pos' := q1) hN hiw hlw (pe_lst (pos := q2) (pa_lams TB hcode hmT hu rs hrs)) hw1 hfw
  have P2 := ps_set (pos := q9) (pos' := q4) hN hik hlk2 (pe_callT (p := q6) (pos := q8) (E := WE Wish) F hrr hgr hfr kp b (passAt tk) (pa_cons (pe_var (pos := q5) hi0 hv0 hd0 hc0) (pa_cons (pe_int (i := n) (j := jn) (pos := q7)) pa_nil hs3) hs2) hdr hs2 hpl2) hw2 hfk
  have PU := pe_und (kt := kt) (B := B) (p := p) (np := np) (pos := q13) D hie hln hcf hsu hlast hmono hr2 (pe_ix (pos := q12) (ix_seq (X := X)) (pe_var (pos := q10) hiw hvw hdw hcw) (pe_var (pos := q11) hik hvk hdk hck) hpi) hgu hK hmg hs4 hpl4 hdu hda hca
  have P3 := ps_if (pos := p0) (pt_cmpR (pos := q14) hr PU (hE Wish tk) hnm) (hs1 Wish tk) (pss_nil (X := X))
  refine (pss_cons P1 (pss_cons P2 (pss_one P3))).imp fun D σ H ⟨W, env, G, eH, A, h⟩ => ?_
  subst eH
  have h : PoS kt B W Wish (dLams iw ik i0 Φ n ds uf dE s1 env G) D := h
  unfold dLams at h
  by_cases hlens : iw < env.length ∧ ik < env.length
  case neg => rw [if_neg hlens] at h; exact h.elim
  rw [if_pos hlens] at h
  cases ex : env[i0]? with
  | none => rw [ex] at h; exact h.elim
  | some o =>
  cases o with
  | none => rw [ex] at h; exact h.elim
  | some fv =>
  cases fv with
  | ol _ => rw [ex] at h; exact h.elim
  | od _ _ => rw [ex] at h; exact h.elim
  | val x0 =>
  rw [ex] at h
  dsimp only at h
  obtain ⟨v0, ev0, rv0, _⟩ := A.re.sl i0 (.val x0) ex
  have rv0 : Rep kt.K W x0 v0 := rv0
  show tLms X Tl P rs σ W.H _
  refine tLms_in hmT rs W.H (tabs_to (by rw [← hT]; exact A.ok.tabs)) fun H1 fs g1 tu li => ?_
  have fl : fs.length = rs.length := by
    have : ∀ (rs : List LamR) (fs : List Addr), LamIs X P W.H H1 rs fs → fs.length = rs.length := by
      intro rs
      induction rs with
      | nil => intro fs h; cases fs with
        | nil => rfl
        | cons _ _ => exact h.elim
      | cons r rs ih => intro fs h; cases fs with
        | nil => exact h.elim
        | cons f fs => rw [List.length_cons, List.length_cons, ih fs h.2]
    exact this rs fs li
  refine ⟨by rw [List.length_map, fl, sizeLine_eq]; omega, fun l hl0 => ?_⟩
  obtain ⟨e1, A1⟩ := A.grown hT g1
  have A2 := (A1.alloc (o := .lst (fs.map V.ref)) (r := .no) hl0 rfl rfl).setN iw (some (.ref l))
  have e2 : Ext true (⟨W.Γ, W.ρ, H1⟩ : Wd) ((⟨W.Γ, W.ρ, H1⟩ : Wd).alloc l (.lst (fs.map V.ref)) .no) := Ext.alloc hl0
  show ∃ v, (σ.set iw (some (.ref l)))[i0]? = some (some v) ∧ _
  refine ⟨v0, by rw [List.getElem?_set_ne hne]; exact ev0, ?_⟩
  dsimp only [tCons, tNil, tC]
  refine sp_of hlk hp A2 (xs := [x0, .int n]) ⟨v0, _, rfl, (rv0.ext e1).ext e2, _, _, rfl, rfl, rfl⟩ rfl ?_
  cases eΦ : Φ [x0, .int n] G with
  | bad => rw [eΦ] at h; exact h.elim
  | exn c G' => rw [eΦ] at h; exact h.elim
  | ok z G1 =>
  rw [eΦ] at h
  cases z with
  | int i =>
    dsimp only at h
    intro W3 v e3 A3 z3 tu3
    obtain rfl : v = .int i := z3.strict
    have A4 := A3.set (i := ik) (x := .int i) (v := .int i) rfl
    by_cases hi : 0 ≤ i
    · rw [if_pos hi] at h
      cases ed : ds[i.toNat]? with
      | none => rw [ed] at h; exact h.elim
      | some d =>
      rw [ed] at h
      dsimp only at h
      cases eb : d ((env.set iw none).set ik (some (.val (.int i)))) G1 with
      | bad => rw [eb] at h; exact h.elim
      | ok _ _ => rw [eb] at h; exact h.elim
      | exn c1 G2 =>
      rw [eb] at h
      dsimp only at h
      cases eu : uf c1 with
      | none => rw [eu] at h; exact h.elim
      | some bs =>
      rw [eu] at h
      dsimp only at h
      obtain ⟨r0, er, LB⟩ := hB _ _ ed
      obtain ⟨f, ef, c', pm, ctv, hf0, hf, hca⟩ := li.at er
      have hfl : f ≠ l := fun z => by rw [z, hl0] at hf; cases hf
      have h2f : (upd H1 l (.lst (fs.map V.ref))) f = some (FunO f (lamO X r0.params r0.body r0.scope pm c' ctv)) := by rw [upd_ne hfl]; exact hf
      have gf : W.Γ f = .no := by
        cases q : W.Γ f with
        | no => rfl
        | _ => exact absurd hf0 (A.ok.tr f (by rw [q]; simp))
      have h3f := e3.keep f _ h2f (fun ps z => by unfold FunO at z; cases z) (.inr (by show Role.still (if f = l then .no else W.Γ f) = true; rw [if_neg hfl, gf]; rfl))
      have h3l := e3.keep l _ (show (upd H1 l (.lst (fs.map V.ref))) l = some (.lst (fs.map V.ref)) from upd_same) (fun ps z => by cases z) (.inr (by show Role.still (if l = l then .no else W.Γ l) = true; rw [if_pos rfl]; rfl))
      have t2 : Tabs Tl (upd H1 l (.lst (fs.map V.ref))) := g1.tabs.ext fun b o q => by rw [upd_ne (ne_of_none q hl0)]; exact q
      have t3 : Tabs Tl W3.H := tabs_to (by rw [← hT]; exact A3.ok.tabs)
      have hc2 := hca.up (g1.tabs _ hmT) (H' := upd H1 l (.lst (fs.map V.ref))) (fun b ps q => ⟨#[], by rw [upd_ne (ne_of_none q hl0), q]; simp⟩)
      have hc3 := hc2.up (t2 _ hmT) tu3
      have hco := hc3.code (t3 _ hmT)
      have hlen : iw < σ.length := by rw [← A.re.len]; exact hlens.1
      have hlen2 : ik < (σ.set iw (some (.ref l))).length := by rw [List.length_set, ← A.re.len]; exact hlens.2
      have s1w : ((σ.set iw (some (.ref l))).set ik (some (.int i)))[iw]? = some (some (.ref l)) := by
        rw [List.getElem?_set_ne hnk, List.getElem?_set_self hlen]
      have s1k : ((σ.set iw (some (.ref l))).set ik (some (.int i)))[ik]? = some (some (.int i)) := List.getElem?_set_self hlen2
      refine ⟨.ref l, s1w, .int i, s1k, .inl ⟨l, fs.map V.ref, i, .ref f, rfl, rfl, ?_, ?_, ?_⟩⟩
      · exact .inl (.inl h3l)
      · rw [atI_int _ hi, List.getElem?_map, ef]; rfl
      · refine ⟨f, c', pm, ctv, r0.params, r0.body, r0.scope, d, W3, _, G1, G2, c1, rfl, LB, h3f, hco, rfl, A4, eb, (hts c1 bs eu).1, fun W' od e' A' xo a' σ' hl' na => (hts c1 bs eu).2 W'.H od a' σ' _ (tabs_to (by rw [← hT]; exact A'.ok.tabs)) xo.xd hl' na fun H4 p5 g4 hp5 => ?_⟩
        obtain ⟨e5, A5⟩ := A'.grown hT g4
        have rb : ∀ (W : Wd) (bs : List Bool), Reps kt.K W (bs.map Vl.bl) (bs.map V.bl) := by
          intro W bs
          induction bs with
          | nil => rfl
          | cons b bs ih => exact ⟨_, _, rfl, rfl, ih⟩
        obtain ⟨e6, A6, r6⟩ := new_lst A5 hp5 (rb _ bs)
        refine ⟨_, _, G2, rfl, A6, ?_⟩
        have eA : ExtS W ((⟨W'.Γ, W'.ρ, H4⟩ : Wd).alloc p5 (.lst (bs.map V.bl)) .froz) := ((((e1.toS.trans e2.toS).trans e3.toS).trans e'.toS).trans e5.toS).trans e6.toS
        have h6 := h.shiftS eA
        unfold dNeL at h6
        cases q : dE ((env.set iw none).set ik (some (.val (.int i)))) G2 with
        | bad => rw [q] at h6; exact h6
        | exn c G' => rw [q] at h6; exact fun W'' od e A z => h6 W'' _ od e.toS A z
        | ok y G3 =>
          rw [q] at h6
          dsimp only at h6
          intro W7 y' e7 A7 z7
          cases ez : vNe (.lst (bs.map .bl)) y with
          | none => rw [ez] at h6; exact h6.elim
          | some z =>
            rw [ez] at h6
            cases z with
            | bl b =>
              have h6 : PoS kt B _ Wish (if b = true then s1 _ G3 else .nx _ G3) D := h6
              refine hs B _ _ G3 W7 _ y (.ref p5) y' (.bl b) _ A7 (.inl (r6.ext e7)) z7.any ez fun W8 w e8 A8 r8 => ⟨b, r8, ?_⟩
              cases b with
              | true => rw [if_pos rfl] at h6 ⊢; exact ⟨W8, _, G3, rfl, A8, h6.shiftS (e7.toS.trans e8.toS)⟩
              | false => rw [if_neg Bool.false_ne_true] at h6 ⊢; exact h6 W8 _ (e7.toS.trans e8.toS) A8
            | _ => exact h6.elim
    · rw [if_neg hi] at h
      exact h.elim
  | _ => exact h.elim
end
end CardH
end
section
set_option maxHeartbeats 2000000
namespace CardH
open PySem PySem.Spec PyProof.Rows L2
abbrev FnN : Type := Option (Str × Arguments × FuncBody × Scope)
def initAt (K : PySem.W.Frag) (C : Addr) : Addr := match PySem.W.findIn K (.ref C) "__init__" with
  | some (some (.ref f)) => f
  | _ => 0
def fdAt (K : PySem.W.Frag) (f : Addr) : Option FuncData := match K.lookup f with
  | some ⟨_, _, .func fd, _⟩ => some fd
  | _ => none
theorem fdAt_eq {K : PySem.W.Frag} {f : Addr} {fd : FuncData} (h : fdAt K f = some fd) : ∃ oc od osl, K.lookup f = some ⟨oc, od, .func fd, osl⟩ := by
  unfold fdAt at h
  split at h
  · rename_i oc od fd' osl q
    cases h
    exact ⟨_, _, _, q⟩
  · cases h
def ownW (K : PySem.W.Frag) (x : Str) : FnN := (fdAt K (initAt K (He.ga K x))).map fun fd => (fd.qualname, fd.params, fd.body, fd.scope)
structure OwnD where
  name : Str
  qual : Str
  params : Arguments
  body : List Stmt
  scope : Scope
def OwnD.val (d : OwnD) : FnN := some (d.qual, d.params, .stmts d.body, d.scope)
def asY (g : Addr → Option Obj) (n : Nat) : List Addr := cStatics :: He.asD g n
abbrev AlY : Type := He.AlX × List FnN
def obsK (fa : List He.Fa) (fn : List He.DefD) (tf : List He.Defn) (ex : PySem.W.Frag → Bool) (ow : List OwnD) (g : Addr → Option Obj) (K : PySem.W.Frag) : AlY :=
  ((He.obsT fa fn [] K, ex K && He.tabsB g tf K), ow.map fun d => ownW K d.name)
def obsY (n : Nat) (fa : List He.Fa) (fn : List He.DefD) (tf : List He.Defn) (ex : PySem.W.Frag → Bool) (ow : List OwnD) (g : Addr → Option Obj) : AlY := obsK fa fn tf ex ow g (He.frT g (asY g n))
structure SaysY (fa : List He.Fa) (fn : List He.DefD) (tf : List He.Defn) (ex : PySem.W.Frag → Bool) (ow : List OwnD) (w : World) (h : Heap) (K : PySem.W.Frag) : Prop where
  x : He.SaysX fa fn [] tf ex w h K
  o : ow.map (fun d => ownW K d.name) = ow.map OwnD.val
theorem tab_some {o : Option Obj} (h : (match o with | some o => He.emptyTab o | none => false) = true) : ∃ u, o = some u ∧ He.emptyTab u = true := by
  cases o with
  | none => cases h
  | some u => exact ⟨u, rfl, h⟩
theorem saysY_of {fa : List He.Fa} {fn : List He.DefD} {tf : List He.Defn} {ex : PySem.W.Frag → Bool} {ow : List OwnD} {w : World} {h : Heap} {as : List Addr}
    (e : obsK fa fn tf ex ow h.get? (He.frT h.get? as) = (He.valX fn [] w, ow.map OwnD.val)) : SaysY fa fn tf ex ow w h (He.frT h.get? as) := by
  have e1 := congrArg (fun z : AlY => z.1.1) e
  have e2 : (ex (He.frT h.get? as) && He.tabsB h.get? tf (He.frT h.get? as)) = true := congrArg (fun z : AlY => z.1.2) e
  have e3 := congrArg (fun z : AlY => z.2) e
  have h2 := He.ba e2
  have tb : ∀ p ∈ tf, _ ∧ _ := fun p hp => He.ba (List.all_eq_true.mp h2.2 p hp)
  exact ⟨⟨e1, h2.1, fun p hp => (tb p hp).1,
    fun p hp => let ⟨_, q, z⟩ := tab_some (tb p hp).2; He.frT_none q z,
    fun p hp => let ⟨_, q, z⟩ := tab_some (tb p hp).2; q.trans (congrArg some (He.emptyTab_eq z))⟩, e3⟩
def hookY (n : Nat) (fa : List He.Fa) (fn : List He.DefD) (tf : List He.Defn) (ex : PySem.W.Frag → Bool) (ow : List OwnD) : PySem.W.Hook where
  α := AlY
  obs := fun s => obsY n fa fn tf ex ow s.heap.get?
  val := fun w => (He.valX fn [] w, ow.map OwnD.val)
  says := fun w h => ∃ K : PySem.W.Frag, K.In h ∧ SaysY fa fn tf ex ow w h K
  of := fun _ _ e => ⟨_, He.frT_in, saysY_of e⟩
  keeps := fun _ _ _ ⟨K, hK, c⟩ k => ⟨K, PySem.W.Frag.In.keeps hK k, ⟨⟨c.x.t, c.x.more, c.x.hd, c.x.out, fun p hp => k _ _ (c.x.empty p hp)⟩, c.o⟩⟩
theorem obsY_eq {n : Nat} {fa : List He.Fa} {fn : List He.DefD} {tf : List He.Defn} {ex : PySem.W.Frag → Bool} {ow : List OwnD} {g : Addr → Option Obj} {s : Shared} (h : ∀ a, g a = s.heap.get? a) : obsY n fa fn tf ex ow g = (hookY n fa fn tf ex ow).obs s := by
  have e : g = s.heap.get? := funext h
  rw [e] <;> rfl
theorem SaysY.own {fa : List He.Fa} {fn : List He.DefD} {tf : List He.Defn} {ex : PySem.W.Frag → Bool} {ow : List OwnD} {w : World} {h : Heap} {K : PySem.W.Frag} (c : SaysY fa fn tf ex ow w h K) (i : Nat) {d : OwnD} (hi : ow[i]? = some d := by rfl) : ownW K d.name = d.val := by
  have e : (ow.map fun d => ownW K d.name)[i]? = (ow.map OwnD.val)[i]? := by rw [c.o]
  rw [List.getElem?_map, List.getElem?_map, hi] at e
  exact Option.some.inj e
def codeFileB (K : PySem.W.Frag) (file0 : Str) (a : Addr) : Bool := match K.lookup a with
  | some ⟨_, _, .fields vs, _⟩ => (match (vs[2]? : Option Value) with
    | some (.str f _) => decide (f = file0)
    | _ => false)
  | _ => false
def cellB (K : PySem.W.Frag) (cc C : Addr) : Bool := match K.lookup cc with
  | some ⟨_, _, .cell (some (.ref D)), _⟩ => decide (D = C)
  | _ => false
def veClsB (K : PySem.W.Frag) (C : Addr) : Bool := match PySem.W.clsIn K C with
  | some cd => PySem.HandSPX.refsVE cd.mro && cd.hasDict
  | none => false
def ownB (K : PySem.W.Frag) (file0 : Str) (C : Addr) : Bool := match fdAt K (initAt K C) with
  | some fd => (match fd.closure, fd.code, fd.defaults with
    | [(n, cc)], .ref cda, .none => decide (n = "__class__") && (decide (fd.globals = mainGlobals) && (decide (fd.builtins = builtinsNs) && (PySem.W.codeIn K (.ref cda) fd.qualname && (codeFileB K file0 cda && (cellB K cc C && (He.eqO (PySem.W.findIn K (.ref C) "__init__") (some (some (.ref (initAt K C)))) && (PySem.W.isFn K (.ref (initAt K C)) && (PySem.W.excInitIn K C veT "ValueError.__new__" && (He.eqO (PySem.W.findIn K (.ref C) "__setattr__") (some (some (.builtin "object.__setattr__"))) && (He.eqO (PySem.W.ks_superIn K C C "__init__") (some (some (.builtin "ValueError.__init__"))) && (decide (PySem.W.subIn K (.ref C) (.type "ValueError") = some true) && (decide (PySem.W.mroIn K C (.ref C) = some true) && (He.eqO (PySem.W.nsIn K cStatics "thirdparty.any") (some none) && (veClsB K C && (He.eqO (PySem.W.findIn K (.ref C) "row") (some none) && (PySem.W.keepIn K (.ref C) && (decide (PySem.W.subIn K (.ref C) (.type "BaseException") = some true) && (decide (PySem.W.typeIn K (.ref C) = some (.type "type")) && (decide (PySem.W.typeIn K (.ref (initAt K C)) = some (.type "function")))))))))))))))))))))
    | _, _, _ => false)
  | none => false
structure OwnF (P : Program) (K : PySem.W.Frag) (C cc cda : Addr) (fd : FuncData) : Prop where
  at_ : fdAt K (initAt K C) = some fd
  df : fd.defaults = .none
  k : OwnK P K C (initAt K C) cc cda fd
  kC : PySem.W.keepIn K (.ref C) = true
  sb : PySem.W.subIn K (.ref C) (.type "BaseException") = some true
  ty : PySem.W.typeIn K (.ref C) = some (.type "type")
  tI : PySem.W.typeIn K (.ref (initAt K C)) = some (.type "function")
theorem codeFileB_ok {K : PySem.W.Frag} {file0 : Str} {a : Addr} (h : codeFileB K file0 a = true) : ∃ ccl cdd vs ccs tf, K.lookup a = some ⟨ccl, cdd, .fields vs, ccs⟩ ∧ vs[2]? = some (.str file0 tf) := by
  unfold codeFileB at h
  split at h
  · rename_i c d vs sl q
    split at h
    · rename_i f t e
      rw [of_decide_eq_true h] at e
      exact ⟨_, _, _, _, _, q, e⟩
    · cases h
  · cases h
theorem cellB_ok {K : PySem.W.Frag} {cc C : Addr} (h : cellB K cc C = true) : ∃ cl cld csl, K.lookup cc = some ⟨cl, cld, .cell (some (.ref C)), csl⟩ := by
  unfold cellB at h
  split at h
  · rename_i c d D sl q
    rw [of_decide_eq_true h] at q
    exact ⟨_, _, _, q⟩
  · cases h
theorem veClsB_ok {K : PySem.W.Frag} {C : Addr} (h : veClsB K C = true) : ∃ cd, PySem.W.clsIn K C = some cd ∧ PySem.HandSPX.refsVE cd.mro = true ∧ cd.hasDict = true := by
  unfold veClsB at h
  split at h
  · rename_i cd q
    exact ⟨cd, q, He.ba h⟩
  · cases h
theorem ownB_ok {P : Program} {K : PySem.W.Frag} {file0 : Str} {C : Addr} (h : ownB K file0 C = true) (hf : ((P.main.file : Str) == file0) = true) (ht : (P.main.scope.names.lookup ("super" : Str)).isSome = false) : ∃ cc cda fd, OwnF P K C cc cda fd := by
  unfold ownB at h
  split at h
  · rename_i fd q
    split at h
    · rename_i n cc cda e1 e2 e3
      obtain ⟨b1, h⟩ := He.ba h
      obtain ⟨b2, h⟩ := He.ba h
      obtain ⟨b3, h⟩ := He.ba h
      obtain ⟨b4, h⟩ := He.ba h
      obtain ⟨b5, h⟩ := He.ba h
      obtain ⟨b6, h⟩ := He.ba h
      obtain ⟨b7, h⟩ := He.ba h
      obtain ⟨b8, h⟩ := He.ba h
      obtain ⟨b9, h⟩ := He.ba h
      obtain ⟨b10, h⟩ := He.ba h
      obtain ⟨b11, h⟩ := He.ba h
      obtain ⟨b12, h⟩ := He.ba h
      obtain ⟨b13, h⟩ := He.ba h
      obtain ⟨b14, h⟩ := He.ba h
      obtain ⟨b15, h⟩ := He.ba h
      obtain ⟨b16, h⟩ := He.ba h
      obtain ⟨b17, h⟩ := He.ba h
      obtain ⟨b18, h⟩ := He.ba h
      obtain ⟨b19, b20⟩ := He.ba h
      rw [of_decide_eq_true b1] at e1
      obtain ⟨ccl, cdd, vs, ccs, tf, k1, k2⟩ := codeFileB_ok b5
      exact ⟨cc, cda, fd, q, e3, ⟨He.eqO_ok b7, b8, fdAt_eq q, e1, of_decide_eq_true b2, of_decide_eq_true b3, e2, b4, ⟨ccl, cdd, vs, ccs, file0, tf, k1, k2, hf⟩, cellB_ok b6, b9, He.eqO_ok b10, He.eqO_ok b11,
        of_decide_eq_true b12, of_decide_eq_true b13, He.eqO_ok b14, veClsB_ok b15, He.eqO_ok b16, ht⟩, b17, of_decide_eq_true b18, of_decide_eq_true b19, of_decide_eq_true b20⟩
    · cases h
  · cases h
def excCB (K : PySem.W.Frag) (D : Addr) : Bool := He.eqO (PySem.W.findIn K (.ref D) "__getattribute__") (some (some (.builtin "BaseException.__getattribute__"))) && (He.eqO (PySem.W.findIn K (.ref D) "__getattr__") (some none) &&
  (decide (PySem.W.subIn K (.ref D) (.type "BaseException") = some true) && (PySem.W.hasDictIn K D && (He.eqO (PySem.W.findIn K (.ref D) "__class__") (some (some (.builtin "object.__class__"))) &&
  (He.eqO (PySem.W.specialIn K (.builtin "object.__class__") "__get__") (some (some (.builtin "getset_descriptor.__get__"))) && (decide (PySem.W.takesIn K (.builtin "object.__class__") = some true) && decide (PySem.W.mroIn K D (.type "object") = some true)))))))
theorem excCB_ok {K : PySem.W.Frag} {D : Addr} (h : excCB K D = true) : ExcC K D := by
  obtain ⟨b1, h⟩ := He.ba h
  obtain ⟨b2, h⟩ := He.ba h
  obtain ⟨b3, h⟩ := He.ba h
  obtain ⟨b4, h⟩ := He.ba h
  obtain ⟨b5, h⟩ := He.ba h
  obtain ⟨b6, h⟩ := He.ba h
  obtain ⟨b7, b8⟩ := He.ba h
  exact ⟨He.eqO_ok b1, He.eqO_ok b2, of_decide_eq_true b3, b4, He.eqO_ok b5, He.eqO_ok b6, of_decide_eq_true b7, of_decide_eq_true b8⟩
end CardH
end
section
set_option maxHeartbeats 2000000
namespace CardH
open PySem PySem.Spec PyProof.Rows L2
section
variable {kt : Kt} {B : Bs} {W W' : Wd} {σ : L2.St} {env : LEnv} {G : Gst} {p : Addr} {fs : List (Str × V)}
theorem RAll.allocX (h : RAll kt B W σ env G) (hp : W.H p = none) : RAll kt B (W.alloc p (.xd fs) .no) σ env G := by
  refine ⟨⟨fun a ha => ?_, h.ok.rg.ext (Ext.alloc hp) rfl, tabsN_upd h.ok.tabs hp, fun b ps q => trivial⟩, h.re.ext (Ext.alloc hp), (h.si.trans (Ext.alloc (o := .xd fs) (r := .no) hp)).mono (fun z => by rw [z]; rfl), fun z => (h.nl z).alloc rfl⟩
  show upd W.H p _ a ≠ none
  by_cases e : a = p
  · rw [e, upd_same]; simp
  · rw [upd_ne e]
    refine h.ok.tr a fun z => ha ?_
    show (if a = p then Role.no else W.Γ a) = .no
    rw [if_neg e]; exact z
end
def dxI (c : Nat) (d : DE) : DX := fun e G => match d e G with
  | .ok (.int i) G1 => .ok { cls := c, row := some i } G1
  | .exn c G1 => .exn c G1
  | _ => .bad
structure ExcI (kt : Kt) (X : Cx) (c : Nat) (x : Str) : Prop where
  ex : ∃ (C cc cda : Addr) (fd : FuncData) (p0 p1 ap cp p2 p3 sp p4 rp p5 : Pos) (ms : Str) (j : Nat), OwnF X.prog X.K C cc cda fd ∧ OwnS fd p0 p1 ap cp p2 p3 sp p4 rp p5 ms j ∧ X.mg x = some (.ref C) ∧ kt.exc c = .ref C
  sp : X.mg "super" = none
section
variable {kt : Kt} {B : Bs} {X : Cx} {p : Bool} {m : Md} {e : Expr} {d : DE} {pos : Pos}
theorem smk_ownI (c : Nat) {x : Str} {np : Pos} (F : ExcI kt X c x) (hr : Room 1 X.A) (he : SX kt B X p m e d) (hg : Gl X x := by rfl) (hs : starEach [e] X.env = (false, eval e X.env) :: starEach [] X.env := by rfl) (hpl : (backTo pos (starEach [] X.env)).any (·.1) = false := by rfl) (hdb : (x == ("__debug__" : Str)) = false := by decide) :
    SMk kt B X (.Call (.Name x np) [e] [] pos) (dxI c d) := fun Wish tk => by
  obtain ⟨⟨C, cc, cda, fd, p0, p1, ap, cp, p2, p3, sp, p4, rp, p5, ms, j, O, S, gC, ec⟩, hsu⟩ := F
  refine ⟨_, pmk_ownI O.k S O.kC (raises_own O.sb O.ty) O.tI hr hg gC hsu (he Wish tk) hdb hs hpl, fun σ H Q ⟨W, env, G, e, A, h⟩ => ?_⟩
  subst e
  refine ⟨W, env, G, rfl, A, ?_⟩
  unfold dxI at h
  cases q : d env G with
  | bad => rw [q] at h; exact h
  | exn c G' => rw [q] at h; exact fun W' od e A z => h W' od e.fls A z
  | ok x G' =>
    rw [q] at h
    cases x with
    | int i =>
      intro W' v e' A' z dx hdx
      obtain rfl := z.int
      have A2 := A'.allocX (fs := [(("row" : Str), .int i)]) hdx
      have h := h (W'.alloc dx (.xd [(("row" : Str), .int i)]) .no) (some dx) (e'.fls.trans (Ext.alloc hdx).fls) A2 ⟨dx, rfl, upd_same⟩
      rw [show kt.exc ({ cls := c, row := some i } : Ex).cls = .ref C from ec] at h
      exact h
    | _ => exact h.elim
end
def vMulS : Vl → Vl → Option Vl
  | .str a, .int k => if 0 ≤ k ∧ k ≤ 16777216 ∧ a.length * k.toNat ≤ 16777216 ∧ okStr (Txt.mul a k) = true then some (.str (Txt.mul a k)) else none
  | _, _ => none
theorem mulOk_of {a : Str} {k : Int} (h0 : 0 ≤ k) (h1 : k ≤ 16777216) (h2 : a.length * k.toNat ≤ 16777216) : MulOk a k := by
  refine ⟨?_, fun hk _ => ?_, fun _ _ => ?_⟩
  · rw [decide_eq_false (by omega), decide_eq_false (by omega), Bool.or_false]
  · intro hgt
    have hk0 : 0 < k := by omega
    have : (a.length : Int) * k ≤ 2 ^ 63 - 1 := by
      have e : ((a.length * k.toNat : Nat) : Int) = (a.length : Int) * k := by rw [Int.natCast_mul, Int.toNat_of_nonneg h0]
      omega
    have := (Int.le_ediv_iff_mul_le hk0).mpr this
    omega
  · show Builtin.Str.tooLong _ = false
    unfold Builtin.Str.tooLong
    rw [sizeLine_eq]
    exact decide_eq_false (by omega)
theorem op_mulS {X : Cx} : OpR X (binaryOp .Mult) (fun x y H Q => ∃ a k, x = V.str a ∧ y = V.int k ∧ MulOk a k ∧ Q (.str (Txt.mul a k)) H) := by
  intro pins s σ H x y v u Q I rx ry h
  obtain ⟨a, k, rfl, rfl, ok, q⟩ := h
  obtain ⟨t, rfl⟩ := rx
  obtain ⟨t', rfl⟩ := ry
  exact PySem.SB.mul ok fun t' k => ⟨.str _, H, I.kept (t' := k) fun _ _ z => z, ⟨t', rfl⟩, q⟩
section
variable {kt : Kt} {X : Cx}
theorem ops_mulS : OpS kt X (binaryOp .Mult) vMulS := by
  refine ⟨_, op_mulS, fun B σ env G W x y v u z Q A hx hy e q => ?_⟩
  unfold vMulS at e
  split at e
  · rename_i a k
    split at e
    · rename_i h
      cases e
      obtain ⟨rfl, _⟩ := hx.str
      obtain rfl := hy.int
      exact ⟨a, k, rfl, rfl, mulOk_of h.1 h.2.1 h.2.2.1, q W _ Ext.refl A ⟨rfl, h.2.2.2⟩⟩
    · cases e
  · cases e
def oSplit (_ : Gst) : Vl → List Vl → Option Vl
  | .str a, [.str b] => if (b.length == 0) = false ∧ a.length + 2 ≤ 16777216 ∧ (Txt.split a b).all okStr = true then some (.lst ((Txt.split a b).map .str)) else none
  | _, _ => none
theorem strs_rep {K : PySem.W.Frag} {W : Wd} : ∀ ys : List Str, ys.all okStr = true → Reps K W (ys.map .str) (ys.map V.str)
  | [], _ => rfl
  | y :: ys, h => by
    rw [List.all_cons, Bool.and_eq_true] at h
    exact ⟨_, _, rfl, ⟨rfl, h.1⟩, strs_rep ys h.2⟩
theorem bm_split : BmS kt X "str.split" oSplit := by
  refine ⟨_, mt_split, fun B σ env G W x v xs vs z Q A hx hxs e q => ?_⟩
  unfold oSplit at e
  split at e
  · rename_i a b
    split at e
    · rename_i h
      cases e
      obtain ⟨rfl, _⟩ := hx.str
      obtain ⟨w, rfl, h2⟩ := hxs.one
      obtain ⟨rfl, _⟩ := h2.str
      refine ⟨a, b, rfl, rfl, h.1, by rw [sizeLine_eq]; exact h.2.1, fun p hp => ?_⟩
      obtain ⟨e2, A2, r2⟩ := new_lst A hp (strs_rep (Txt.split a b) h.2.2)
      exact q _ _ e2 A2 r2
    · cases e
  · cases e
end
end CardH
end
section
set_option maxHeartbeats 2000000
namespace CardH
open PySem PySem.Spec PyProof.Rows L2 LamX
theorem Grown.new {T : List (Addr × Str)} {H : Hp} (h : Tabs T H) {p : Addr} {o : HO} (hp : H p = none) : Grown T H (upd H p o) where
  ext := ExtN.of fun b u q => by rw [upd_ne (ne_of_none q hp)]; exact q
  tabs := h.ext fun b u q => by rw [upd_ne (ne_of_none q hp)]; exact q
  there := fun b hb => by
    by_cases e : b = p
    · rw [e, upd_same]; simp
    · rw [upd_ne e]; exact hb
  tb := fun b ps q => ⟨ps, by rw [upd_ne (ne_of_none q hp)]; exact q⟩
def IsiA (X : Cx) (a : Addr) (d : Option Addr) (ie : Nat) (es : List Expr) (l : List Bool) : Prop :=
  ∃ t, PA X es t ∧ ∀ σ H Q, σ[ie]? = some (some (.ref a)) → XdOk d H → Q (l.map V.bl) H → t σ H Q
abbrev lo (l : List Bool) : HO := .lst (l.map V.bl)
def utsR (a : Addr) (d : Option Addr) (ie i : Nat) (l1 l2 l3 : List Bool) : TS := fun D σ H => σ[ie]? = some (some (.ref a)) ∧ i < σ.length ∧ XdOk d H ∧ ∀ p1 p2 p3 p4 p5, H p1 = none → (upd H p1 (lo l1)) p2 = none →
  (upd (upd H p1 (lo l1)) p2 (lo l2)) p3 = none → (upd (upd (upd H p1 (lo l1)) p2 (lo l2)) p3 (lo (l1 ++ l2))) p4 = none → (upd (upd (upd (upd H p1 (lo l1)) p2 (lo l2)) p3 (lo (l1 ++ l2))) p4 (lo l3)) p5 = none →
  D.rt (.ref p5) (upd (upd (upd (upd (upd H p1 (lo l1)) p2 (lo l2)) p3 (lo (l1 ++ l2))) p4 (lo l3)) p5 (lo (l1 ++ l2 ++ l3)))
theorem utsR.mono {a : Addr} {d : Option Addr} {ie i : Nat} {l1 l2 l3 : List Bool} {D D' : Ends} {σ : L2.St} {H : Hp} (h : ∀ v H', D.rt v H' → D'.rt v H') (q : utsR a d ie i l1 l2 l3 D σ H) : utsR a d ie i l1 l2 l3 D' σ H :=
  ⟨q.1, q.2.1, q.2.2.1, fun p1 p2 p3 p4 p5 h1 h2 h3 h4 h5 => h _ _ (q.2.2.2 p1 p2 p3 p4 p5 h1 h2 h3 h4 h5)⟩
theorem utsR.of {T : List (Addr × Str)} {a : Addr} {d : Option Addr} {ie i : Nat} {l1 l2 l3 : List Bool} {σ : L2.St} {H : Hp} {Q : VK} {nx : L2.St → Hp → Prop} (hT : Tabs T H) (h1 : σ[ie]? = some (some (.ref a))) (h2 : i < σ.length) (h3 : XdOk d H)
    (h : ∀ (H4 : Hp) (p5 : Addr), Grown T H H4 → H4 p5 = none → Q (.ref p5) (upd H4 p5 (lo (l1 ++ l2 ++ l3)))) : utsR a d ie i l1 l2 l3 { nx := nx, rt := Q } σ H := by
  refine ⟨h1, h2, h3, fun p1 p2 p3 p4 p5 q1 q2 q3 q4 q5 => h _ p5 ?_ q5⟩
  have g1 := Grown.new hT (o := lo l1) q1
  have g2 := Grown.new g1.tabs (o := lo l2) q2
  have g3 := Grown.new g2.tabs (o := lo (l1 ++ l2)) q3
  have g4 := Grown.new g3.tabs (o := lo l3) q4
  exact ((g1.trans g2).trans g3).trans g4
section
variable {X : Cx} {a : Addr} {d : Option Addr} {ie i : Nat}
theorem IsiA.nil : IsiA X a d ie [] [] := ⟨_, pa_nil, fun _ _ _ _ _ q => q⟩
theorem IsiA.cons {e : Expr} {es : List Expr} {b : Bool} {l : List Bool} (he : PE X e (tIsi a d ie b)) (h : IsiA X a d ie es l) (hs : starEach (e :: es) X.env = (false, eval e X.env) :: starEach es X.env := by rfl) : IsiA X a d ie (e :: es) (b :: l) := by
  obtain ⟨t, p, q⟩ := h
  exact ⟨_, pa_cons he p hs, fun σ H Q h1 h2 h3 => ⟨h1, h2, q σ H _ h1 h2 h3⟩⟩
theorem pss_uts {x : Str} {es1 es2 es3 : List Expr} {l1 l2 l3 : List Bool} {q1 q2 q3 q4 q5 q6 q7 q8 q9 q10 q11 q12 : Pos} (A1 : IsiA X a d ie es1 l1) (A2 : IsiA X a d ie es2 l2) (A3 : IsiA X a d ie es3 l3) (hz : l1.length + l2.length + l3.length ≤ 1000) (hne : i ≠ ie)
    (hN : X.N.Nodup) (hi : X.N[i]? = some x) (hl : Loc X.env.scope x) (hv : Vis X.env.scope x) (hf : X.fn x = true ∨ X.env.scope.names.lookup x = some .local) (hd : (x == ("__debug__" : Str)) = false) (hc : (x == ("__classdict__" : Str)) = false)
    (hw1 : swapsWith (.List es1 q2) (some (.Name x q1)) q3.line X.env = pure false) (hw2 : swapsWith (.BinOp (.Name x q5) .Add (.List es2 q6) q7) (some (.Name x q4)) q8.line X.env = pure false) :
    PSs X [.Assign [.Name x q1] (.List es1 q2) q3, .Assign [.Name x q4] (.BinOp (.Name x q5) .Add (.List es2 q6) q7) q8, .Return (some (.BinOp (.Name x q9) .Add (.List es3 q10) q11)) q12] (utsR a d ie i l1 l2 l3) := by
  obtain ⟨t1, P1, R1⟩ := A1
  obtain ⟨t2, P2, R2⟩ := A2
  obtain ⟨t3, P3, R3⟩ := A3
  have S1 := ps_set (pos := q3) (pos' := q1) hN hi hl (pe_lst (pos := q2) P1) hw1 hf
  have S2 := ps_set (pos := q8) (pos' := q4) hN hi hl (pe_op (pos := q7) op_cat (pe_var (pos := q5) hi hv hd hc) (pe_lst (pos := q6) P2)) hw2 hf
  have S3 := ps_ret (pos := q12) (pe_op (pos := q11) op_cat (pe_var (pos := q9) hi hv hd hc) (pe_lst (pos := q10) P3))
  refine (pss_cons S1 (pss_cons S2 (pss_one S3))).imp fun D σ H ⟨h1, h2, h3, h⟩ => ?_
  have ln : ∀ l : List Bool, (l.map V.bl).length = l.length := fun l => List.length_map _
  show t1 σ H _
  refine R1 σ H _ h1 h3 ⟨by rw [ln, sizeLine_eq]; omega, fun p1 n1 => ?_⟩
  have x1 : XdOk d (upd H p1 (lo l1)) := h3.up n1
  refine ⟨.ref p1, List.getElem?_set_self h2, ?_⟩
  have s1 : (σ.set i (some (.ref p1)))[ie]? = some (some (.ref a)) := by rw [List.getElem?_set_ne hne]; exact h1
  refine R2 _ _ _ s1 x1 ⟨by rw [ln, sizeLine_eq]; omega, fun p2 n2 => ?_⟩
  have x2 : XdOk d (upd (upd H p1 (lo l1)) p2 (lo l2)) := x1.up n2
  have k1 : (upd (upd H p1 (lo l1)) p2 (lo l2)) p1 = some (lo l1) := by rw [upd_ne (ne_of_none upd_same n2)]; exact upd_same
  refine ⟨p1, p2, _, _, rfl, rfl, k1, upd_same, by rw [ln, ln, sizeLine_eq]; omega, fun p3 n3 => ?_⟩
  have e3 : l1.map V.bl ++ l2.map V.bl = (l1 ++ l2).map V.bl := List.map_append.symm
  rw [e3]
  have h2' : i < (σ.set i (some (.ref p1))).length := by rw [List.length_set]; exact h2
  refine ⟨.ref p3, List.getElem?_set_self h2', ?_⟩
  have s2 : ((σ.set i (some (.ref p1))).set i (some (.ref p3)))[ie]? = some (some (.ref a)) := by rw [List.getElem?_set_ne hne]; exact s1
  refine R3 _ _ _ s2 (x2.up n3) ⟨by rw [ln, sizeLine_eq]; omega, fun p4 n4 => ?_⟩
  have k3 : (upd (upd (upd (upd H p1 (lo l1)) p2 (lo l2)) p3 (lo (l1 ++ l2))) p4 (lo l3)) p3 = some (lo (l1 ++ l2)) := by rw [upd_ne (ne_of_none upd_same n4)]; exact upd_same
  refine ⟨p3, p4, _, _, rfl, rfl, k3, upd_same, by rw [ln, ln, List.length_append, sizeLine_eq]; omega, fun p5 n5 => ?_⟩
  rw [show (l1 ++ l2).map V.bl ++ l3.map V.bl = (l1 ++ l2 ++ l3).map V.bl from List.map_append.symm]
  exact h p1 p2 p3 p4 p5 n1 n2 n3 n4 n5
end
end CardH
end
section
set_option maxHeartbeats 2000000
namespace CardH
open PySem PySem.Spec PyProof.Rows L2 LamX
structure ExcsOk (K : PySem.W.Frag) (cf : Str) (exc tst : List Str) : Prop where
  c : ∀ D ∈ exc, ExcC K (He.ga K D)
  k : ∀ D ∈ exc, ∀ C ∈ tst, PySem.W.kitOne K (.ref (He.ga K D)) (.ref (He.ga K C)) = some (decide (D = C))
  v : ∀ D ∈ exc, PySem.W.kitOne K (.ref (He.ga K D)) (.type "ValueError") = some true
  m : ∀ D ∈ exc, PySem.W.exmOne K (.ref (He.ga K D)) (.ref (He.ga K cf)) = some true
def excsB (K : PySem.W.Frag) (cf : Str) (exc tst : List Str) : Bool := exc.all fun D => excCB K (He.ga K D) && ((tst.all fun C => decide (PySem.W.kitOne K (.ref (He.ga K D)) (.ref (He.ga K C)) = some (decide (D = C)))) &&
  (decide (PySem.W.kitOne K (.ref (He.ga K D)) (.type "ValueError") = some true) && decide (PySem.W.exmOne K (.ref (He.ga K D)) (.ref (He.ga K cf)) = some true)))
theorem excsB_ok {K : PySem.W.Frag} {cf : Str} {exc tst : List Str} (h : excsB K cf exc tst = true) : ExcsOk K cf exc tst := by
  have h := fun D hD => List.all_eq_true.mp h D hD
  refine ⟨fun D hD => excCB_ok (He.ba (h D hD)).1, fun D hD C hC => ?_, fun D hD => ?_, fun D hD => ?_⟩
  · exact of_decide_eq_true (List.all_eq_true.mp (He.ba (He.ba (h D hD)).2).1 C hC)
  · exact of_decide_eq_true (He.ba (He.ba (He.ba (h D hD)).2).2).1
  · exact of_decide_eq_true (He.ba (He.ba (He.ba (h D hD)).2).2).2
section
variable {X : Cx} {a : Addr} {oe : Obj} {d : Option Addr} {pn : List (Addr × Obj)} {ie : Nat} {cf D C : Str} {exc tst : List Str} {p1 p2 p3 p4 : Pos}
theorem pe_isiC (E : ExcsOk X.K cf exc tst) (hD : D ∈ exc) (hC : C ∈ tst) (hz : Zc (.ref (He.ga X.K D)) d oe) (hf : ∃ vs, oe.data = .fields vs) (hN : X.N[ie]? = some "e") (hv : Vis X.env.scope "e") (hg : Gl X "isinstance") (hm : X.mg "isinstance" = none)
    (hgC : Gl X C) (hmC : X.mg C = some (.ref (He.ga X.K C))) (hdb : (C == ("__debug__" : Str)) = false := by decide) :
    PE (X.suite a ((a, oe) :: pn)) (.Call (.Name "isinstance" p1) [.Name "e" p2, .Name C p3] [] p4) (tIsi a d ie (decide (D = C))) :=
  pe_isi (E.c D hD) hz hf hN hv hg hm (pe_glob (v := .ref (He.ga X.K C)) hgC hmC rfl hdb) (fun u h => h) (E.k D hD C hC)
theorem pe_isiV (E : ExcsOk X.K cf exc tst) (hD : D ∈ exc) (hz : Zc (.ref (He.ga X.K D)) d oe) (hf : ∃ vs, oe.data = .fields vs) (hN : X.N[ie]? = some "e") (hv : Vis X.env.scope "e") (hg : Gl X "isinstance") (hm : X.mg "isinstance" = none)
    (hgC : Gl X "ValueError") (hmC : X.mg "ValueError" = none) :
    PE (X.suite a ((a, oe) :: pn)) (.Call (.Name "isinstance" p1) [.Name "e" p2, .Name "ValueError" p3] [] p4) (tIsi a d ie true) :=
  pe_isi (cv := .ty "ValueError") (E.c D hD) hz hf hN hv hg hm (pe_bltn hgC hmC (by kernel_rfl) rfl) (fun u h => h) (E.v D hD)
end
def undT (K : PySem.W.Frag) (exc t1 t2 : List Str) (ie i : Nat) (a : Addr) (cls : Value) (d : Option Addr) : TS := fun D σ H => ∃ E ∈ exc, cls = .ref (He.ga K E) ∧ utsR a d ie i (t1.map fun C => decide (E = C)) (t2.map fun C => decide (E = C)) [true] D σ H
def undF (exc t1 t2 : List Str) (c : Ex) : Option (List Bool) := (exc[c.cls]?).map fun E => (t1.map fun C => decide (E = C)) ++ (t2.map fun C => decide (E = C)) ++ [true]
theorem undT_mono {K : PySem.W.Frag} {exc t1 t2 : List Str} {ie i : Nat} : ∀ (a : Addr) (cls : Value) (d : Option Addr) (D D' : Ends) (σ : L2.St) (H : Hp), (∀ v H', D.rt v H' → D'.rt v H') → undT K exc t1 t2 ie i a cls d D σ H → undT K exc t1 t2 ie i a cls d D' σ H :=
  fun a cls d D D' σ H h ⟨E, hE, ec, q⟩ => ⟨E, hE, ec, q.mono h⟩
theorem undT_of {K : PySem.W.Frag} {cf : Str} {exc tst t1 t2 : List Str} {ie i : Nat} {Tl : List (Addr × Str)} {kt : Kt} {Ng : List Str} (O : ExcsOk K cf exc tst) (hx : ∀ j, kt.exc j = .ref (He.ga K (exc.getD j ""))) (hie : ie < Ng.length) (hi : i < Ng.length) :
    ∀ (c : Ex) (bs : List Bool), undF exc t1 t2 c = some bs → PySem.W.exmOne K (kt.exc c.cls) (.ref (He.ga K cf)) = some true ∧ ∀ (H : Hp) (od : Option Addr) (a : Addr) (σ' : L2.St) (Q : VK), Tabs Tl H → XdOk od H → σ'.length = Ng.length → H a = none →
      (∀ (H4 : Hp) (p5 : Addr), Grown Tl H H4 → H4 p5 = none → Q (.ref p5) (upd H4 p5 (.lst (bs.map V.bl)))) → undT K exc t1 t2 ie i a (kt.exc c.cls) od { nx := fun _ _ => False, rt := Q } (σ'.set ie (some (.ref a))) H := by
  intro c bs e
  unfold undF at e
  obtain ⟨E, eE, rfl⟩ := Option.map_eq_some_iff.mp e
  have hE := List.mem_of_getElem? eE
  have ec : kt.exc c.cls = .ref (He.ga K E) := by rw [hx, List.getD_eq_getElem?_getD, eE]; rfl
  refine ⟨by rw [ec]; exact O.m E hE, fun H od a σ' Q hT hxd hl ha h => ⟨E, hE, ec, utsR.of hT (List.getElem?_set_self (by rw [hl]; exact hie)) (by rw [List.length_set, hl]; exact hi) hxd h⟩⟩
end CardH
end
section
set_option maxHeartbeats 2000000
namespace CardH
open PySem PySem.Spec PyProof.Rows L2 LamX
def lamsOf : List Expr → List LamR
  | [] => []
  | .Lambda params body scope pos :: r => ⟨params, body, scope, pos⟩ :: lamsOf r
  | _ :: r => lamsOf r
def LamBs (kt : Kt) (B : Bs) (p : Bool) (X : Cx) (k : Nat) : List LamR → List DE → Prop
  | [], [] => True
  | r :: rs, d :: ds => (LamB kt B p X k r.params r.body r.scope d ∧ defaultsOf r.params X.env = ([], [])) ∧ LamBs kt B p X k rs ds
  | _, _ => False
section
variable {kt : Kt} {B : Bs} {X : Cx} {p pE : Bool} {k : Nat}
theorem LamBs.rs : ∀ {rs : List LamR} {ds : List DE}, LamBs kt B p X k rs ds → ∀ r ∈ rs, LamS X.env.scope r.scope ∧ defaultsOf r.params X.env = ([], [])
  | [], _, _ => fun r h => by cases h
  | a :: rs, [], h => h.elim
  | a :: rs, d :: ds, h => fun r hr => by
    rcases List.mem_cons.mp hr with e | e
    · rw [e]; exact ⟨h.1.1.L, h.1.2⟩
    · exact LamBs.rs h.2 r e
theorem LamBs.get : ∀ {rs : List LamR} {ds : List DE}, LamBs kt B p X k rs ds → ∀ (j : Nat) (d : DE), ds[j]? = some d → ∃ r : LamR, rs[j]? = some r ∧ LamB kt B p X k r.params r.body r.scope d
  | [], [], _ => fun j d h => by cases h
  | [], _ :: _, h => h.elim
  | a :: rs, [], h => h.elim
  | a :: rs, b :: ds, h => fun j d e => by
    cases j with
    | zero => cases e; exact ⟨a, rfl, h.1.1⟩
    | succ j => exact LamBs.get h.2 j d e
theorem LamBs.nil : LamBs kt B p X k [] [] := trivial
theorem LamBs.cons {params : Arguments} {body : Expr} {scope : Scope} {pos : Pos} {rs : List LamR} {d : DE} {ds : List DE} (L : lamSB X.env.scope scope = true)
    (hbody : ∀ (A : Around) (outer : List Env) (s : Shared) (H : Hp) (E : XK) (f c' : Addr), Room k (A.deeper (lamEnv X scope s.heap.objs.size f c')) → SX kt B (lamCx X A outer s H E scope f c') p .s body d) (h : LamBs kt B p X k rs ds)
    (hdef : defaultsOf params X.env = ([], []) := by rfl) (hbind : ∀ (q : Str) (cl : List (Str × Addr)) (pm cv ctv : Value), bindArgs (PySem.W.kla_fn "<lambda>" q params body scope cl pm cv ctv) ⟨[], []⟩ = pure [] := by intros; rfl) :
    LamBs kt B p X k (⟨params, body, scope, pos⟩ :: rs) (d :: ds) := ⟨⟨⟨lamS_by L, hbind, hbody⟩, hdef⟩, h⟩
theorem sss_lamsU {Tl : List (Addr × Str)} {c P fr : Addr} {ds : List DE} {iw ik i0 kk kr ie : Nat} {n : Int} {jn : _} {Φ : FT} {uf : Ex → Option (List Bool)} {dE : DE} {s1 : DS} {es : List Expr} {e2 : Expr} {body : List Stmt} {me : _}
    {xw xk xd xr x a cf en : Str} {g : Addr} {sg : Scope} {Ng : List Str} {q1 q2 q3 q4 q5 q6 q7 q8 q9 q10 q11 q12 q13 q14 np p0 p1 p2 p3 p7 p8 p9 : Pos} {b₀ last : Stmt} {suite : List Stmt} {cfA : Value} {ts : Addr → Value → Option Addr → TS} {tl : TS}
    (hT : kt.T = tabsOf Tl) (TB : TabB X.base X.mg c P) (hcode : X.env.code = .ref c) (hmT : (P, X.env.qual ++ "<lambda>") ∈ Tl) (hu : ∀ p ∈ Tl, p.1 = P → p.2 = X.env.qual ++ "<lambda>")
    (hes : es = (lamsOf es).map LamR.ex) (HB : LamBs kt B p X kk (lamsOf es) ds) (hsz : (lamsOf es).length ≤ 1000)
    (F : DFn X.prog X.w X.base kt kr fr 2 Φ) (hrr : Room kr X.A) (hfr : kt.mg xr = some (.ref fr)) (hlk : B.lk = false) (hp : B.p = false)
    (D : ToldD kt x a g Ng sg [.Try [.Expr (.Call (.Name a p1) [] [] p2) p3] [.ExceptHandler (some (.Name cf p9)) (some en) (b₀ :: suite) p7] [] [] p8, last] [])
    (hie : Ng[ie]? = some en) (hln : sg.names.lookup en = some .local)
    (hcf : ∀ (cdv : Value) (s : Shared) (H : Hp), Names (cxOf C8.CX0 X.prog X.w X.K X.mg X.base Ng x sg g cdv X.A X.stack s H C8.E0).nox cf cfA)
    (hsu : ∀ (cdv : Value) (s : Shared) (H : Hp) (a : Addr) (oe : Obj) (cls : Value) (d : Option Addr) (pn : List (Addr × Obj)), Zc cls d oe → (∃ vs, oe.data = .fields vs) → PSs ((cxOf C8.CX0 X.prog X.w X.K X.mg X.base Ng x sg g cdv X.A X.stack s H C8.E0).nox.suite a ((a, oe) :: pn)) (b₀ :: suite) (ts a cls d))
    (hlast : ∀ (cdv : Value) (s : Shared) (H : Hp), PS (cxOf C8.CX0 X.prog X.w X.K X.mg X.base Ng x sg g cdv X.A X.stack s H C8.E0).nox last tl)
    (hmono : ∀ (a : Addr) (cls : Value) (d : Option Addr) (D D' : Ends) (σ : L2.St) (H : Hp), (∀ v H', D.rt v H' → D'.rt v H') → ts a cls d D σ H → ts a cls d D' σ H)
    (hts : ∀ (c : Ex) (bs : List Bool), uf c = some bs → PySem.W.exmOne X.K (kt.exc c.cls) cfA = some true ∧ ∀ (H : Hp) (od : Option Addr) (a : Addr) (σ' : L2.St) (Q : VK), Tabs Tl H → XdOk od H → σ'.length = Ng.length → H a = none →
      (∀ (H4 : Hp) (p5 : Addr), Grown Tl H H4 → H4 p5 = none → Q (.ref p5) (upd H4 p5 (.lst (bs.map V.bl)))) → ts a (kt.exc c.cls) od { nx := fun _ _ => False, rt := Q } (σ'.set ie (some (.ref a))) H)
    (hr2 : Room (kk + 2) X.A) (hE : SX kt B X pE me e2 dE) (hs1 : SSs kt B X body s1)
    (hN : X.N.Nodup) (hiw : X.N[iw]? = some xw) (hik : X.N[ik]? = some xk) (hi0 : X.N[i0]? = some xd) (hlw : Loc X.env.scope xw) (hlk2 : Loc X.env.scope xk) (hv0 : Vis X.env.scope xd) (hvw : Vis X.env.scope xw) (hvk : Vis X.env.scope xk) (hne : iw ≠ i0) (hnk : ik ≠ iw)
    (hfw : X.fn xw = true ∨ X.env.scope.names.lookup xw = some .local) (hfk : X.fn xk = true ∨ X.env.scope.names.lookup xk = some .local) (hd0 : (xd == ("__debug__" : Str)) = false) (hc0 : (xd == ("__classdict__" : Str)) = false) (hdw : (xw == ("__debug__" : Str)) = false) (hcw : (xw == ("__classdict__" : Str)) = false) (hdk : (xk == ("__debug__" : Str)) = false) (hck : (xk == ("__classdict__" : Str)) = false)
    (hgr : Gl X xr) (hdr : (xr == ("__debug__" : Str)) = false) (hgu : Gl X x) (hdu : (x == ("__debug__" : Str)) = false) (hda : (a == ("__debug__" : Str)) = false) (hca : (a == ("__classdict__" : Str)) = false) (hc : X.calm = true) (hu64 : X.A.units + 64 < cLine) (hK : X.K = kt.K) (hmg : X.mg = kt.mg)
    (hw1 : swapsWith (.List es q2) (some (.Name xw q1)) q3.line X.env = pure false) (hw2 : swapsWith (.Call (.Name xr q6) [.Name xd q5, .Constant (.int n) jn q7] [] q8) (some (.Name xk q4)) q9.line X.env = pure false)
    (hs2 : starEach [.Name xd q5, .Constant (.int n) jn q7] X.env = (false, eval (.Name xd q5) X.env) :: starEach [.Constant (.int n) jn q7] X.env) (hs3 : starEach [.Constant (.int n) jn q7] X.env = (false, eval (.Constant (.int n) jn q7) X.env) :: starEach [] X.env) (hpl2 : (backTo q8 (starEach [.Constant (.int n) jn q7] X.env)).any (·.1) = false)
    (hs4 : starEach [.Subscript (.Name xw q10) (.Name xk q11) q12] X.env = (false, eval (.Subscript (.Name xw q10) (.Name xk q11) q12) X.env) :: starEach [] X.env) (hpl4 : (backTo q13 (starEach [] X.env)).any (·.1) = false) (hpi : PlainIx (.Name xk q11)) (hnm : behindInMarks .NotEq e2 = false) :
    SSs kt B X [.Assign [.Name xw q1] (.List es q2) q3, .Assign [.Name xk q4] (.Call (.Name xr q6) [.Name xd q5, .Constant (.int n) jn q7] [] q8) q9, .If (.Compare (.Call (.Name x np) [.Subscript (.Name xw q10) (.Name xk q11) q12] [] q13) [.NotEq] [e2] q14) body [] p0]
      (dLams iw ik i0 Φ n ds uf dE s1) :=
  sss_lams (k := 0) hT TB hcode hmT hu hes HB.rs HB.get hsz F hrr hfr hlk hp D hie hln hcf hsu hlast hmono hts hr2 hE hs1 hN hiw hik hi0 hlw hlk2 hv0 hvw hvk hne hnk hfw hfk hd0 hc0 hdw hcw hdk hck hgr hdr hgu hdu hda hca hc hu64 hK hmg hw1 hw2 hs2 hs3 hpl2 hs4 hpl4 hpi hnm
end
end CardH
end
section
set_option maxHeartbeats 0
namespace CardH
open PySem PySem.Spec PyProof.Rows L2
def top (i : Nat) : Stmt := PySem.Challenge.pw_cardhall_k23_refusals_apart.main.body.getD i (.Pass ⟨0, 0, 0, 0⟩)
abbrev s__wall : Stmt := (top 0)
def d__wall : He.DefD := ⟨("_wall", none), "_wall", "_wall", defArgs s__wall, defBody s__wall, defScope s__wall, [], []⟩
abbrev s_House___init__ : Stmt := (inClass (top 12) 0)
def d_House___init__ : He.DefD := ⟨("House", some "__init__"), "__init__", "House.__init__", defArgs s_House___init__, defBody s_House___init__, defScope s_House___init__, [], []⟩
abbrev s_House_lean : Stmt := (inClass (top 12) 1)
def d_House_lean : He.DefD := ⟨("House", some "lean"), "lean", "House.lean", defArgs s_House_lean, defBody s_House_lean, defScope s_House_lean, [], []⟩
abbrev s_House_lay : Stmt := (inClass (top 12) 2)
def d_House_lay : He.DefD := ⟨("House", some "lay"), "lay", "House.lay", defArgs s_House_lay, defBody s_House_lay, defScope s_House_lay, [], []⟩
abbrev s_House_knock : Stmt := (inClass (top 12) 3)
def d_House_knock : He.DefD := ⟨("House", some "knock"), "knock", "House.knock", defArgs s_House_knock, defBody s_House_knock, defScope s_House_knock, [], []⟩
abbrev s_House_card_count : Stmt := (inClass (top 12) 4)
def d_House_card_count : He.DefD := ⟨("House", some "card_count"), "card_count", "House.card_count", defArgs s_House_card_count, defBody s_House_card_count, defScope s_House_card_count, [], []⟩
abbrev s_House_storeys : Stmt := (inClass (top 12) 5)
def d_House_storeys : He.DefD := ⟨("House", some "storeys"), "storeys", "House.storeys", defArgs s_House_storeys, defBody s_House_storeys, defScope s_House_storeys, [], []⟩
abbrev s_House_whole : Stmt := (inClass (top 12) 6)
def d_House_whole : He.DefD := ⟨("House", some "whole"), "whole", "House.whole", defArgs s_House_whole, defBody s_House_whole, defScope s_House_whole, [], []⟩
abbrev s_House_free : Stmt := (inClass (top 12) 7)
def d_House_free : He.DefD := ⟨("House", some "free"), "free", "House.free", defArgs s_House_free, defBody s_House_free, defScope s_House_free, [], []⟩
abbrev s_House_bears : Stmt := (inClass (top 12) 8)
def d_House_bears : He.DefD := ⟨("House", some "bears"), "bears", "House.bears", defArgs s_House_bears, defBody s_House_bears, defScope s_House_bears, [], []⟩
abbrev s_House_shown : Stmt := (inClass (top 12) 9)
def d_House_shown : He.DefD := ⟨("House", some "shown"), "shown", "House.shown", defArgs s_House_shown, defBody s_House_shown, defScope s_House_shown, [], []⟩
abbrev s_cards_for : Stmt := (top 13)
def d_cards_for : He.DefD := ⟨("cards_for", none), "cards_for", "cards_for", defArgs s_cards_for, defBody s_cards_for, defScope s_cards_for, [], []⟩
abbrev s_highest_house : Stmt := (top 14)
def d_highest_house : He.DefD := ⟨("highest_house", none), "highest_house", "highest_house", defArgs s_highest_house, defBody s_highest_house, defScope s_highest_house, [], []⟩
abbrev s_check_card : Stmt := (top 18)
def d_check_card : He.DefD := ⟨("check_card", none), "check_card", "check_card", defArgs s_check_card, defBody s_check_card, defScope s_check_card, [], []⟩
abbrev s_rank_of : Stmt := (top 19)
def d_rank_of : He.DefD := ⟨("rank_of", none), "rank_of", "rank_of", defArgs s_rank_of, defBody s_rank_of, defScope s_rank_of, [], []⟩
abbrev s_suit_of : Stmt := (top 20)
def d_suit_of : He.DefD := ⟨("suit_of", none), "suit_of", "suit_of", defArgs s_suit_of, defBody s_suit_of, defScope s_suit_of, [], []⟩
abbrev s_card_of : Stmt := (top 21)
def d_card_of : He.DefD := ⟨("card_of", none), "card_of", "card_of", defArgs s_card_of, defBody s_card_of, defScope s_card_of, [], []⟩
abbrev s_check_cards : Stmt := (top 22)
def d_check_cards : He.DefD := ⟨("check_cards", none), "check_cards", "check_cards", defArgs s_check_cards, defBody s_check_cards, defScope s_check_cards, [], []⟩
abbrev s_Pack___init__ : Stmt := (inClass (top 23) 0)
def d_Pack___init__ : He.DefD := ⟨("Pack", some "__init__"), "__init__", "Pack.__init__", defArgs s_Pack___init__, defBody s_Pack___init__, defScope s_Pack___init__, [], []⟩
abbrev s_Pack_draw : Stmt := (inClass (top 23) 1)
def d_Pack_draw : He.DefD := ⟨("Pack", some "draw"), "draw", "Pack.draw", defArgs s_Pack_draw, defBody s_Pack_draw, defScope s_Pack_draw, [], []⟩
abbrev s_Pack_bottom : Stmt := (inClass (top 23) 2)
def d_Pack_bottom : He.DefD := ⟨("Pack", some "bottom"), "bottom", "Pack.bottom", defArgs s_Pack_bottom, defBody s_Pack_bottom, defScope s_Pack_bottom, [], []⟩
abbrev s_Pack_put_under : Stmt := (inClass (top 23) 3)
def d_Pack_put_under : He.DefD := ⟨("Pack", some "put_under"), "put_under", "Pack.put_under", defArgs s_Pack_put_under, defBody s_Pack_put_under, defScope s_Pack_put_under, [], []⟩
abbrev s_Pack_put_on : Stmt := (inClass (top 23) 4)
def d_Pack_put_on : He.DefD := ⟨("Pack", some "put_on"), "put_on", "Pack.put_on", defArgs s_Pack_put_on, defBody s_Pack_put_on, defScope s_Pack_put_on, [], []⟩
abbrev s_Pack_cut : Stmt := (inClass (top 23) 5)
def d_Pack_cut : He.DefD := ⟨("Pack", some "cut"), "cut", "Pack.cut", defArgs s_Pack_cut, defBody s_Pack_cut, defScope s_Pack_cut, [], []⟩
abbrev s_Pack_place_of : Stmt := (inClass (top 23) 6)
def d_Pack_place_of : He.DefD := ⟨("Pack", some "place_of"), "place_of", "Pack.place_of", defArgs s_Pack_place_of, defBody s_Pack_place_of, defScope s_Pack_place_of, [], []⟩
abbrev s_Pack_take_out : Stmt := (inClass (top 23) 7)
def d_Pack_take_out : He.DefD := ⟨("Pack", some "take_out"), "take_out", "Pack.take_out", defArgs s_Pack_take_out, defBody s_Pack_take_out, defScope s_Pack_take_out, [], []⟩
abbrev s_Pack_missing : Stmt := (inClass (top 23) 8)
def d_Pack_missing : He.DefD := ⟨("Pack", some "missing"), "missing", "Pack.missing", defArgs s_Pack_missing, defBody s_Pack_missing, defScope s_Pack_missing, [], []⟩
abbrev s_Pack_turned : Stmt := (inClass (top 23) 9)
def d_Pack_turned : He.DefD := ⟨("Pack", some "turned"), "turned", "Pack.turned", defArgs s_Pack_turned, defBody s_Pack_turned, defScope s_Pack_turned, [], []⟩
abbrev s_Pack_shown : Stmt := (inClass (top 23) 10)
def d_Pack_shown : He.DefD := ⟨("Pack", some "shown"), "shown", "Pack.shown", defArgs s_Pack_shown, defBody s_Pack_shown, defScope s_Pack_shown, [], []⟩
abbrev s_Row___init__ : Stmt := (inClass (top 26) 0)
def d_Row___init__ : He.DefD := ⟨("Row", some "__init__"), "__init__", "Row.__init__", defArgs s_Row___init__, defBody s_Row___init__, defScope s_Row___init__, [], []⟩
abbrev s_Row_said : Stmt := (inClass (top 26) 1)
def d_Row_said : He.DefD := ⟨("Row", some "said"), "said", "Row.said", defArgs s_Row_said, defBody s_Row_said, defScope s_Row_said, [], []⟩
abbrev s_Row_key : Stmt := (inClass (top 26) 2)
def d_Row_key : He.DefD := ⟨("Row", some "key"), "key", "Row.key", defArgs s_Row_key, defBody s_Row_key, defScope s_Row_key, [], []⟩
abbrev s_read_row : Stmt := (top 27)
def d_read_row : He.DefD := ⟨("read_row", none), "read_row", "read_row", defArgs s_read_row, defBody s_read_row, defScope s_read_row, [], []⟩
abbrev s_Book___init__ : Stmt := (inClass (top 28) 0)
def d_Book___init__ : He.DefD := ⟨("Book", some "__init__"), "__init__", "Book.__init__", defArgs s_Book___init__, defBody s_Book___init__, defScope s_Book___init__, [], []⟩
abbrev s_Book_state : Stmt := (inClass (top 28) 1)
def d_Book_state : He.DefD := ⟨("Book", some "state"), "state", "Book.state", defArgs s_Book_state, defBody s_Book_state, defScope s_Book_state, [], []⟩
abbrev s_Book_add : Stmt := (inClass (top 28) 2)
def d_Book_add : He.DefD := ⟨("Book", some "add"), "add", "Book.add", defArgs s_Book_add, defBody s_Book_add, defScope s_Book_add, [], []⟩
abbrev s_Book_said : Stmt := (inClass (top 28) 3)
def d_Book_said : He.DefD := ⟨("Book", some "said"), "said", "Book.said", defArgs s_Book_said, defBody s_Book_said, defScope s_Book_said, [], []⟩
abbrev s_Book_with_row : Stmt := (inClass (top 28) 4)
def d_Book_with_row : He.DefD := ⟨("Book", some "with_row"), "with_row", "Book.with_row", defArgs s_Book_with_row, defBody s_Book_with_row, defScope s_Book_with_row, [], []⟩
abbrev s_Book_without_last : Stmt := (inClass (top 28) 5)
def d_Book_without_last : He.DefD := ⟨("Book", some "without_last"), "without_last", "Book.without_last", defArgs s_Book_without_last, defBody s_Book_without_last, defScope s_Book_without_last, [], []⟩
abbrev s_Book_told_kinds : Stmt := (inClass (top 28) 6)
def d_Book_told_kinds : He.DefD := ⟨("Book", some "told_kinds"), "told_kinds", "Book.told_kinds", defArgs s_Book_told_kinds, defBody s_Book_told_kinds, defScope s_Book_told_kinds, [], []⟩
abbrev s_Book_best_day : Stmt := (inClass (top 28) 7)
def d_Book_best_day : He.DefD := ⟨("Book", some "best_day"), "best_day", "Book.best_day", defArgs s_Book_best_day, defBody s_Book_best_day, defScope s_Book_best_day, [], []⟩
abbrev s_Book_never : Stmt := (inClass (top 28) 8)
def d_Book_never : He.DefD := ⟨("Book", some "never"), "never", "Book.never", defArgs s_Book_never, defBody s_Book_never, defScope s_Book_never, [], []⟩
abbrev s_Desk___init__ : Stmt := (inClass (top 30) 0)
def d_Desk___init__ : He.DefD := ⟨("Desk", some "__init__"), "__init__", "Desk.__init__", defArgs s_Desk___init__, defBody s_Desk___init__, defScope s_Desk___init__, [], []⟩
abbrev s_Desk_note : Stmt := (inClass (top 30) 1)
def d_Desk_note : He.DefD := ⟨("Desk", some "note"), "note", "Desk.note", defArgs s_Desk_note, defBody s_Desk_note, defScope s_Desk_note, [], []⟩
abbrev s_Desk_tell : Stmt := (inClass (top 30) 2)
def d_Desk_tell : He.DefD := ⟨("Desk", some "tell"), "tell", "Desk.tell", defArgs s_Desk_tell, defBody s_Desk_tell, defScope s_Desk_tell, [], []⟩
abbrev s_Desk_strike : Stmt := (inClass (top 30) 3)
def d_Desk_strike : He.DefD := ⟨("Desk", some "strike"), "strike", "Desk.strike", defArgs s_Desk_strike, defBody s_Desk_strike, defScope s_Desk_strike, [], []⟩
abbrev s_Desk_judged : Stmt := (inClass (top 30) 4)
def d_Desk_judged : He.DefD := ⟨("Desk", some "judged"), "judged", "Desk.judged", defArgs s_Desk_judged, defBody s_Desk_judged, defScope s_Desk_judged, [], []⟩
abbrev s_Desk_undo : Stmt := (inClass (top 30) 5)
def d_Desk_undo : He.DefD := ⟨("Desk", some "undo"), "undo", "Desk.undo", defArgs s_Desk_undo, defBody s_Desk_undo, defScope s_Desk_undo, [], []⟩
abbrev s_Desk_redo : Stmt := (inClass (top 30) 6)
def d_Desk_redo : He.DefD := ⟨("Desk", some "redo"), "redo", "Desk.redo", defArgs s_Desk_redo, defBody s_Desk_redo, defScope s_Desk_redo, [], []⟩
abbrev s_Layout___init__ : Stmt := (inClass (top 32) 0)
def d_Layout___init__ : He.DefD := ⟨("Layout", some "__init__"), "__init__", "Layout.__init__", defArgs s_Layout___init__, defBody s_Layout___init__, defScope s_Layout___init__, [], []⟩
abbrev s_Layout_may_lay : Stmt := (inClass (top 32) 1)
def d_Layout_may_lay : He.DefD := ⟨("Layout", some "may_lay"), "may_lay", "Layout.may_lay", defArgs s_Layout_may_lay, defBody s_Layout_may_lay, defScope s_Layout_may_lay, [], []⟩
abbrev s_Layout_lay : Stmt := (inClass (top 32) 2)
def d_Layout_lay : He.DefD := ⟨("Layout", some "lay"), "lay", "Layout.lay", defArgs s_Layout_lay, defBody s_Layout_lay, defScope s_Layout_lay, [], []⟩
abbrev s_Layout_open_cards : Stmt := (inClass (top 32) 3)
def d_Layout_open_cards : He.DefD := ⟨("Layout", some "open_cards"), "open_cards", "Layout.open_cards", defArgs s_Layout_open_cards, defBody s_Layout_open_cards, defScope s_Layout_open_cards, [], []⟩
abbrev s_Layout_full : Stmt := (inClass (top 32) 4)
def d_Layout_full : He.DefD := ⟨("Layout", some "full"), "full", "Layout.full", defArgs s_Layout_full, defBody s_Layout_full, defScope s_Layout_full, [], []⟩
abbrev s_Layout_laid_cards : Stmt := (inClass (top 32) 5)
def d_Layout_laid_cards : He.DefD := ⟨("Layout", some "laid_cards"), "laid_cards", "Layout.laid_cards", defArgs s_Layout_laid_cards, defBody s_Layout_laid_cards, defScope s_Layout_laid_cards, [], []⟩
abbrev s_Layout_shown : Stmt := (inClass (top 32) 6)
def d_Layout_shown : He.DefD := ⟨("Layout", some "shown"), "shown", "Layout.shown", defArgs s_Layout_shown, defBody s_Layout_shown, defScope s_Layout_shown, [], []⟩
abbrev s__law_dice : Stmt := (top 34)
def d__law_dice : He.DefD := ⟨("_law_dice", none), "_law_dice", "_law_dice", defArgs s__law_dice, defBody s__law_dice, defScope s__law_dice, [], []⟩
abbrev s__law_roll : Stmt := (top 35)
def d__law_roll : He.DefD := ⟨("_law_roll", none), "_law_roll", "_law_roll", defArgs s__law_roll, defBody s__law_roll, defScope s__law_roll, [], []⟩
abbrev s__law_rounds : Stmt := (top 36)
def d__law_rounds : He.DefD := ⟨("_law_rounds", none), "_law_rounds", "_law_rounds", defArgs s__law_rounds, defBody s__law_rounds, defScope s__law_rounds, [], []⟩
abbrev s__law_under : Stmt := (top 37)
def d__law_under : He.DefD := ⟨("_law_under", none), "_law_under", "_law_under", defArgs s__law_under, defBody s__law_under, defScope s__law_under, [], []⟩
abbrev s_law : Stmt := (top 38)
def d_law : He.DefD := ⟨("law", none), "law", "law", defArgs s_law, defBody s_law, defScope s_law, [], []⟩
abbrev s_BadText___init__ : Stmt := (inClass (top 9) 0)
def o_BadText : OwnD := ⟨"BadText", "BadText.__init__", defArgs s_BadText___init__, defBody s_BadText___init__, defScope s_BadText___init__⟩
def ow : List OwnD := [o_BadText]
abbrev file0 : PySem.Str := (PySem.Challenge.pw_cardhall_k23_refusals_apart.main.file : PySem.Str)
def fn : List He.DefD := [d__wall, d_House___init__, d_House_lean, d_House_lay, d_House_knock, d_House_card_count, d_House_storeys, d_House_whole, d_House_free, d_House_bears, d_House_shown, d_cards_for, d_highest_house, d_check_card, d_rank_of, d_suit_of, d_card_of, d_check_cards, d_Pack___init__, d_Pack_draw, d_Pack_bottom, d_Pack_put_under, d_Pack_put_on, d_Pack_cut, d_Pack_place_of, d_Pack_take_out, d_Pack_missing, d_Pack_turned, d_Pack_shown, d_Row___init__, d_Row_said, d_Row_key, d_read_row, d_Book___init__, d_Book_state, d_Book_add, d_Book_said, d_Book_with_row, d_Book_without_last, d_Book_told_kinds, d_Book_best_day, d_Book_never, d_Desk___init__, d_Desk_note, d_Desk_tell, d_Desk_strike, d_Desk_judged, d_Desk_undo, d_Desk_redo, d_Layout___init__, d_Layout_may_lay, d_Layout_lay, d_Layout_open_cards, d_Layout_full, d_Layout_laid_cards, d_Layout_shown, d__law_dice, d__law_roll, d__law_rounds, d__law_under, d_law]
def fa : List He.Fa := [.glo "_wall", .glo "cards_for", .glo "highest_house", .glo "check_card", .glo "rank_of", .glo "suit_of", .glo "card_of", .glo "check_cards", .glo "read_row", .glo "_law_dice", .glo "_law_roll", .glo "_law_rounds", .glo "_law_under", .glo "law", .free "abs", .free "any", .free "dict", .free "enumerate", .free "int", .free "isinstance", .free "len", .free "min", .free "range", .free "sorted", .free "str", .free "tuple", .free "super", .free "ValueError", .glo "CardFault", .glo "BadCard", .glo "BadPlan", .glo "BadSize", .glo "NoSuch", .glo "NoRoom", .glo "NoWay", .glo "BadText", .glo "BadDeed", .glo "House", .glo "Pack", .glo "Row", .glo "Book", .glo "Desk", .glo "Layout", .cls "House", .mkr "House", .noat "House" "wide", .noat "House" "tents", .noat "House" "flats", .meth "House" "lean", .meth "House" "lay", .meth "House" "knock", .meth "House" "card_count", .meth "House" "storeys", .meth "House" "whole", .meth "House" "free", .meth "House" "bears", .meth "House" "shown", .cls "Pack", .mkr "Pack", .noat "Pack" "cards", .meth "Pack" "draw", .meth "Pack" "bottom", .meth "Pack" "put_under", .meth "Pack" "put_on", .meth "Pack" "cut", .meth "Pack" "place_of", .meth "Pack" "take_out", .meth "Pack" "missing", .meth "Pack" "turned", .meth "Pack" "shown", .cls "Row", .mkr "Row", .noat "Row" "day", .noat "Row" "kind", .noat "Row" "deed", .noat "Row" "many", .meth "Row" "said", .meth "Row" "key", .cls "Book", .mkr "Book", .noat "Book" "lines", .meth "Book" "state", .meth "Book" "add", .meth "Book" "said", .meth "Book" "with_row", .meth "Book" "without_last", .meth "Book" "told_kinds", .meth "Book" "best_day", .meth "Book" "never", .cls "Desk", .mkr "Desk", .noat "Desk" "text", .noat "Desk" "deeds", .noat "Desk" "undone", .meth "Desk" "note", .meth "Desk" "tell", .meth "Desk" "strike", .meth "Desk" "judged", .meth "Desk" "undo", .meth "Desk" "redo", .cls "Layout", .mkr "Layout", .noat "Layout" "rows", .meth "Layout" "may_lay", .meth "Layout" "lay", .meth "Layout" "open_cards", .meth "Layout" "full", .meth "Layout" "laid_cards", .meth "Layout" "shown", .exc "BadCard", .exc "BadPlan", .exc "BadSize", .exc "NoSuch", .exc "NoRoom", .exc "NoWay", .exc "BadDeed", .exm "BadCard" "CardFault" true, .exm "BadCard" "BadText" false, .exm "BadPlan" "CardFault" true, .exm "BadPlan" "BadText" false, .exm "BadSize" "CardFault" true, .exm "BadSize" "BadText" false, .exm "NoSuch" "CardFault" true, .exm "NoSuch" "BadText" false, .exm "NoRoom" "CardFault" true, .exm "NoRoom" "BadText" false, .exm "NoWay" "CardFault" true, .exm "NoWay" "BadText" false, .exm "BadDeed" "CardFault" true, .exm "BadDeed" "BadText" false, .str "RANKS" "123456789tjqk", .str "SUITS" "cdhs", .glo "DEEDS"]
def tf : List He.Defn := [("read_row", none), ("law", none)]
def loose0 : List PySem.Str := ["_wall", "CardFault", "BadCard", "BadPlan", "BadSize", "NoSuch", "NoRoom", "NoWay", "BadText", "BadDeed", "House", "cards_for", "highest_house", "RANKS", "SUITS", "check_card", "rank_of", "suit_of", "card_of", "check_cards", "Pack", "DEEDS", "Row", "read_row", "Book", "Desk", "Layout", "_law_dice", "_law_roll", "_law_rounds"]
def loose1 : List PySem.Str := ["_law_under"]
def loose : List PySem.Str := loose0 ++ loose1
def exN0 : List PySem.Str := ["BadCard", "BadPlan", "BadSize", "NoSuch", "NoRoom", "NoWay", "BadDeed", "BadText"]
def t1N : List PySem.Str := ["BadDeed", "BadPlan", "BadSize", "BadText"]
def t2N : List PySem.Str := ["BadCard", "NoRoom", "NoSuch", "NoWay"]
def apB (K : PySem.W.Frag) : Bool := decide ((tf.map fun p => (He.cT K p).2).Nodup) && ktpB K "DEEDS" [.inr "printed", .inr "cut", .inr "spoilt", .inr "sold"] && ownB K file0 (He.ga K "BadText") && excsB K "CardFault" exN0 (t1N ++ t2N)
abbrev rowO : PySem.W.OpenRow := PySem.W.OpenLaw.row PySem.Challenge.rw_cardhall_k23_refusals_apart
abbrev hk : PySem.W.Hook := hookY 5 fa fn tf apB ow
def ob (s : PySem.W.SharedT) : AlY := obsY 5 fa fn tf apB ow (HandSHeadRun.getT s)
theorem ob_eq (s : PySem.W.SharedT) : ob s = hk.obs s.abs := obsY_eq (HandSHeadRun.getT_eq s)
theorem run (w : World) : HandSHeadRun.RunEq rowO (PySem.W.view rowO.prog [38]) hk ob 1000000 loose w := by
  intro os
  kernel_rfl
end CardH
end
section
set_option maxHeartbeats 0
namespace CardH
open PySem PySem.Spec PyProof.Rows L2 LamX

def fldN : List PySem.Str := ["wide", "tents", "flats", "cards", "day", "kind", "deed", "many", "lines", "text", "deeds", "undone", "rows"]
def clsN : List PySem.Str := ["House", "Pack", "Row", "Book", "Desk", "Layout"]
def excN : List PySem.Str := ["BadCard", "BadPlan", "BadSize", "NoSuch", "NoRoom", "NoWay", "BadDeed", "BadText"]
def tbN : List (He.Defn × PySem.Str) := [(("read_row", none), "read_row.<locals>.<genexpr>"), (("law", none), "law.<locals>.<lambda>")]
def tblL (K : PySem.W.Frag) : List (Addr × PySem.Str) := tbN.map fun p => ((He.cT K p.1).2, p.2)
@[reducible] def ktD (K : PySem.W.Frag) (mg : PySem.Str → Option Value) : Kt := ⟨K, mg, fun i => He.ga K (clsN.getD i ""), fun i => .ref (He.ga K (excN.getD i "")), fldN, tabsOf (tblL K)⟩
structure Kn (P : Program) (K : PySem.W.Frag) (mg : PySem.Str → Option Value) (base : Heap) : Prop where
  c : He.SaysD fa fn K
  gl : ∀ x, He.Fa.glo x ∈ fa → mg x = some (.ref (He.ga K x))
  fr : ∀ x, He.Fa.free x ∈ fa → mg x = none
  st : ∀ x z, He.Fa.str x z ∈ fa → ∃ t, mg x = some (.str z t)
  nt : ∀ x i, He.Fa.int x i ∈ fa → ∃ t, mg x = some (.int i t)
  tb : ∀ p ∈ tf, TabB base mg (He.cT K p).1 (He.cT K p).2
  ap : apB K = true
  o : ow.map (fun d => ownW K d.name) = ow.map OwnD.val
  pf : ((P.main.file : PySem.Str) == file0) = true ∧ (P.main.scope.names.lookup ("super" : PySem.Str)).isSome = false
theorem ndN : fldN.Nodup := by decide +kernel
section
variable {P : Program} {w : World} {K : PySem.W.Frag} {mg : PySem.Str → Option Value} {base : Heap}
theorem Kn.o_ow (kn : Kn P K mg base) (i : Nat) {d : OwnD} (hi : ow[i]? = some d) : ownW K d.name = d.val := by
  have e : (ow.map fun d => ownW K d.name)[i]? = (ow.map OwnD.val)[i]? := by rw [kn.o]
  rw [List.getElem?_map, List.getElem?_map, hi] at e
  exact Option.some.inj e
theorem Kn.mem {f : He.Fa} {i : Nat} (h : fa[i]? = some f) : f ∈ fa := List.mem_of_getElem? h

theorem g_highest_house (kn : Kn P K mg base) : mg "highest_house" = some (.ref (He.ga K "highest_house")) := kn.gl _ (Kn.mem (i := 2) rfl)
theorem g_check_card (kn : Kn P K mg base) : mg "check_card" = some (.ref (He.ga K "check_card")) := kn.gl _ (Kn.mem (i := 3) rfl)
theorem g_rank_of (kn : Kn P K mg base) : mg "rank_of" = some (.ref (He.ga K "rank_of")) := kn.gl _ (Kn.mem (i := 4) rfl)
theorem g_suit_of (kn : Kn P K mg base) : mg "suit_of" = some (.ref (He.ga K "suit_of")) := kn.gl _ (Kn.mem (i := 5) rfl)
theorem g_card_of (kn : Kn P K mg base) : mg "card_of" = some (.ref (He.ga K "card_of")) := kn.gl _ (Kn.mem (i := 6) rfl)
theorem g_check_cards (kn : Kn P K mg base) : mg "check_cards" = some (.ref (He.ga K "check_cards")) := kn.gl _ (Kn.mem (i := 7) rfl)
theorem g_read_row (kn : Kn P K mg base) : mg "read_row" = some (.ref (He.ga K "read_row")) := kn.gl _ (Kn.mem (i := 8) rfl)
theorem g__law_dice (kn : Kn P K mg base) : mg "_law_dice" = some (.ref (He.ga K "_law_dice")) := kn.gl _ (Kn.mem (i := 9) rfl)
theorem g__law_roll (kn : Kn P K mg base) : mg "_law_roll" = some (.ref (He.ga K "_law_roll")) := kn.gl _ (Kn.mem (i := 10) rfl)
theorem g__law_rounds (kn : Kn P K mg base) : mg "_law_rounds" = some (.ref (He.ga K "_law_rounds")) := kn.gl _ (Kn.mem (i := 11) rfl)
theorem g__law_under (kn : Kn P K mg base) : mg "_law_under" = some (.ref (He.ga K "_law_under")) := kn.gl _ (Kn.mem (i := 12) rfl)
theorem m_abs (kn : Kn P K mg base) : mg "abs" = none := kn.fr _ (Kn.mem (i := 14) rfl)
theorem m_dict (kn : Kn P K mg base) : mg "dict" = none := kn.fr _ (Kn.mem (i := 16) rfl)
theorem m_int (kn : Kn P K mg base) : mg "int" = none := kn.fr _ (Kn.mem (i := 18) rfl)
theorem m_isinstance (kn : Kn P K mg base) : mg "isinstance" = none := kn.fr _ (Kn.mem (i := 19) rfl)
theorem m_len (kn : Kn P K mg base) : mg "len" = none := kn.fr _ (Kn.mem (i := 20) rfl)
theorem m_range (kn : Kn P K mg base) : mg "range" = none := kn.fr _ (Kn.mem (i := 22) rfl)
theorem m_str (kn : Kn P K mg base) : mg "str" = none := kn.fr _ (Kn.mem (i := 24) rfl)
theorem m_tuple (kn : Kn P K mg base) : mg "tuple" = none := kn.fr _ (Kn.mem (i := 25) rfl)
theorem m_super (kn : Kn P K mg base) : mg "super" = none := kn.fr _ (Kn.mem (i := 26) rfl)
theorem m_ValueError (kn : Kn P K mg base) : mg "ValueError" = none := kn.fr _ (Kn.mem (i := 27) rfl)
theorem g_CardFault (kn : Kn P K mg base) : mg "CardFault" = some (.ref (He.ga K "CardFault")) := kn.gl _ (Kn.mem (i := 28) rfl)
theorem g_BadCard (kn : Kn P K mg base) : mg "BadCard" = some (.ref (He.ga K "BadCard")) := kn.gl _ (Kn.mem (i := 29) rfl)
theorem g_BadPlan (kn : Kn P K mg base) : mg "BadPlan" = some (.ref (He.ga K "BadPlan")) := kn.gl _ (Kn.mem (i := 30) rfl)
theorem g_BadSize (kn : Kn P K mg base) : mg "BadSize" = some (.ref (He.ga K "BadSize")) := kn.gl _ (Kn.mem (i := 31) rfl)
theorem g_NoSuch (kn : Kn P K mg base) : mg "NoSuch" = some (.ref (He.ga K "NoSuch")) := kn.gl _ (Kn.mem (i := 32) rfl)
theorem g_NoRoom (kn : Kn P K mg base) : mg "NoRoom" = some (.ref (He.ga K "NoRoom")) := kn.gl _ (Kn.mem (i := 33) rfl)
theorem g_NoWay (kn : Kn P K mg base) : mg "NoWay" = some (.ref (He.ga K "NoWay")) := kn.gl _ (Kn.mem (i := 34) rfl)
theorem g_BadText (kn : Kn P K mg base) : mg "BadText" = some (.ref (He.ga K "BadText")) := kn.gl _ (Kn.mem (i := 35) rfl)
theorem g_BadDeed (kn : Kn P K mg base) : mg "BadDeed" = some (.ref (He.ga K "BadDeed")) := kn.gl _ (Kn.mem (i := 36) rfl)
theorem g_House (kn : Kn P K mg base) : mg "House" = some (.ref (He.ga K "House")) := kn.gl _ (Kn.mem (i := 37) rfl)
theorem g_Pack (kn : Kn P K mg base) : mg "Pack" = some (.ref (He.ga K "Pack")) := kn.gl _ (Kn.mem (i := 38) rfl)
theorem g_Desk (kn : Kn P K mg base) : mg "Desk" = some (.ref (He.ga K "Desk")) := kn.gl _ (Kn.mem (i := 41) rfl)
theorem g_Layout (kn : Kn P K mg base) : mg "Layout" = some (.ref (He.ga K "Layout")) := kn.gl _ (Kn.mem (i := 42) rfl)
theorem cls_House (kn : Kn P K mg base) : Cls K (He.ga K "House") := He.cls_ok (kn.c.fact 43 (f := .cls "House") rfl)
theorem mk_House (kn : Kn P K mg base) : Mk K (He.ga K "House") (He.ma K (He.ga K "House") "__init__") := He.mkr_ok (kn.c.fact 44 (f := .mkr "House") rfl)
theorem cls_Pack (kn : Kn P K mg base) : Cls K (He.ga K "Pack") := He.cls_ok (kn.c.fact 57 (f := .cls "Pack") rfl)
theorem mk_Pack (kn : Kn P K mg base) : Mk K (He.ga K "Pack") (He.ma K (He.ga K "Pack") "__init__") := He.mkr_ok (kn.c.fact 58 (f := .mkr "Pack") rfl)
theorem na_Pack_cards (kn : Kn P K mg base) : NoAttr K (He.ga K "Pack") "cards" := He.noat_ok (kn.c.fact 59 (f := .noat "Pack" "cards") rfl)
theorem mt_Pack_draw (kn : Kn P K mg base) : Meth K (He.ga K "Pack") "draw" (He.ma K (He.ga K "Pack") "draw") := He.meth_ok (kn.c.fact 60 (f := .meth "Pack" "draw") rfl)
theorem cls_Desk (kn : Kn P K mg base) : Cls K (He.ga K "Desk") := He.cls_ok (kn.c.fact 89 (f := .cls "Desk") rfl)
theorem mk_Desk (kn : Kn P K mg base) : Mk K (He.ga K "Desk") (He.ma K (He.ga K "Desk") "__init__") := He.mkr_ok (kn.c.fact 90 (f := .mkr "Desk") rfl)
theorem na_Desk_text (kn : Kn P K mg base) : NoAttr K (He.ga K "Desk") "text" := He.noat_ok (kn.c.fact 91 (f := .noat "Desk" "text") rfl)
theorem na_Desk_deeds (kn : Kn P K mg base) : NoAttr K (He.ga K "Desk") "deeds" := He.noat_ok (kn.c.fact 92 (f := .noat "Desk" "deeds") rfl)
theorem na_Desk_undone (kn : Kn P K mg base) : NoAttr K (He.ga K "Desk") "undone" := He.noat_ok (kn.c.fact 93 (f := .noat "Desk" "undone") rfl)
theorem mt_Desk_undo (kn : Kn P K mg base) : Meth K (He.ga K "Desk") "undo" (He.ma K (He.ga K "Desk") "undo") := He.meth_ok (kn.c.fact 98 (f := .meth "Desk" "undo") rfl)
theorem cls_Layout (kn : Kn P K mg base) : Cls K (He.ga K "Layout") := He.cls_ok (kn.c.fact 100 (f := .cls "Layout") rfl)
theorem mk_Layout (kn : Kn P K mg base) : Mk K (He.ga K "Layout") (He.ma K (He.ga K "Layout") "__init__") := He.mkr_ok (kn.c.fact 101 (f := .mkr "Layout") rfl)
theorem na_Layout_rows (kn : Kn P K mg base) : NoAttr K (He.ga K "Layout") "rows" := He.noat_ok (kn.c.fact 102 (f := .noat "Layout" "rows") rfl)
theorem mt_Layout_may_lay (kn : Kn P K mg base) : Meth K (He.ga K "Layout") "may_lay" (He.ma K (He.ga K "Layout") "may_lay") := He.meth_ok (kn.c.fact 103 (f := .meth "Layout" "may_lay") rfl)
theorem mt_Layout_lay (kn : Kn P K mg base) : Meth K (He.ga K "Layout") "lay" (He.ma K (He.ga K "Layout") "lay") := He.meth_ok (kn.c.fact 104 (f := .meth "Layout" "lay") rfl)
theorem ex_BadCard (kn : Kn P K mg base) {X : Cx} (hK : X.K = K) (hm : X.mg = mg) : ExcCls (ktD K mg) X 0 "BadCard" := by
  obtain ⟨c1, c2, c3, c4⟩ := He.exc_ok (kn.c.fact 109 (f := .exc "BadCard") rfl)
  exact ⟨_, _, _, _, _, PySem.F.excBase_ValueError, by rw [hK]; exact c1, by rw [hm]; exact g_BadCard kn, by rw [hK]; exact c2, raises_own (by rw [hK]; exact c3) (by rw [hK]; exact c4), rfl⟩
theorem ex_BadPlan (kn : Kn P K mg base) {X : Cx} (hK : X.K = K) (hm : X.mg = mg) : ExcCls (ktD K mg) X 1 "BadPlan" := by
  obtain ⟨c1, c2, c3, c4⟩ := He.exc_ok (kn.c.fact 110 (f := .exc "BadPlan") rfl)
  exact ⟨_, _, _, _, _, PySem.F.excBase_ValueError, by rw [hK]; exact c1, by rw [hm]; exact g_BadPlan kn, by rw [hK]; exact c2, raises_own (by rw [hK]; exact c3) (by rw [hK]; exact c4), rfl⟩
theorem ex_BadSize (kn : Kn P K mg base) {X : Cx} (hK : X.K = K) (hm : X.mg = mg) : ExcCls (ktD K mg) X 2 "BadSize" := by
  obtain ⟨c1, c2, c3, c4⟩ := He.exc_ok (kn.c.fact 111 (f := .exc "BadSize") rfl)
  exact ⟨_, _, _, _, _, PySem.F.excBase_ValueError, by rw [hK]; exact c1, by rw [hm]; exact g_BadSize kn, by rw [hK]; exact c2, raises_own (by rw [hK]; exact c3) (by rw [hK]; exact c4), rfl⟩
theorem ex_NoSuch (kn : Kn P K mg base) {X : Cx} (hK : X.K = K) (hm : X.mg = mg) : ExcCls (ktD K mg) X 3 "NoSuch" := by
  obtain ⟨c1, c2, c3, c4⟩ := He.exc_ok (kn.c.fact 112 (f := .exc "NoSuch") rfl)
  exact ⟨_, _, _, _, _, PySem.F.excBase_ValueError, by rw [hK]; exact c1, by rw [hm]; exact g_NoSuch kn, by rw [hK]; exact c2, raises_own (by rw [hK]; exact c3) (by rw [hK]; exact c4), rfl⟩
theorem ex_NoRoom (kn : Kn P K mg base) {X : Cx} (hK : X.K = K) (hm : X.mg = mg) : ExcCls (ktD K mg) X 4 "NoRoom" := by
  obtain ⟨c1, c2, c3, c4⟩ := He.exc_ok (kn.c.fact 113 (f := .exc "NoRoom") rfl)
  exact ⟨_, _, _, _, _, PySem.F.excBase_ValueError, by rw [hK]; exact c1, by rw [hm]; exact g_NoRoom kn, by rw [hK]; exact c2, raises_own (by rw [hK]; exact c3) (by rw [hK]; exact c4), rfl⟩
theorem ex_NoWay (kn : Kn P K mg base) {X : Cx} (hK : X.K = K) (hm : X.mg = mg) : ExcCls (ktD K mg) X 5 "NoWay" := by
  obtain ⟨c1, c2, c3, c4⟩ := He.exc_ok (kn.c.fact 114 (f := .exc "NoWay") rfl)
  exact ⟨_, _, _, _, _, PySem.F.excBase_ValueError, by rw [hK]; exact c1, by rw [hm]; exact g_NoWay kn, by rw [hK]; exact c2, raises_own (by rw [hK]; exact c3) (by rw [hK]; exact c4), rfl⟩
theorem ex_BadDeed (kn : Kn P K mg base) {X : Cx} (hK : X.K = K) (hm : X.mg = mg) : ExcCls (ktD K mg) X 6 "BadDeed" := by
  obtain ⟨c1, c2, c3, c4⟩ := He.exc_ok (kn.c.fact 115 (f := .exc "BadDeed") rfl)
  exact ⟨_, _, _, _, _, PySem.F.excBase_ValueError, by rw [hK]; exact c1, by rw [hm]; exact g_BadDeed kn, by rw [hK]; exact c2, raises_own (by rw [hK]; exact c3) (by rw [hK]; exact c4), rfl⟩
abbrev c_RANKS : Vl := .str "123456789tjqk"
theorem g_RANKS (kn : Kn P K mg base) : GlobIs (ktD K mg) "RANKS" c_RANKS := by
  obtain ⟨t, e⟩ := kn.st _ _ (Kn.mem (i := 130) (f := .str "RANKS" "123456789tjqk") rfl)
  exact ⟨.str "123456789tjqk", _, e, ⟨t, rfl⟩, fun _ => ⟨rfl, by decide +kernel⟩⟩
abbrev c_SUITS : Vl := .str "cdhs"
theorem g_SUITS (kn : Kn P K mg base) : GlobIs (ktD K mg) "SUITS" c_SUITS := by
  obtain ⟨t, e⟩ := kn.st _ _ (Kn.mem (i := 131) (f := .str "SUITS" "cdhs") rfl)
  exact ⟨.str "cdhs", _, e, ⟨t, rfl⟩, fun _ => ⟨rfl, by decide +kernel⟩⟩
def undNg : List PySem.Str := ["what", "e", "some"]
theorem exOk (kn : Kn P K mg base) : ExcsOk K "CardFault" excN (t1N ++ t2N) := excsB_ok (Bool.and_eq_true_iff.mp kn.ap).2
theorem sc_und : FnScope undNg ["what"] (defScope s__law_under) := ⟨rfl, rfl, rfl, by decide +kernel, rfl, by decide +kernel, by decide +kernel⟩
theorem undD (kn : Kn P K mg base) : ToldD (ktD K mg) "_law_under" "what" (He.ga K "_law_under") undNg (defScope s__law_under) (defBody s__law_under) [] := by
  obtain ⟨fd, ⟨oc, od, dV, kV, doc, pm, an, cdv, ct, osl, rfl, lk, hcd, hdv, hkw⟩, kp⟩ := kn.c.def_ 59 (d := d__law_under) rfl
  refine ⟨⟨oc, od, _, dV, kV, doc, pm, an, cdv, ct, osl, lk, hcd, ?_⟩, kp, g__law_under kn, sc_und, rfl, .inl rfl⟩
  have hd : dV = .none := by
    rcases hdv with ⟨_, e⟩ | ⟨e, _⟩
    · exact e
    · exact absurd rfl e
  subst hd
  exact .all fun us hl => match us, hl with | [_], _ => rfl
abbrev undCx (X : Cx) (K : PySem.W.Frag) (cdv : Value) (s : Shared) (H : Hp) : Cx := (cxOf C8.CX0 X.prog X.w X.K X.mg X.base undNg "_law_under" (defScope s__law_under) (He.ga K "_law_under") cdv X.A X.stack s H C8.E0).nox
theorem undCf (kn : Kn P K mg base) {X : Cx} (hm : X.mg = mg) (cdv : Value) (s : Shared) (H : Hp) : Names (undCx X K cdv s H) "CardFault" (.ref (He.ga K "CardFault")) := by
  have hmg : ∀ x, X.mg x = mg x := fun x => by rw [hm]
  exact ⟨rfl, by decide, .inl ((hmg _).trans (g_CardFault kn))⟩
theorem undLast {X : Cx} (cdv : Value) (s : Shared) (H : Hp) {pos q : Pos} : PS (undCx X K cdv s H) (.Return (some (.List [] q)) pos) (tRet (L2.tLst tNil)) := ps_ret (pe_lst pa_nil)
def undSt : List Stmt := match defBody s__law_under with
  | [.Try _ [.ExceptHandler _ _ b _] _ _ _, _] => b
  | _ => []
theorem undSu (kn : Kn P K mg base) {X : Cx} (hK : X.K = K) (hm : X.mg = mg) (cdv : Value) (s : Shared) (H : Hp) (a : Addr) (oe : Obj) (cls : Value) (d : Option Addr) (pn : List (Addr × Obj)) (hz : Zc cls d oe) (hf : ∃ vs, oe.data = .fields vs) :
    PSs ((undCx X K cdv s H).suite a ((a, oe) :: pn)) undSt (undT K excN t1N t2N 1 2 a cls d) := by
  have hmg : ∀ x, X.mg x = mg x := fun x => by rw [hm]
  subst hK
  have O := exOk kn
  refine ⟨fun pins s' σ H' D I ⟨E, hE, ec, h⟩ => ?_⟩
  subst ec
  have ism : (undCx X X.K cdv s H).mg "isinstance" = none := (hmg _).trans (m_isinstance kn)
  have G : PSs ((undCx X X.K cdv s H).suite a ((a, oe) :: pn)) undSt (utsR a d 1 2 (t1N.map fun C => decide (E = C)) (t2N.map fun C => decide (E = C)) [true]) :=
    pss_uts (X := (undCx X X.K cdv s H).suite a ((a, oe) :: pn)) (ie := 1) (i := 2) (x := "some")
    (IsiA.cons (pe_isiC (X := undCx X X.K cdv s H) (ie := 1) (C := "BadDeed") O hE (by decide +kernel) hz hf rfl (.inl rfl) rfl ism rfl ((hmg _).trans (g_BadDeed kn)))
    (IsiA.cons (pe_isiC (X := undCx X X.K cdv s H) (ie := 1) (C := "BadPlan") O hE (by decide +kernel) hz hf rfl (.inl rfl) rfl ism rfl ((hmg _).trans (g_BadPlan kn)))
    (IsiA.cons (pe_isiC (X := undCx X X.K cdv s H) (ie := 1) (C := "BadSize") O hE (by decide +kernel) hz hf rfl (.inl rfl) rfl ism rfl ((hmg _).trans (g_BadSize kn)))
    (IsiA.cons (pe_isiC (X := undCx X X.K cdv s H) (ie := 1) (C := "BadText") O hE (by decide +kernel) hz hf rfl (.inl rfl) rfl ism rfl ((hmg _).trans (g_BadText kn)))
    IsiA.nil))))
    (IsiA.cons (pe_isiC (X := undCx X X.K cdv s H) (ie := 1) (C := "BadCard") O hE (by decide +kernel) hz hf rfl (.inl rfl) rfl ism rfl ((hmg _).trans (g_BadCard kn)))
    (IsiA.cons (pe_isiC (X := undCx X X.K cdv s H) (ie := 1) (C := "NoRoom") O hE (by decide +kernel) hz hf rfl (.inl rfl) rfl ism rfl ((hmg _).trans (g_NoRoom kn)))
    (IsiA.cons (pe_isiC (X := undCx X X.K cdv s H) (ie := 1) (C := "NoSuch") O hE (by decide +kernel) hz hf rfl (.inl rfl) rfl ism rfl ((hmg _).trans (g_NoSuch kn)))
    (IsiA.cons (pe_isiC (X := undCx X X.K cdv s H) (ie := 1) (C := "NoWay") O hE (by decide +kernel) hz hf rfl (.inl rfl) rfl ism rfl ((hmg _).trans (g_NoWay kn)))
    IsiA.nil))))
    (IsiA.cons (pe_isiV (X := undCx X X.K cdv s H) (ie := 1) O hE hz hf rfl (.inl rfl) rfl ism rfl ((hmg _).trans (m_ValueError kn)))
    IsiA.nil) (by rw [List.length_map, List.length_map]; decide) (by decide) sc_und.nd rfl (.inl rfl) (.inl rfl) (.inr rfl) (by decide) (by decide) rfl rfl
  exact G.run pins s' σ H' D I h
theorem exI_BadText (kn : Kn P K mg base) {X : Cx} (hP : X.prog = P) (hK : X.K = K) (hm : X.mg = mg) : ExcI (ktD K mg) X 7 "BadText" := by
  subst hP hK hm
  obtain ⟨cc, cda, fd, O⟩ := ownB_ok (P := X.prog) (Bool.and_eq_true_iff.mp (Bool.and_eq_true_iff.mp kn.ap).1).2 kn.pf.1 kn.pf.2
  have e := kn.o_ow 0 (d := o_BadText) rfl
  unfold ownW at e
  rw [show (o_BadText).name = ("BadText" : PySem.Str) from rfl, O.at_] at e
  have e2 := Option.some.inj e
  obtain ⟨n1, n2, n3, n4, n5, n6, n7, n8, n9, n10, n11, n12, n13, n14, n15⟩ := fd
  have df := O.df
  dsimp only at df
  subst df
  have h1 : n2 = _ := congrArg (fun z : PySem.Str × Arguments × FuncBody × Scope => z.1) e2
  have h2 : n3 = _ := congrArg (fun z : PySem.Str × Arguments × FuncBody × Scope => z.2.1) e2
  have h3 : n4 = _ := congrArg (fun z : PySem.Str × Arguments × FuncBody × Scope => z.2.2.1) e2
  have h4 : n5 = _ := congrArg (fun z : PySem.Str × Arguments × FuncBody × Scope => z.2.2.2) e2
  subst h1 h2 h3 h4
  exact ⟨⟨_, cc, cda, _, _, _, _, _, _, _, _, _, _, _, _, _, O, ⟨rfl, fun _ _ => rfl, fun _ => ⟨_, rfl⟩, ⟨_, rfl, rfl⟩, (show ∀ x ∈ (defScope s_BadText___init__).names, x.2 ≠ .cell from by decide +kernel), rfl, rfl, rfl, rfl, rfl, rfl, rfl⟩, g_BadText kn, rfl⟩, m_super kn⟩
theorem tabB (kn : Kn P K mg base) (i : Nat) {p : He.Defn} (h : tf[i]? = some p) : TabB base mg (He.cT K p).1 (He.cT K p).2 := kn.tb p (List.mem_of_getElem? h)
theorem memT (i : Nat) {p : He.Defn × PySem.Str} (h : tbN[i]? = some p := by rfl) : ((He.cT K p.1).2, p.2) ∈ tblL K := List.mem_map.mpr ⟨p, List.mem_of_getElem? h, rfl⟩
theorem uniqT (kn : Kn P K mg base) (i : Nat) {p : He.Defn × PySem.Str} (h : tbN[i]? = some p := by rfl) : ∀ q ∈ tblL K, q.1 = (He.cT K p.1).2 → q.2 = p.2 := by
  intro q hq e
  have nd : (tbN.map fun p => (He.cT K p.1).2).Nodup := of_decide_eq_true (Bool.and_eq_true_iff.mp (Bool.and_eq_true_iff.mp (Bool.and_eq_true_iff.mp kn.ap).1).1).1
  obtain ⟨q', hq', rfl⟩ := List.mem_map.mp hq
  obtain ⟨j, hj, ej⟩ := List.mem_iff_getElem.mp hq'
  have hi := (List.getElem?_eq_some_iff.mp h)
  obtain ⟨hi1, hi2⟩ := hi
  have e2 : (He.cT K tbN[i].1).2 = (He.cT K tbN[j].1).2 := by
    rw [hi2, ej]; exact e.symm
  have pw := List.pairwise_iff_getElem.mp nd
  rcases Nat.lt_trichotomy i j with z | z | z
  · exact absurd (by rw [List.getElem_map, List.getElem_map]; exact e2) (pw i j (by rw [List.length_map]; exact hi1) (by rw [List.length_map]; exact hj) z)
  · subst z
    rw [← ej, hi2]
  · exact absurd (by rw [List.getElem_map, List.getElem_map]; exact e2.symm) (pw j i (by rw [List.length_map]; exact hj) (by rw [List.length_map]; exact hi1) z)

end
def isi_str (n : String) : Option Bool := kitB n "str"
theorem isi_str_ok {K : PySem.W.Frag} : ∀ n b, isi_str n = some b → PySem.W.kitOne K (.type n) (.type "str") = some b := fun n b h => kit_ty h
theorem boot_str : bootBuiltins "str" = some (.type "str") := by kernel_rfl
end CardH
end
section
set_option maxHeartbeats 0
namespace CardH
open PySem PySem.Spec PyProof.Rows L2 LamX

section
variable {P : Program} {w : World} {K : PySem.W.Frag} {mg : PySem.Str → Option Value} {base : Heap}
def N_House___init__ : List PySem.Str := ["self", "wide"]
def D_House___init__ : DS := (dSeq (dIfS (dTB (dBin vLt (dVar 1) (dC (.int 1))))
    (dRaise (dxC 1))
    dNext)
    dDead)
def M_House___init__ : FT := runF 2 D_House___init__
theorem sc_House___init__ : FnScope N_House___init__ ["self", "wide"] (defScope s_House___init__) := ⟨rfl, rfl, rfl, by decide +kernel, rfl, by decide +kernel, by decide +kernel⟩
theorem F_House___init__ (kn : Kn P K mg base) : DFn P w base (ktD K mg) 1 (He.ma K (He.ga K "House") "__init__") 2 M_House___init__ := by
  refine DFn.ofD (kt := ktD K mg) (pp := ("House", some "__init__")) (kn.c.def_ 1 (d := d_House___init__) rfl) sc_House___init__ (fun _ _ _ _ _ _ _ us hl => match us, hl with | [_, _], _ => rfl) D_House___init__ (fun A outer s H E W0 hr => ?_)
  have nd : N_House___init__.Nodup := sc_House___init__.nd
  exact (sss_cons (ss_if (st_cmp (ops_lt (room_hu hr).1) (sx_var 1) sx_int)
    (sss_one (ss_raise rfl (smk_own 1 (ex_BadPlan kn rfl rfl))))
    sss_nil)
    sss_dead)
def N_highest_house : List PySem.Str := ["cards", "storeys"]
def D_highest_house : DS := (dSeq (dIfS (dTB (dBin vLt (dVar 0) (dC (.int 2))))
    (dRaise (dxC 5))
    dNext)
    dDead)
def M_highest_house : FT := runF 2 D_highest_house
theorem sc_highest_house : FnScope N_highest_house ["cards"] (defScope s_highest_house) := ⟨rfl, rfl, rfl, by decide +kernel, rfl, by decide +kernel, by decide +kernel⟩
theorem F_highest_house (kn : Kn P K mg base) : DFn P w base (ktD K mg) 1 (He.ga K "highest_house") 1 M_highest_house := by
  refine DFn.ofD (kt := ktD K mg) (pp := ("highest_house", none)) (kn.c.def_ 12 (d := d_highest_house) rfl) sc_highest_house (fun _ _ _ _ _ _ _ us hl => match us, hl with | [_], _ => rfl) D_highest_house (fun A outer s H E W0 hr => ?_)
  have nd : N_highest_house.Nodup := sc_highest_house.nd
  exact (sss_cons (ss_if (st_cmp (ops_lt (room_hu hr).1) (sx_var 0) sx_int)
    (sss_one (ss_raise rfl (smk_own 5 (ex_NoWay kn rfl rfl))))
    sss_nil)
    sss_dead)
def N_check_card : List PySem.Str := ["card"]
def D_check_card : DS := (dIfS (dOr (dNot (dTest (dUn (vIsi "str" isi_str) (dVar 0)))) (dOr (dTB (dBin vNe (dFn oLen (daCons (dVar 0) daNil)) (dC (.int 2)))) (dOr (dTB (dBin vNotInV (dIx (dVar 0) (dC (.int 0))) (dC c_RANKS))) (dTB (dBin vNotInV (dIx (dVar 0) (dC (.int 1))) (dC c_SUITS))))))
    (dRaise (dxC 0))
    dNext)
def M_check_card : FT := runF 1 D_check_card
theorem sc_check_card : FnScope N_check_card ["card"] (defScope s_check_card) := ⟨rfl, rfl, rfl, by decide +kernel, rfl, by decide +kernel, by decide +kernel⟩
theorem F_check_card (kn : Kn P K mg base) : DFn P w base (ktD K mg) 1 (He.ga K "check_card") 1 M_check_card := by
  refine DFn.ofD (kt := ktD K mg) (pp := ("check_card", none)) (kn.c.def_ 13 (d := d_check_card) rfl) sc_check_card (fun _ _ _ _ _ _ _ us hl => match us, hl with | [_], _ => rfl) D_check_card (fun A outer s H E W0 hr => ?_)
  have nd : N_check_card.Nodup := sc_check_card.nd
  exact (sss_one (ss_if (st_w (sw_or (st_not (st_val (sx_isi "str" isi_str isi_str_ok (sx_var 0) boot_str (hm := m_isinstance kn) (hmt := m_str kn)))) (sw_or (st_cmp (ops_ne (room_hu hr).1) (sx_fn fn_len (sa_cons (sx_var 0) sa_nil) (hm := m_len kn)) sx_int) (sw_or (st_cmp (ops_notIn (room_hu hr).2.1) (sx_ix (room_hu hr).2.2 (sx_var 0) sx_int) (sx_glob (g_RANKS kn))) (sw_or1 (st_cmp (ops_notIn (room_hu hr).2.1) (sx_ix (room_hu hr).2.2 (sx_var 0) sx_int) (sx_glob (g_SUITS kn))))))))
    (sss_one (ss_raise rfl (smk_own 0 (ex_BadCard kn rfl rfl))))
    sss_nil))
def N_rank_of : List PySem.Str := ["card"]
def D_rank_of : DS := (dSeq (dExpr (dCall 1 M_check_card (daCons (dVar 0) daNil)))
    (dRet (dBin vAdd (dBm tStr oSIx (dC c_RANKS) (daCons (dIx (dVar 0) (dC (.int 0))) daNil)) (dC (.int 1)))))
def M_rank_of : FT := runF 1 D_rank_of
theorem sc_rank_of : FnScope N_rank_of ["card"] (defScope s_rank_of) := ⟨rfl, rfl, rfl, by decide +kernel, rfl, by decide +kernel, by decide +kernel⟩
theorem F_rank_of (kn : Kn P K mg base) : DFn P w base (ktD K mg) 2 (He.ga K "rank_of") 1 M_rank_of := by
  refine DFn.ofD (kt := ktD K mg) (pp := ("rank_of", none)) (kn.c.def_ 14 (d := d_rank_of) rfl) sc_rank_of (fun _ _ _ _ _ _ _ us hl => match us, hl with | [_], _ => rfl) D_rank_of (fun A outer s H E W0 hr => ?_)
  have nd : N_rank_of.Nodup := sc_rank_of.nd
  exact (sss_cons (ss_expr (sx_call (F_check_card kn) (hr.mono (by decide)) (g_check_card kn) rfl rfl (sa_cons (sx_var 0) sa_nil)))
    (sss_one (ss_ret (sx_bin ops_add (sx_bm rc_str bm_sidx PySem.F.plainAttrs_str PySem.F.slot_str_index PySem.F.type_str_index (sx_glob (g_RANKS kn)) (sa_cons (sx_ix (room_hu hr).2.2 (sx_var 0) sx_int) sa_nil)) sx_int))))
def N_suit_of : List PySem.Str := ["card"]
def D_suit_of : DS := (dSeq (dExpr (dCall 1 M_check_card (daCons (dVar 0) daNil)))
    (dRet (dIx (dVar 0) (dC (.int 1)))))
def M_suit_of : FT := runF 1 D_suit_of
theorem sc_suit_of : FnScope N_suit_of ["card"] (defScope s_suit_of) := ⟨rfl, rfl, rfl, by decide +kernel, rfl, by decide +kernel, by decide +kernel⟩
theorem F_suit_of (kn : Kn P K mg base) : DFn P w base (ktD K mg) 2 (He.ga K "suit_of") 1 M_suit_of := by
  refine DFn.ofD (kt := ktD K mg) (pp := ("suit_of", none)) (kn.c.def_ 15 (d := d_suit_of) rfl) sc_suit_of (fun _ _ _ _ _ _ _ us hl => match us, hl with | [_], _ => rfl) D_suit_of (fun A outer s H E W0 hr => ?_)
  have nd : N_suit_of.Nodup := sc_suit_of.nd
  exact (sss_cons (ss_expr (sx_call (F_check_card kn) (hr.mono (by decide)) (g_check_card kn) rfl rfl (sa_cons (sx_var 0) sa_nil)))
    (sss_one (ss_ret (sx_ix (room_hu hr).2.2 (sx_var 0) sx_int))))
def N_card_of : List PySem.Str := ["number", "sign"]
def D_card_of : DS := (dSeq (dIfS (dOr (dNot (dTB (dChain vLe vLe (dC (.int 1)) (dVar 0) (dC (.int 13))))) (dTB (dBin vNotInV (dVar 1) (dTup (daCons (dC (.str "c")) (daCons (dC (.str "d")) (daCons (dC (.str "h")) (daCons (dC (.str "s")) daNil))))))))
    (dRaise (dxC 3))
    dNext)
    dDead)
def M_card_of : FT := runF 2 D_card_of
theorem sc_card_of : FnScope N_card_of ["number", "sign"] (defScope s_card_of) := ⟨rfl, rfl, rfl, by decide +kernel, rfl, by decide +kernel, by decide +kernel⟩
theorem F_card_of (kn : Kn P K mg base) : DFn P w base (ktD K mg) 1 (He.ga K "card_of") 2 M_card_of := by
  refine DFn.ofD (kt := ktD K mg) (pp := ("card_of", none)) (kn.c.def_ 16 (d := d_card_of) rfl) sc_card_of (fun _ _ _ _ _ _ _ us hl => match us, hl with | [_, _], _ => rfl) D_card_of (fun A outer s H E W0 hr => ?_)
  have nd : N_card_of.Nodup := sc_card_of.nd
  exact (sss_cons (ss_if (st_w (sw_or (st_not (st_chain (ops_le (room_hu hr).1) (ops_le (room_hu hr).1) sx_int (sx_var 0) sx_int)) (sw_or1 (st_cmp (ops_notIn (room_hu hr).2.1) (sx_var 1) (sx_tup (sa_cons sx_str (sa_cons sx_str (sa_cons sx_str (sa_cons sx_str sa_nil)))))))))
    (sss_one (ss_raise rfl (smk_own 3 (ex_NoSuch kn rfl rfl))))
    sss_nil)
    sss_dead)
def N_check_cards : List PySem.Str := ["cards", "seen", "card"]
def D_check_cards : DS := (dSeq (dOwnD 1)
    (dFor (diVal (dVar 0)) (gSet 2)
    (dSeq (dExpr (dCall 1 M_check_card (daCons (dVar 2) daNil)))
    (dSeq (dIfS (dTB (dBin vInV (dVar 2) (dPk 1)))
    (dRaise (dxC 0))
    dNext)
    (dPutD 1 (dC (.int 1)) (dVar 2))))))
def M_check_cards : FT := runF 3 D_check_cards
theorem sc_check_cards : FnScope N_check_cards ["cards"] (defScope s_check_cards) := ⟨rfl, rfl, rfl, by decide +kernel, rfl, by decide +kernel, by decide +kernel⟩
theorem F_check_cards (kn : Kn P K mg base) : DFn P w base (ktD K mg) 2 (He.ga K "check_cards") 1 M_check_cards := by
  refine DFn.ofD (kt := ktD K mg) (pp := ("check_cards", none)) (kn.c.def_ 17 (d := d_check_cards) rfl) sc_check_cards (fun _ _ _ _ _ _ _ us hl => match us, hl with | [_], _ => rfl) D_check_cards (fun A outer s H E W0 hr => ?_)
  have nd : N_check_cards.Nodup := sc_check_cards.nd
  exact (sss_cons (ss_ownD 1 nd)
    (sss_one (ss_for passes_cx rfl (si_val (sx_var 0)) (sg_name 2 nd)
    (sss_cons (ss_expr (sx_call (F_check_card kn) (hr.mono (by decide)) (g_check_card kn) rfl rfl (sa_cons (sx_var 2) sa_nil)))
    (sss_cons (ss_if (st_cmp (ops_in (room_hu hr).2.1) (sx_var 2) (sx_peek 1))
    (sss_one (ss_raise rfl (smk_own 0 (ex_BadCard kn rfl rfl))))
    sss_nil)
    (sss_one (ss_putD 1 rfl (room_hu hr).2.2 sx_int (sx_var 2))))))))
def N_Pack___init__ : List PySem.Str := ["self", "cards"]
def D_Pack___init__ : DS := (dSeq (dExpr (dCall 1 M_check_cards (daCons (dVar 1) daNil)))
    (dSetF 1 3 (dFn oTuple (daCons (dVar 1) daNil)) (dVar 0)))
def M_Pack___init__ : FT := runF 2 D_Pack___init__
theorem sc_Pack___init__ : FnScope N_Pack___init__ ["self", "cards"] (defScope s_Pack___init__) := ⟨rfl, rfl, rfl, by decide +kernel, rfl, by decide +kernel, by decide +kernel⟩
theorem F_Pack___init__ (kn : Kn P K mg base) : DFn P w base (ktD K mg) 3 (He.ma K (He.ga K "Pack") "__init__") 2 M_Pack___init__ := by
  refine DFn.ofD (kt := ktD K mg) (pp := ("Pack", some "__init__")) (kn.c.def_ 18 (d := d_Pack___init__) rfl) sc_Pack___init__ (fun _ _ _ _ _ _ _ us hl => match us, hl with | [_, _], _ => rfl) D_Pack___init__ (fun A outer s H E W0 hr => ?_)
  have nd : N_Pack___init__.Nodup := sc_Pack___init__.nd
  exact (sss_cons (ss_expr (sx_call (F_check_cards kn) (hr.mono (by decide)) (g_check_cards kn) rfl rfl (sa_cons (sx_var 1) sa_nil)))
    (sss_one (ss_setF 1 3 ndN rfl (na_Pack_cards kn) (sx_ty fn_tuple (sa_cons (sx_var 1) sa_nil) (hm := m_tuple kn)) (sx_var 0))))
def N_Pack_draw : List PySem.Str := ["self", "many", "found"]
def D_Pack_draw : DS := (dSeq (dIfS (dNot (dTB (dChain vLe vLe (dC (.int 0)) (dVar 1) (dFn oLen (daCons (dFld 3 (dVar 0)) daNil)))))
    (dRaise (dxC 2))
    dNext)
    dDead)
def M_Pack_draw : FT := runF 3 D_Pack_draw
theorem sc_Pack_draw : FnScope N_Pack_draw ["self", "many"] (defScope s_Pack_draw) := ⟨rfl, rfl, rfl, by decide +kernel, rfl, by decide +kernel, by decide +kernel⟩
theorem F_Pack_draw (kn : Kn P K mg base) : DFn P w base (ktD K mg) 1 (He.ma K (He.ga K "Pack") "draw") 2 M_Pack_draw := by
  refine DFn.ofD (kt := ktD K mg) (pp := ("Pack", some "draw")) (kn.c.def_ 19 (d := d_Pack_draw) rfl) sc_Pack_draw (fun _ _ _ _ _ _ _ us hl => match us, hl with | [_, _], _ => rfl) D_Pack_draw (fun A outer s H E W0 hr => ?_)
  have nd : N_Pack_draw.Nodup := sc_Pack_draw.nd
  exact (sss_cons (ss_if (st_not (st_chain (ops_le (room_hu hr).1) (ops_le (room_hu hr).1) sx_int (sx_var 1) (sx_fn fn_len (sa_cons (sx_fld 3 ndN (sx_var 0)) sa_nil) (hm := m_len kn))))
    (sss_one (ss_raise rfl (smk_own 2 (ex_BadSize kn rfl rfl))))
    sss_nil)
    sss_dead)
def N_read_row : List PySem.Str := ["text", "words", "one", "found", "sign"]
def D_read_row : DS := (dSeq (dAsg (dBm tStr oSplit (dVar 0) (daCons (dC (.str " ")) daNil)) (gSet 1))
    (dSeq (dIfS (dTB (dBin vNe (dFn oLen (daCons (dVar 1) daNil)) (dC (.int 4))))
    (dRaise (dxI 7 (dC (.int 0))))
    dNext)
    dDead))
def M_read_row : FT := runF 5 D_read_row
theorem sc_read_row : FnScope N_read_row ["text"] (defScope s_read_row) := ⟨rfl, rfl, rfl, by decide +kernel, rfl, by decide +kernel, by decide +kernel⟩
theorem F_read_row (kn : Kn P K mg base) : DFn P w base (ktD K mg) 2 (He.ga K "read_row") 1 M_read_row := by
  refine DFn.ofD (kt := ktD K mg) (pp := ("read_row", none)) (kn.c.def_ 32 (d := d_read_row) rfl) sc_read_row (fun _ _ _ _ _ _ _ us hl => match us, hl with | [_], _ => rfl) D_read_row (fun A outer s H E W0 hr => ?_)
  have nd : N_read_row.Nodup := sc_read_row.nd
  exact (sss_cons (ss_set 1 nd (sx_bm rc_str bm_split PySem.F.plainAttrs_str PySem.F.slot_str_split PySem.F.type_str_split (sx_var 0) (sa_cons sx_str sa_nil)))
    (sss_cons (ss_if (st_cmp (ops_ne (room_hu hr).1) (sx_fn fn_len (sa_cons (sx_var 1) sa_nil) (hm := m_len kn)) sx_int)
    (sss_one (ss_raise rfl (smk_ownI 7 (exI_BadText kn rfl rfl rfl) (hr.mono (by decide)) sx_int)))
    sss_nil)
    sss_dead))
def N_Desk___init__ : List PySem.Str := ["self"]
def D_Desk___init__ : DS := (dSeq (dSetF 4 9 (dC (.str "1 whist printed 9\n2 whist cut 6\n2 rummy printed 4\n3 whist sold 1")) (dVar 0))
    (dSeq (dSetF 4 10 (dLst daNil) (dVar 0))
    (dSetF 4 11 (dLst daNil) (dVar 0))))
def M_Desk___init__ : FT := runF 1 D_Desk___init__
theorem sc_Desk___init__ : FnScope N_Desk___init__ ["self"] (defScope s_Desk___init__) := ⟨rfl, rfl, rfl, by decide +kernel, rfl, by decide +kernel, by decide +kernel⟩
theorem F_Desk___init__ (kn : Kn P K mg base) : DFn P w base (ktD K mg) 1 (He.ma K (He.ga K "Desk") "__init__") 1 M_Desk___init__ := by
  refine DFn.ofD (kt := ktD K mg) (pp := ("Desk", some "__init__")) (kn.c.def_ 42 (d := d_Desk___init__) rfl) sc_Desk___init__ (fun _ _ _ _ _ _ _ us hl => match us, hl with | [_], _ => rfl) D_Desk___init__ (fun A outer s H E W0 hr => ?_)
  have nd : N_Desk___init__.Nodup := sc_Desk___init__.nd
  exact (sss_cons (ss_setF 4 9 ndN rfl (na_Desk_text kn) sx_str (sx_var 0))
    (sss_cons (ss_setF 4 10 ndN rfl (na_Desk_deeds kn) (sx_lst sa_nil) (sx_var 0))
    (sss_one (ss_setF 4 11 ndN rfl (na_Desk_undone kn) (sx_lst sa_nil) (sx_var 0)))))
def N_Desk_undo : List PySem.Str := ["self", "deed"]
def D_Desk_undo : DS := (dSeq (dIfS (dTB (dBin vEq (dFld 10 (dVar 0)) (dLst daNil)))
    (dRaise (dxC 6))
    dNext)
    dDead)
def M_Desk_undo : FT := runF 2 D_Desk_undo
theorem sc_Desk_undo : FnScope N_Desk_undo ["self"] (defScope s_Desk_undo) := ⟨rfl, rfl, rfl, by decide +kernel, rfl, by decide +kernel, by decide +kernel⟩
theorem F_Desk_undo (kn : Kn P K mg base) : DFn P w base (ktD K mg) 1 (He.ma K (He.ga K "Desk") "undo") 1 M_Desk_undo := by
  refine DFn.ofD (kt := ktD K mg) (pp := ("Desk", some "undo")) (kn.c.def_ 47 (d := d_Desk_undo) rfl) sc_Desk_undo (fun _ _ _ _ _ _ _ us hl => match us, hl with | [_], _ => rfl) D_Desk_undo (fun A outer s H E W0 hr => ?_)
  have nd : N_Desk_undo.Nodup := sc_Desk_undo.nd
  exact (sss_cons (ss_if (st_cmp (ops_eq (room_hu hr).1) (sx_fld 10 ndN (sx_var 0)) (sx_lst sa_nil))
    (sss_one (ss_raise rfl (smk_own 6 (ex_BadDeed kn rfl rfl))))
    sss_nil)
    sss_dead)
def N_Layout___init__ : List PySem.Str := ["self", "sign"]
def D_Layout___init__ : DS := (dSetF 5 12 (dDictO (daCons (dLc [1] (diVal (dC c_SUITS)) (gSet 1) dYes (dTup (daCons (dVar 1) (daCons (dTup (daCons (dC (.int 0)) (daCons (dC (.int 0)) daNil))) daNil)))) daNil)) (dVar 0))
def M_Layout___init__ : FT := runF 2 D_Layout___init__
theorem sc_Layout___init__ : FnScope N_Layout___init__ ["self"] (defScope s_Layout___init__) := ⟨rfl, rfl, rfl, by decide +kernel, rfl, by decide +kernel, by decide +kernel⟩
theorem F_Layout___init__ (kn : Kn P K mg base) : DFn P w base (ktD K mg) 1 (He.ma K (He.ga K "Layout") "__init__") 1 M_Layout___init__ := by
  refine DFn.ofD (kt := ktD K mg) (pp := ("Layout", some "__init__")) (kn.c.def_ 49 (d := d_Layout___init__) rfl) sc_Layout___init__ (fun _ _ _ _ _ _ _ us hl => match us, hl with | [_], _ => rfl) D_Layout___init__ (fun A outer s H E W0 hr => ?_)
  have nd : N_Layout___init__.Nodup := sc_Layout___init__.nd
  exact (sss_one (ss_setF 5 12 ndN rfl (na_Layout_rows kn) (sx_dictO rfl (sa_cons (sx_lc (own := [("sign", 1)]) rfl nd (si_val (sx_glob (g_SUITS kn))) (by kernel_rfl) (fun _ _ _ _ _ => (sg_name 1 nd)) (fun _ _ _ _ _ => sts_nil) (fun _ _ _ _ _ => (sx_tup (sa_cons (sx_var 1) (sa_cons (sx_tup (sa_cons sx_int (sa_cons sx_int sa_nil))) sa_nil))))) sa_nil) (hm := m_dict kn)) (sx_var 0)))
def N_Layout_may_lay : List PySem.Str := ["self", "card", "low", "high"]
def D_Layout_may_lay : DS := (dSeq (dAsg (dIxD (dFld 12 (dVar 0)) (dCall 1 M_suit_of (daCons (dVar 1) daNil))) (gUn 2 (gsCons (gSet 2) (gsCons (gSet 3) gsNil))))
    (dSeq (dIfS (dTB (dBin vEq (dVar 2) (dC (.int 0))))
    (dRet (dBin vEq (dCall 1 M_rank_of (daCons (dVar 1) daNil)) (dC (.int 7))))
    dNext)
    (dRet (dBin vInV (dCall 1 M_rank_of (daCons (dVar 1) daNil)) (dTup (daCons (dBin vSub (dVar 2) (dC (.int 1))) (daCons (dBin vAdd (dVar 3) (dC (.int 1))) daNil)))))))
def M_Layout_may_lay : FT := runF 4 D_Layout_may_lay
theorem sc_Layout_may_lay : FnScope N_Layout_may_lay ["self", "card"] (defScope s_Layout_may_lay) := ⟨rfl, rfl, rfl, by decide +kernel, rfl, by decide +kernel, by decide +kernel⟩
theorem F_Layout_may_lay (kn : Kn P K mg base) : DFn P w base (ktD K mg) 3 (He.ma K (He.ga K "Layout") "may_lay") 2 M_Layout_may_lay := by
  refine DFn.ofD (kt := ktD K mg) (pp := ("Layout", some "may_lay")) (kn.c.def_ 50 (d := d_Layout_may_lay) rfl) sc_Layout_may_lay (fun _ _ _ _ _ _ _ us hl => match us, hl with | [_, _], _ => rfl) D_Layout_may_lay (fun A outer s H E W0 hr => ?_)
  have nd : N_Layout_may_lay.Nodup := sc_Layout_may_lay.nd
  exact (sss_cons (ss_asg (sx_ixD (room_hu hr).2.2 (sx_fld 12 ndN (sx_var 0)) (sx_call (F_suit_of kn) (hr.mono (by decide)) (g_suit_of kn) rfl rfl (sa_cons (sx_var 1) sa_nil))) (sg_tup rfl (sgs_cons (sg_name 2 nd) (sgs_cons (sg_name 3 nd) sgs_nil))))
    (sss_cons (ss_if (st_cmp (ops_eq (room_hu hr).1) (sx_var 2) sx_int)
    (sss_one (ss_ret (sx_cmp (ops_eq (room_hu hr).1) (sx_call (F_rank_of kn) (hr.mono (by decide)) (g_rank_of kn) rfl rfl (sa_cons (sx_var 1) sa_nil)) sx_int)))
    sss_nil)
    (sss_one (ss_ret (sx_cmp (ops_in (room_hu hr).2.1) (sx_call (F_rank_of kn) (hr.mono (by decide)) (g_rank_of kn) rfl rfl (sa_cons (sx_var 1) sa_nil)) (sx_tup (sa_cons (sx_bin ops_sub (sx_var 2) sx_int) (sa_cons (sx_bin ops_add (sx_var 3) sx_int) sa_nil))))))))
def N_Layout_lay : List PySem.Str := ["self", "card", "low", "high"]
def D_Layout_lay : DS := (dSeq (dIfS (dNot (dTest (dMeth 5 2 M_Layout_may_lay (dVar 0) (daCons (dVar 1) daNil))))
    (dRaise (dxE 4 (dVar 1)))
    dNext)
    dDead)
def M_Layout_lay : FT := runF 4 D_Layout_lay
theorem sc_Layout_lay : FnScope N_Layout_lay ["self", "card"] (defScope s_Layout_lay) := ⟨rfl, rfl, rfl, by decide +kernel, rfl, by decide +kernel, by decide +kernel⟩
theorem F_Layout_lay (kn : Kn P K mg base) : DFn P w base (ktD K mg) 4 (He.ma K (He.ga K "Layout") "lay") 2 M_Layout_lay := by
  refine DFn.ofD (kt := ktD K mg) (pp := ("Layout", some "lay")) (kn.c.def_ 51 (d := d_Layout_lay) rfl) sc_Layout_lay (fun _ _ _ _ _ _ _ us hl => match us, hl with | [_, _], _ => rfl) D_Layout_lay (fun A outer s H E W0 hr => ?_)
  have nd : N_Layout_lay.Nodup := sc_Layout_lay.nd
  exact (sss_cons (ss_if (st_not (st_val (sx_meth 5 (mt_Layout_may_lay kn) (F_Layout_may_lay kn) (hr.mono (by decide)) rfl rfl (sx_var 0) (sa_cons (sx_var 1) sa_nil))))
    (sss_one (ss_raise rfl (smk_own1 4 (ex_NoRoom kn rfl rfl) (sx_var 1))))
    sss_nil)
    sss_dead)
def N__law_dice : List PySem.Str := ["cell"]
def D__law_dice : DS := (dSeq (dIfS (dTB (dChain vLt vLt (dBin vSub (dC (.int 0)) (dC (.int 10))) (dVar 0) (dC (.int 10))))
    (dRetO (daCons (dFn oAbs (daCons (dVar 0) daNil)) (daCons (dC (.int 0)) (daCons (dC (.int 2)) daNil))))
    dNext)
    (dRetO (daCons (dVar 0) (daCons (dBin vAdd (dC (.int 1)) (dBin vMod (dFn oInt (daCons (dVar 0) daNil)) (dC (.int 1009)))) (daCons (dFn oInt (daCons (dBin vGe (dVar 0) (dBin vPow (dC (.int 10)) (dC (.int 18)))) daNil)) daNil)))))
def M__law_dice : FT := runF 1 D__law_dice
theorem sc__law_dice : FnScope N__law_dice ["cell"] (defScope s__law_dice) := ⟨rfl, rfl, rfl, by decide +kernel, rfl, by decide +kernel, by decide +kernel⟩
theorem F__law_dice (kn : Kn P K mg base) : DFn P w base (ktD K mg) 1 (He.ga K "_law_dice") 1 M__law_dice := by
  refine DFn.ofD (kt := ktD K mg) (pp := ("_law_dice", none)) (kn.c.def_ 56 (d := d__law_dice) rfl) sc__law_dice (fun _ _ _ _ _ _ _ us hl => match us, hl with | [_], _ => rfl) D__law_dice (fun A outer s H E W0 hr => ?_)
  have nd : N__law_dice.Nodup := sc__law_dice.nd
  exact (sss_cons (ss_if (st_chain (ops_lt (room_hu hr).1) (ops_lt (room_hu hr).1) (sx_bin ops_sub sx_int sx_int) (sx_var 0) sx_int)
    (sss_one (ss_retO (sa_cons (sx_fn fn_abs (sa_cons (sx_var 0) sa_nil) (hm := m_abs kn)) (sa_cons sx_int (sa_cons sx_int sa_nil)))))
    sss_nil)
    (sss_one (ss_retO (sa_cons (sx_var 0) (sa_cons (sx_bin ops_add sx_int (sx_bin ops_mod (sx_ty fn_int (sa_cons (sx_var 0) sa_nil) (hm := m_int kn)) sx_int)) (sa_cons (sx_ty fn_int (sa_cons (sx_cmp (ops_ge (room_hu hr).1) (sx_var 0) (sx_bin ops_pow sx_int sx_int)) sa_nil) (hm := m_int kn)) sa_nil))))))
def N__law_roll : List PySem.Str := ["dice", "many", "found"]
def D__law_roll : DS := (dSeq (dIfS (dOr (dTB (dBin vEq (dIx (dVar 0) (dC (.int 2))) (dC (.int 2)))) (dAnd (dTB (dBin vEq (dIx (dVar 0) (dC (.int 2))) (dC (.int 1)))) (dTB (dBin vGt (dIx (dVar 0) (dC (.int 0))) (dC (.int 0))))))
    (dSeq (dAsg (dBin vMod (dFn oInt (daCons (dIx (dVar 0) (dC (.int 0))) daNil)) (dVar 1)) (gSet 2))
    (dSeq (dSetO (dBin vFdiv (dIx (dVar 0) (dC (.int 0))) (dVar 1)) (dVar 0) (dC (.int 0)))
    (dRet (dVar 2))))
    dNext)
    (dSeq (dSetO (dC (.int 0)) (dVar 0) (dC (.int 2)))
    (dSeq (dSetO (dBin vMod (dFn oInt (daCons (dBin vAdd (dBin vAdd (dBin vMul (dIx (dVar 0) (dC (.int 0))) (dC (.int 48271))) (dBin vMul (dIx (dVar 0) (dC (.int 1))) (dC (.int 69621)))) (dC (.int 11))) daNil)) (dC (.int 2147483647))) (dVar 0) (dC (.int 0)))
    (dSeq (dSetO (dBin vAdd (dIx (dVar 0) (dC (.int 1))) (dC (.int 1))) (dVar 0) (dC (.int 1)))
    (dRet (dBin vMod (dFn oInt (daCons (dBin vAdd (dBin vFdiv (dIx (dVar 0) (dC (.int 0))) (dC (.int 7))) (dIx (dVar 0) (dC (.int 0)))) daNil)) (dVar 1)))))))
def M__law_roll : FT := runF 3 D__law_roll
theorem sc__law_roll : FnScope N__law_roll ["dice", "many"] (defScope s__law_roll) := ⟨rfl, rfl, rfl, by decide +kernel, rfl, by decide +kernel, by decide +kernel⟩
theorem F__law_roll (kn : Kn P K mg base) : DFn P w base (ktD K mg) 1 (He.ga K "_law_roll") 2 M__law_roll := by
  refine DFn.ofD (kt := ktD K mg) (pp := ("_law_roll", none)) (kn.c.def_ 57 (d := d__law_roll) rfl) sc__law_roll (fun _ _ _ _ _ _ _ us hl => match us, hl with | [_, _], _ => rfl) D__law_roll (fun A outer s H E W0 hr => ?_)
  have nd : N__law_roll.Nodup := sc__law_roll.nd
  exact (sss_cons (ss_if (st_w (sw_or (st_cmp (ops_eq (room_hu hr).1) (sx_ix (room_hu hr).2.2 (sx_var 0) sx_int) sx_int) (sw_or1 (st_w (sw_and (st_cmp (ops_eq (room_hu hr).1) (sx_ix (room_hu hr).2.2 (sx_var 0) sx_int) sx_int) (sw_and1 (st_cmp (ops_gt (room_hu hr).1) (sx_ix (room_hu hr).2.2 (sx_var 0) sx_int) sx_int)))))))
    (sss_cons (ss_set 2 nd (sx_bin ops_mod (sx_ty fn_int (sa_cons (sx_ix (room_hu hr).2.2 (sx_var 0) sx_int) sa_nil) (hm := m_int kn)) (sx_var 1)))
    (sss_cons (ss_setO rfl (sx_bin ops_fdiv (sx_ix (room_hu hr).2.2 (sx_var 0) sx_int) (sx_var 1)) (sx_var 0) sx_int)
    (sss_one (ss_ret (sx_var 2)))))
    sss_nil)
    (sss_cons (ss_setO rfl sx_int (sx_var 0) sx_int)
    (sss_cons (ss_setO rfl (sx_bin ops_mod (sx_ty fn_int (sa_cons (sx_bin ops_add (sx_bin ops_add (sx_bin ops_mul (sx_ix (room_hu hr).2.2 (sx_var 0) sx_int) sx_int) (sx_bin ops_mul (sx_ix (room_hu hr).2.2 (sx_var 0) sx_int) sx_int)) sx_int) sa_nil) (hm := m_int kn)) sx_int) (sx_var 0) sx_int)
    (sss_cons (ss_setO rfl (sx_bin ops_add (sx_ix (room_hu hr).2.2 (sx_var 0) sx_int) sx_int) (sx_var 0) sx_int)
    (sss_one (ss_ret (sx_bin ops_mod (sx_ty fn_int (sa_cons (sx_bin ops_add (sx_bin ops_fdiv (sx_ix (room_hu hr).2.2 (sx_var 0) sx_int) sx_int) (sx_ix (room_hu hr).2.2 (sx_var 0) sx_int)) sa_nil) (hm := m_int kn)) (sx_var 1))))))))
def N__law_rounds : List PySem.Str := ["script", "most", "cells", "cell"]
def D__law_rounds : DS := (dSeq (dAsg (dSl (dVar 0) doNone (doSome (dVar 1))) (gSet 2))
    (dSeq (dIfS (dTB (dBin vEq (dVar 2) (dLst daNil)))
    (dAsg (dLst (daCons (dC (.int 0)) daNil)) (gSet 2))
    dNext)
    (dRet (dLc [3] (diVal (dVar 2)) (gSet 3) dYes (dCall 1 M__law_dice (daCons (dVar 3) daNil))))))
def M__law_rounds : FT := runF 4 D__law_rounds
theorem sc__law_rounds : FnScope N__law_rounds ["script", "most"] (defScope s__law_rounds) := ⟨rfl, rfl, rfl, by decide +kernel, rfl, by decide +kernel, by decide +kernel⟩
theorem F__law_rounds (kn : Kn P K mg base) : DFn P w base (ktD K mg) 2 (He.ga K "_law_rounds") 2 M__law_rounds := by
  refine DFn.ofD (kt := ktD K mg) (pp := ("_law_rounds", none)) (kn.c.def_ 58 (d := d__law_rounds) rfl) sc__law_rounds (fun _ _ _ _ _ _ _ us hl => match us, hl with | [_, _], _ => rfl) D__law_rounds (fun A outer s H E W0 hr => ?_)
  have nd : N__law_rounds.Nodup := sc__law_rounds.nd
  exact (sss_cons (ss_set 2 nd (sx_sl (sx_var 0) so_none (so_some (sx_var 1))))
    (sss_cons (ss_if (st_cmp (ops_eq (room_hu hr).1) (sx_var 2) (sx_lst sa_nil))
    (sss_one (ss_set 2 nd (sx_lst (sa_cons sx_int sa_nil))))
    sss_nil)
    (sss_one (ss_ret (sx_lc (own := [("cell", 3)]) rfl nd (si_val (sx_var 2)) (by kernel_rfl) (fun _ _ _ _ _ => (sg_name 3 nd)) (fun _ _ _ _ _ => sts_nil) (fun _ _ _ _ _ => (sx_call (F__law_dice kn) (hr.mono (by decide)) (g__law_dice kn) rfl rfl (sa_cons (sx_var 3) sa_nil))))))))
def C1_law : DE := (dMeth 4 1 M_Desk_undo (dVar 5) daNil)
def C2_law : DE := (dMake 0 2 M_House___init__ (daCons (dBin vSub (dC (.int 1)) (dVar 4)) daNil))
def C3_law : DE := (dMeth 1 2 M_Pack_draw (dMake 1 2 M_Pack___init__ (daCons (dLst daNil) daNil)) (daCons (dVar 4) daNil))
def C4_law : DE := (dCall 1 M_read_row (daCons (dBin vMulS (dC (.str "x")) (dVar 4)) daNil))
def C5_law : DE := (dCall 1 M_rank_of (daCons (dBin vMulS (dC (.str "x")) (dVar 4)) daNil))
def C6_law : DE := (dMeth 5 2 M_Layout_lay (dMake 5 1 M_Layout___init__ daNil) (daCons (dC (.str "6c")) daNil))
def C7_law : DE := (dCall 2 M_card_of (daCons (dBin vAdd (dC (.int 13)) (dVar 4)) (daCons (dC (.str "c")) daNil)))
def C8_law : DE := (dCall 1 M_highest_house (daCons (dBin vSub (dC (.int 1)) (dVar 4)) daNil))
def C9_law : DE := (dLc [6] (diRng rng1 (daCons (dC (.int 8)) daNil)) (gSet 6) dYes (dBin vEq (dVar 6) (dVar 3)))
def T2_1_law : DS := (dLams 2 3 1 M__law_roll 8 [C1_law, C2_law, C3_law, C4_law, C5_law, C6_law, C7_law, C8_law] (undF excN t1N t2N) (dBin vAdd C9_law (dLst (daCons (dC (.bl true)) daNil))) (dRet (dC (.bl false))))
def T2_0_law : DS := (dSeq (dAsg (dTup (daCons (dBin vAdd (dC (.int 1)) (dCall 2 M__law_roll (daCons (dVar 1) (daCons (dC (.int 90)) daNil)))) (daCons (dMake 4 1 M_Desk___init__ daNil) daNil))) (gUn 2 (gsCons (gSet 4) (gsCons (gSet 5) gsNil))))
    T2_1_law)
def T1_1_law : DS := (dRet (dC (.bl true)))
def N_law : List PySem.Str := ["script", "dice", "whats", "k", "many", "desk", "j"]
def D_law : DS := (dSeq (dFor (diVal (dCall 2 M__law_rounds (daCons (dVar 0) (daCons (dC (.int 1)) daNil)))) (gSet 1)
    T2_0_law)
    T1_1_law)
def M_law : FT := runF 7 D_law
theorem sc_law : FnScope N_law ["script"] (defScope s_law) := ⟨rfl, rfl, rfl, by decide +kernel, rfl, by decide +kernel, by decide +kernel⟩
theorem B_law (kn : Kn P K mg base) (A : Around) (outer : List Env) (s : Shared) (H : Hp) (E : XK) (W0 : Wd) (hr : Room 6 (A.deeper (envOfC d_law.qual d_law.scope s.heap.objs.size (He.fAd (ktD K mg).K ("law", none)) (.ref (He.codeOf (ktD K mg).K ("law", none)))))) :
    SSs (ktD K mg) ⟨W0, false, false⟩ (cxOf (L2.CX P w) P w (ktD K mg).K (ktD K mg).mg base N_law d_law.qual d_law.scope (He.fAd (ktD K mg).K ("law", none)) (.ref (He.codeOf (ktD K mg).K ("law", none))) A outer s H E) d_law.body D_law := by
  have nd : N_law.Nodup := sc_law.nd
  exact (sss_cons (ss_for passes_cx rfl (si_val (sx_call (F__law_rounds kn) (hr.mono (by decide)) (g__law_rounds kn) rfl rfl (sa_cons (sx_var 0) (sa_cons sx_int sa_nil)))) (sg_name 1 nd)
    (sss_cons (ss_asg (sx_tup (sa_cons (sx_bin ops_add sx_int (sx_call (F__law_roll kn) (hr.mono (by decide)) (g__law_roll kn) rfl rfl (sa_cons (sx_var 1) (sa_cons sx_int sa_nil)))) (sa_cons (sx_make0 4 (mk_Desk kn) (cls_Desk kn) (F_Desk___init__ kn) (hr.mono (by decide)) (g_Desk kn) rfl rfl) sa_nil))) (sg_tup rfl (sgs_cons (sg_name 4 nd) (sgs_cons (sg_name 5 nd) sgs_nil))))
    (sss_lamsU (iw := 2) (ik := 3) (i0 := 1) (kk := 4) (ds := [C1_law, C2_law, C3_law, C4_law, C5_law, C6_law, C7_law, C8_law]) (uf := undF excN t1N t2N) (ts := undT K excN t1N t2N 1 2)
    rfl
    (tabB kn 1 rfl)
    rfl
    (memT 1)
    (uniqT kn 1)
    rfl
    (LamBs.cons (by kernel_rfl) (fun A outer s H E f c' hr2 => (sx_meth0 4 (mt_Desk_undo kn) (F_Desk_undo kn) (hr2.mono (by decide)) rfl rfl (sx_var 5)))
    (LamBs.cons (by kernel_rfl) (fun A outer s H E f c' hr2 => (sx_make 0 (mk_House kn) (cls_House kn) (F_House___init__ kn) (hr2.mono (by decide)) (g_House kn) rfl rfl (sa_cons (sx_bin ops_sub sx_int (sx_var 4)) sa_nil)))
    (LamBs.cons (by kernel_rfl) (fun A outer s H E f c' hr2 => (sx_meth 1 (mt_Pack_draw kn) (F_Pack_draw kn) (hr2.mono (by decide)) rfl rfl (sx_make 1 (mk_Pack kn) (cls_Pack kn) (F_Pack___init__ kn) (hr2.mono (by decide)) (g_Pack kn) rfl rfl (sa_cons (sx_lst sa_nil) sa_nil)) (sa_cons (sx_var 4) sa_nil)))
    (LamBs.cons (by kernel_rfl) (fun A outer s H E f c' hr2 => (sx_call (F_read_row kn) (hr2.mono (by decide)) (g_read_row kn) rfl rfl (sa_cons (sx_bin ops_mulS sx_str (sx_var 4)) sa_nil)))
    (LamBs.cons (by kernel_rfl) (fun A outer s H E f c' hr2 => (sx_call (F_rank_of kn) (hr2.mono (by decide)) (g_rank_of kn) rfl rfl (sa_cons (sx_bin ops_mulS sx_str (sx_var 4)) sa_nil)))
    (LamBs.cons (by kernel_rfl) (fun A outer s H E f c' hr2 => (sx_meth 5 (mt_Layout_lay kn) (F_Layout_lay kn) (hr2.mono (by decide)) rfl rfl (sx_make0 5 (mk_Layout kn) (cls_Layout kn) (F_Layout___init__ kn) (hr2.mono (by decide)) (g_Layout kn) rfl rfl) (sa_cons sx_str sa_nil)))
    (LamBs.cons (by kernel_rfl) (fun A outer s H E f c' hr2 => (sx_call (F_card_of kn) (hr2.mono (by decide)) (g_card_of kn) rfl rfl (sa_cons (sx_bin ops_add sx_int (sx_var 4)) (sa_cons sx_str sa_nil))))
    (LamBs.cons (by kernel_rfl) (fun A outer s H E f c' hr2 => (sx_call (F_highest_house kn) (hr2.mono (by decide)) (g_highest_house kn) rfl rfl (sa_cons (sx_bin ops_sub sx_int (sx_var 4)) sa_nil)))
    LamBs.nil))))))))
    (by decide)
    (F__law_roll kn)
    (hr.mono (by decide))
    (g__law_roll kn)
    rfl
    rfl
    (undD kn)
    rfl
    rfl
    (undCf kn rfl)
    (undSu kn rfl rfl)
    (fun cdv s H => undLast cdv s H)
    undT_mono
    (undT_of (exOk kn) (fun _ => rfl) (by decide) (by decide))
    (hr.mono (by decide))
    (sx_bin ops_add (sx_lc (own := [("j", 6)]) rfl nd (si_r1 (sa_cons sx_int sa_nil) (hm := m_range kn)) (by kernel_rfl) (fun _ _ _ _ _ => (sg_name 6 nd)) (fun _ _ _ _ _ => sts_nil) (fun _ _ _ _ _ => (sx_cmp (ops_eq (room_hu hr).1) (sx_var 6) (sx_var 3)))) (sx_lst (sa_cons sx_bl sa_nil)))
    (sss_one (ss_ret sx_bl))
    nd
    rfl
    rfl
    rfl
    (by first | exact Or.inl rfl | exact Or.inr rfl)
    (by first | exact Or.inl rfl | exact Or.inr rfl)
    (by first | exact Or.inl rfl | exact Or.inr (Or.inl rfl) | exact Or.inr (Or.inr rfl))
    (by first | exact Or.inl rfl | exact Or.inr (Or.inl rfl) | exact Or.inr (Or.inr rfl))
    (by first | exact Or.inl rfl | exact Or.inr (Or.inl rfl) | exact Or.inr (Or.inr rfl))
    (by decide)
    (by decide)
    (by first | exact Or.inl rfl | exact Or.inr rfl)
    (by first | exact Or.inl rfl | exact Or.inr rfl)
    (by decide)
    (by decide)
    (by decide)
    (by decide)
    (by decide)
    (by decide)
    rfl
    (by decide)
    rfl
    (by decide)
    (by decide)
    (by decide)
    rfl
    (room_hu hr).1
    rfl
    rfl
    rfl
    rfl
    rfl
    rfl
    rfl
    rfl
    rfl
    (by intro _ _; rfl)
    rfl)))
    (sss_one (ss_ret sx_bl)))
end
end CardH
end
section
set_option maxHeartbeats 4000000
namespace CardH
open PySem PySem.Spec PyProof.Rows L2
abbrev D3 := Int × Int × Int
def dO (d : D3) : Ob := .lst [.int d.1, .int d.2.1, .int d.2.2]
def big (d : D3) : Bool := decide (d.2.2 = 2 ∨ (d.2.2 = 1 ∧ 0 < d.1))
def nxt (d : D3) : Int := (d.1 * 48271 + d.2.1 * 69621 + 11) % 2147483647
def rvI (m : Int) (d : D3) : Int := if big d = true then d.1 % m else (nxt d / 7 + nxt d) % m
def rv (m : Int) (d : D3) : Nat := (rvI m d).toNat
def rd (m : Int) (d : D3) : D3 := if big d = true then (d.1 / m, d.2.1, d.2.2) else (nxt d, d.2.1 + 1, 0)
theorem rvI_bd {m : Int} (d : D3) (h : 0 < m) : 0 ≤ rvI m d ∧ rvI m d < m := by
  unfold rvI
  split
  · exact ⟨Int.emod_nonneg _ (by omega), Int.emod_lt_of_pos _ h⟩
  · exact ⟨Int.emod_nonneg _ (by omega), Int.emod_lt_of_pos _ h⟩
theorem rv_eq {m : Int} (d : D3) (h : 0 < m) : ((rv m d : Nat) : Int) = rvI m d := by
  have := rvI_bd d h
  unfold rv
  omega
theorem rv_lt {m : Int} (d : D3) (h : 0 < m) : ((rv m d : Nat) : Int) < m := by
  rw [rv_eq d h]; exact (rvI_bd d h).2
theorem rv_ltN {m : Nat} (d : D3) (h : 0 < m) : rv (m : Int) d < m := by
  have := rv_lt (m := m) d (by omega)
  omega
theorem roll (G : Gst) (i : Nat) (d : D3) (many : Int) (hG : G[i]? = some (dO d)) (hm : 0 < many ∧ many < 4611686018427387904) :
    M__law_roll [.ref i, .int many] G = .ok (.int (rv many d : Nat)) (G.set i (dO (rd many d))) := by
  rw [rv_eq d hm.1]
  obtain ⟨a, b, c⟩ := d
  simp only [dO] at hG
  have hs : ∀ o : Ob, (G.set i o)[i]? = some o := fun o => set_get hG
  have ix0 : ixN 3 0 = some 0 := rfl
  have ix1 : ixN 3 1 = some 1 := rfl
  have ix2 : ixN 3 2 = some 2 := rfl
  have hmod : ∀ x : Int, vMod (.int x) (.int many) = some (.int (x % many)) := fun x => vMod_int _ _ hm.1
  have hdiv : ∀ x : Int, vFdiv (.int x) (.int many) = some (.int (x / many)) := fun x => vFdiv_int _ _ hm.1 hm.2
  have hp : ∀ x : Int, vMod (.int x) (.int 2147483647) = some (.int (x % 2147483647)) := fun x => vMod_int _ _ (by decide)
  have h7 : ∀ x : Int, vFdiv (.int x) (.int 7) = some (.int (x / 7)) := fun x => vFdiv_int _ _ (by decide) (by decide)
  have m1 : ∀ x : Int, vMul (.int x) (.int 48271) = some (.int (x * 48271)) := fun x => vMul_r (by decide) _
  have m2 : ∀ x : Int, vMul (.int x) (.int 69621) = some (.int (x * 69621)) := fun x => vMul_r (by decide) _
  have ir : ∀ x : Vl, vIx G (.ref i) x = match x with | .int k => atI [Vl.int a, .int b, .int c] k | _ => vIx G (.ref i) x := fun x => by
    cases x <;> simp [vIx, hG]
  unfold M__law_roll D__law_roll rvI rd big
  by_cases hc : c = 2 ∨ (c = 1 ∧ 0 < a)
  · rcases hc with rfl | ⟨rfl, ha⟩
    · simp [dSeq_ev, seqR_nx, seqR_rt, seqR_ct, seqR_bk, seqR_ex, seqR_ite, runF_ev, resR_nx, resR_rt, resR_ex, resR_ite, startE, wp_nxK, wp_rtK, wp_ctK, wp_bkK, wp_exK, wp_nxP, wp_rtP, wp_ite, R.bind_ok, R.bind_exn, sb_ok, sb_exn, opt_some, opt_ite, bind_ite, sb_ite, dC, dVar, dPk, Fv.toVl, dBin, dUn, dTest, vTru, dTB_ev, tbK_bl, dAnd, dOr, dNot, dBV, dIf, dChain_ev, chK_bl, daNil, daCons, dTup, dLst, dIx, doNone, doSome, dSl, dFn, diVal, diRng, dCall, dRet, dRetN, dExpr, dIfS_ev, dAsg, gSet, gUn, gsNil, gsCons, itemsOf, dNext, dBreak, dCont, dRaise, dxC, dxE, dTold_ev, toldR_ok, toldR_exn, toldR_ite, dMeth, dFld, List.lookup, dSetF, putN, dPar, dPar3, vNeg, vSub_int, vAdd_int, vEq_int, vNe_int, vLt_int, vGt_int, vLe_int, vGe_int, vIx_lst, vIx_tup, atI_int, vSl_tup, vSl_lst, cutL_toI, cutL_fromI, cutL_midI, cutL_all, oLen, seqOf, oInt, oAbs, oMax2, oMin2, oTuple, oList, vIsN_non, vIsN_str, vIsN_int, vIsN_tup, vIsN_lst, dBm, tStr, tTup, tLst, dCat, lstOf, dListO, dLstO, dBmW, dTupRev, walkOf, dAndV_ev, andK_bl, dOrV_ev, orK_bl, Int.ofNat_inj, hmod, hdiv, dSetO, vIx, hG, ix0, ix1, ix2, dO]
    · simp [dSeq_ev, seqR_nx, seqR_rt, seqR_ct, seqR_bk, seqR_ex, seqR_ite, runF_ev, resR_nx, resR_rt, resR_ex, resR_ite, startE, wp_nxK, wp_rtK, wp_ctK, wp_bkK, wp_exK, wp_nxP, wp_rtP, wp_ite, R.bind_ok, R.bind_exn, sb_ok, sb_exn, opt_some, opt_ite, bind_ite, sb_ite, dC, dVar, dPk, Fv.toVl, dBin, dUn, dTest, vTru, dTB_ev, tbK_bl, dAnd, dOr, dNot, dBV, dIf, dChain_ev, chK_bl, daNil, daCons, dTup, dLst, dIx, doNone, doSome, dSl, dFn, diVal, diRng, dCall, dRet, dRetN, dExpr, dIfS_ev, dAsg, gSet, gUn, gsNil, gsCons, itemsOf, dNext, dBreak, dCont, dRaise, dxC, dxE, dTold_ev, toldR_ok, toldR_exn, toldR_ite, dMeth, dFld, List.lookup, dSetF, putN, dPar, dPar3, vNeg, vSub_int, vAdd_int, vEq_int, vNe_int, vLt_int, vGt_int, vLe_int, vGe_int, vIx_lst, vIx_tup, atI_int, vSl_tup, vSl_lst, cutL_toI, cutL_fromI, cutL_midI, cutL_all, oLen, seqOf, oInt, oAbs, oMax2, oMin2, oTuple, oList, vIsN_non, vIsN_str, vIsN_int, vIsN_tup, vIsN_lst, dBm, tStr, tTup, tLst, dCat, lstOf, dListO, dLstO, dBmW, dTupRev, walkOf, dAndV_ev, andK_bl, dOrV_ev, orK_bl, Int.ofNat_inj, hmod, hdiv, dSetO, vIx, hG, ix0, ix1, ix2, ha, dO]
  · have h2 : c ≠ 2 := fun e => hc (.inl e)
    have h1 : ¬ (c = 1 ∧ 0 < a) := fun e => hc (.inr e)
    by_cases e1 : c = 1
    · have ha : ¬ 0 < a := fun z => h1 ⟨e1, z⟩
      subst e1
      simp [dSeq_ev, seqR_nx, seqR_rt, seqR_ct, seqR_bk, seqR_ex, seqR_ite, runF_ev, resR_nx, resR_rt, resR_ex, resR_ite, startE, wp_nxK, wp_rtK, wp_ctK, wp_bkK, wp_exK, wp_nxP, wp_rtP, wp_ite, R.bind_ok, R.bind_exn, sb_ok, sb_exn, opt_some, opt_ite, bind_ite, sb_ite, dC, dVar, dPk, Fv.toVl, dBin, dUn, dTest, vTru, dTB_ev, tbK_bl, dAnd, dOr, dNot, dBV, dIf, dChain_ev, chK_bl, daNil, daCons, dTup, dLst, dIx, doNone, doSome, dSl, dFn, diVal, diRng, dCall, dRet, dRetN, dExpr, dIfS_ev, dAsg, gSet, gUn, gsNil, gsCons, itemsOf, dNext, dBreak, dCont, dRaise, dxC, dxE, dTold_ev, toldR_ok, toldR_exn, toldR_ite, dMeth, dFld, List.lookup, dSetF, putN, dPar, dPar3, vNeg, vSub_int, vAdd_int, vEq_int, vNe_int, vLt_int, vGt_int, vLe_int, vGe_int, vIx_lst, vIx_tup, atI_int, vSl_tup, vSl_lst, cutL_toI, cutL_fromI, cutL_midI, cutL_all, oLen, seqOf, oInt, oAbs, oMax2, oMin2, oTuple, oList, vIsN_non, vIsN_str, vIsN_int, vIsN_tup, vIsN_lst, dBm, tStr, tTup, tLst, dCat, lstOf, dListO, dLstO, dBmW, dTupRev, walkOf, dAndV_ev, andK_bl, dOrV_ev, orK_bl, Int.ofNat_inj, dSetO, vIx, hG, hmod, hp, h7, m1, m2, ix0, ix1, ix2, ha, hs, nxt, dO]
    · simp [dSeq_ev, seqR_nx, seqR_rt, seqR_ct, seqR_bk, seqR_ex, seqR_ite, runF_ev, resR_nx, resR_rt, resR_ex, resR_ite, startE, wp_nxK, wp_rtK, wp_ctK, wp_bkK, wp_exK, wp_nxP, wp_rtP, wp_ite, R.bind_ok, R.bind_exn, sb_ok, sb_exn, opt_some, opt_ite, bind_ite, sb_ite, dC, dVar, dPk, Fv.toVl, dBin, dUn, dTest, vTru, dTB_ev, tbK_bl, dAnd, dOr, dNot, dBV, dIf, dChain_ev, chK_bl, daNil, daCons, dTup, dLst, dIx, doNone, doSome, dSl, dFn, diVal, diRng, dCall, dRet, dRetN, dExpr, dIfS_ev, dAsg, gSet, gUn, gsNil, gsCons, itemsOf, dNext, dBreak, dCont, dRaise, dxC, dxE, dTold_ev, toldR_ok, toldR_exn, toldR_ite, dMeth, dFld, List.lookup, dSetF, putN, dPar, dPar3, vNeg, vSub_int, vAdd_int, vEq_int, vNe_int, vLt_int, vGt_int, vLe_int, vGe_int, vIx_lst, vIx_tup, atI_int, vSl_tup, vSl_lst, cutL_toI, cutL_fromI, cutL_midI, cutL_all, oLen, seqOf, oInt, oAbs, oMax2, oMin2, oTuple, oList, vIsN_non, vIsN_str, vIsN_int, vIsN_tup, vIsN_lst, dBm, tStr, tTup, tLst, dCat, lstOf, dListO, dLstO, dBmW, dTupRev, walkOf, dAndV_ev, andK_bl, dOrV_ev, orK_bl, Int.ofNat_inj, dSetO, vIx, hG, hmod, hp, h7, m1, m2, ix0, ix1, ix2, h2, e1, hs, nxt, dO]
theorem roll0 {T : Gst} {d : D3} {many : Int} (hm : 0 < many ∧ many < 4611686018427387904) : M__law_roll [.ref 0, .int many] (dO d :: T) = .ok (.int (rv many d : Nat)) (dO (rd many d) :: T) := roll _ 0 d many rfl hm
theorem dice (n : Int) (G : Gst) : ∃ d, M__law_dice [.int n] G = .ok (.ref G.length) (G ++ [dO d]) := by
  have hp : ∀ x : Int, vMod (.int x) (.int 1009) = some (.int (x % 1009)) := fun x => vMod_int _ _ (by decide)
  have hw : vPow (.int 10) (.int 18) = some (.int (10 ^ 18)) := rfl
  by_cases h : -10 < n ∧ n < 10
  · obtain ⟨h1, h2⟩ := h
    refine ⟨(if n < 0 then -n else n, 0, 2), ?_⟩
    unfold M__law_dice D__law_dice
    simp [dSeq_ev, seqR_nx, seqR_rt, seqR_ct, seqR_bk, seqR_ex, seqR_ite, runF_ev, resR_nx, resR_rt, resR_ex, resR_ite, startE, wp_nxK, wp_rtK, wp_ctK, wp_bkK, wp_exK, wp_nxP, wp_rtP, wp_ite, R.bind_ok, R.bind_exn, sb_ok, sb_exn, opt_some, opt_ite, bind_ite, sb_ite, dC, dVar, dPk, Fv.toVl, dBin, dUn, dTest, vTru, dTB_ev, tbK_bl, dAnd, dOr, dNot, dBV, dIf, dChain_ev, chK_bl, daNil, daCons, dTup, dLst, dIx, doNone, doSome, dSl, dFn, diVal, diRng, dCall, dRet, dRetN, dExpr, dIfS_ev, dAsg, gSet, gUn, gsNil, gsCons, itemsOf, dNext, dBreak, dCont, dRaise, dxC, dxE, dTold_ev, toldR_ok, toldR_exn, toldR_ite, dMeth, dFld, List.lookup, dSetF, putN, dPar, dPar3, vNeg, vSub_int, vAdd_int, vEq_int, vNe_int, vLt_int, vGt_int, vLe_int, vGe_int, vIx_lst, vIx_tup, atI_int, vSl_tup, vSl_lst, cutL_toI, cutL_fromI, cutL_midI, cutL_all, oLen, seqOf, oInt, oAbs, oMax2, oMin2, oTuple, oList, vIsN_non, vIsN_str, vIsN_int, vIsN_tup, vIsN_lst, dBm, tStr, tTup, tLst, dCat, lstOf, dListO, dLstO, dBmW, dTupRev, walkOf, dAndV_ev, andK_bl, dOrV_ev, orK_bl, Int.ofNat_inj, dRetO, h1, h2, dO]
  · refine ⟨(n, 1 + n % 1009, if 10 ^ 18 ≤ n then 1 else 0), ?_⟩
    unfold M__law_dice D__law_dice
    by_cases h1 : -10 < n
    · have h2 : ¬ n < 10 := fun z => h ⟨h1, z⟩
      simp [dSeq_ev, seqR_nx, seqR_rt, seqR_ct, seqR_bk, seqR_ex, seqR_ite, runF_ev, resR_nx, resR_rt, resR_ex, resR_ite, startE, wp_nxK, wp_rtK, wp_ctK, wp_bkK, wp_exK, wp_nxP, wp_rtP, wp_ite, R.bind_ok, R.bind_exn, sb_ok, sb_exn, opt_some, opt_ite, bind_ite, sb_ite, dC, dVar, dPk, Fv.toVl, dBin, dUn, dTest, vTru, dTB_ev, tbK_bl, dAnd, dOr, dNot, dBV, dIf, dChain_ev, chK_bl, daNil, daCons, dTup, dLst, dIx, doNone, doSome, dSl, dFn, diVal, diRng, dCall, dRet, dRetN, dExpr, dIfS_ev, dAsg, gSet, gUn, gsNil, gsCons, itemsOf, dNext, dBreak, dCont, dRaise, dxC, dxE, dTold_ev, toldR_ok, toldR_exn, toldR_ite, dMeth, dFld, List.lookup, dSetF, putN, dPar, dPar3, vNeg, vSub_int, vAdd_int, vEq_int, vNe_int, vLt_int, vGt_int, vLe_int, vGe_int, vIx_lst, vIx_tup, atI_int, vSl_tup, vSl_lst, cutL_toI, cutL_fromI, cutL_midI, cutL_all, oLen, seqOf, oInt, oAbs, oMax2, oMin2, oTuple, oList, vIsN_non, vIsN_str, vIsN_int, vIsN_tup, vIsN_lst, dBm, tStr, tTup, tLst, dCat, lstOf, dListO, dLstO, dBmW, dTupRev, walkOf, dAndV_ev, andK_bl, dOrV_ev, orK_bl, Int.ofNat_inj, dRetO, h1, h2, hp, hw, dO]
    · simp [dSeq_ev, seqR_nx, seqR_rt, seqR_ct, seqR_bk, seqR_ex, seqR_ite, runF_ev, resR_nx, resR_rt, resR_ex, resR_ite, startE, wp_nxK, wp_rtK, wp_ctK, wp_bkK, wp_exK, wp_nxP, wp_rtP, wp_ite, R.bind_ok, R.bind_exn, sb_ok, sb_exn, opt_some, opt_ite, bind_ite, sb_ite, dC, dVar, dPk, Fv.toVl, dBin, dUn, dTest, vTru, dTB_ev, tbK_bl, dAnd, dOr, dNot, dBV, dIf, dChain_ev, chK_bl, daNil, daCons, dTup, dLst, dIx, doNone, doSome, dSl, dFn, diVal, diRng, dCall, dRet, dRetN, dExpr, dIfS_ev, dAsg, gSet, gUn, gsNil, gsCons, itemsOf, dNext, dBreak, dCont, dRaise, dxC, dxE, dTold_ev, toldR_ok, toldR_exn, toldR_ite, dMeth, dFld, List.lookup, dSetF, putN, dPar, dPar3, vNeg, vSub_int, vAdd_int, vEq_int, vNe_int, vLt_int, vGt_int, vLe_int, vGe_int, vIx_lst, vIx_tup, atI_int, vSl_tup, vSl_lst, cutL_toI, cutL_fromI, cutL_midI, cutL_all, oLen, seqOf, oInt, oAbs, oMax2, oMin2, oTuple, oList, vIsN_non, vIsN_str, vIsN_int, vIsN_tup, vIsN_lst, dBm, tStr, tTup, tLst, dCat, lstOf, dListO, dLstO, dBmW, dTupRev, walkOf, dAndV_ev, andK_bl, dOrV_ev, orK_bl, Int.ofNat_inj, dRetO, h1, hp, hw, dO]
theorem dicesL (e0 : LEnv) (h3 : 3 < e0.length) : ∀ (cells : List Int) (G : Gst), ∃ ds : List D3, ds.length = cells.length ∧
    compL (gSet 3) dYes (dCall 1 M__law_dice (daCons (dVar 3) daNil)) e0 (cells.map .int) G = .ok ((List.range' G.length cells.length).map .ref) (G ++ ds.map dO)
  | [], G => ⟨[], rfl, by simp [compL]⟩
  | n :: ns, G => by
    obtain ⟨d, e⟩ := dice n G
    obtain ⟨ds, hl, ih⟩ := dicesL e0 h3 ns (G ++ [dO d])
    refine ⟨d :: ds, by simp [hl], ?_⟩
    have hv : (e0.set 3 (some (.val (.int n))))[3]? = some (some (.val (.int n))) := by simp [h3]
    rw [List.map_cons]
    unfold compL
    simp only [gSet, dYes, R.bind_ok, dCall, daCons, daNil, dVar, hv, List.length_cons, List.length_nil, if_true, e]
    rw [ih]
    simp [List.range'_succ]
theorem rounds (ns : List Int) (m : Nat) (hm : 0 < m) (hb : m ≤ 63) : ∃ ds : List D3, 0 < ds.length ∧ ds.length ≤ m ∧
    M__law_rounds [.scr ns, .int (m : Int)] [] = .ok (.lst ((List.range ds.length).map .ref)) (ds.map dO) := by
  have key : ∀ cells : List Int, 0 < cells.length → cells.length ≤ m → (∀ ds : List D3, True) → ∃ ds : List D3, 0 < ds.length ∧ ds.length ≤ m ∧
      dLc [3] (diVal (dVar 2)) (gSet 3) dYes (dCall 1 M__law_dice (daCons (dVar 3) daNil)) [some (.val (.scr ns)), some (.val (.int m)), some (.val (.lst (cells.map .int))), none] [] = .ok (.lst ((List.range ds.length).map .ref)) (ds.map dO) := by
    intro cells h0 h1 _
    obtain ⟨ds, hl, e⟩ := dicesL (wipeE [some (.val (.scr ns)), some (.val (.int m)), some (.val (.lst (cells.map .int))), none] [3]) (by simp [wipeE]) cells []
    refine ⟨ds, by omega, by omega, ?_⟩
    have h63 : cells.length ≤ 16777216 := by omega
    unfold dLc
    simp only [diVal, dVar, List.getElem?_cons_succ, List.getElem?_cons_zero, R.bind_ok, walkOf, opt, e, noex]
    simp [hl, List.range_eq_range', h63]
  have e0 := vEq_lst0 (xs := (ns.take m).map .int) gds_int
  unfold M__law_rounds D__law_rounds
  by_cases h : ns.take m = []
  · obtain ⟨ds, h1, h2, e⟩ := key [0] (by simp) (by simp; omega) fun _ => trivial
    refine ⟨ds, h1, h2, ?_⟩
    simp at e
    simp [dSeq_ev, seqR_nx, seqR_rt, seqR_ct, seqR_bk, seqR_ex, seqR_ite, runF_ev, resR_nx, resR_rt, resR_ex, resR_ite, startE, wp_nxK, wp_rtK, wp_ctK, wp_bkK, wp_exK, wp_nxP, wp_rtP, wp_ite, R.bind_ok, R.bind_exn, sb_ok, sb_exn, opt_some, opt_ite, bind_ite, sb_ite, dC, dVar, dPk, Fv.toVl, dBin, dUn, dTest, vTru, dTB_ev, tbK_bl, dAnd, dOr, dNot, dBV, dIf, dChain_ev, chK_bl, daNil, daCons, dTup, dLst, dIx, doNone, doSome, dSl, dFn, diVal, diRng, dCall, dRet, dRetN, dExpr, dIfS_ev, dAsg, gSet, gUn, gsNil, gsCons, itemsOf, dNext, dBreak, dCont, dRaise, dxC, dxE, dTold_ev, toldR_ok, toldR_exn, toldR_ite, dMeth, dFld, List.lookup, dSetF, putN, dPar, dPar3, vNeg, vSub_int, vAdd_int, vEq_int, vNe_int, vLt_int, vGt_int, vLe_int, vGe_int, vIx_lst, vIx_tup, atI_int, vSl_tup, vSl_lst, cutL_toI, cutL_fromI, cutL_midI, cutL_all, oLen, seqOf, oInt, oAbs, oMax2, oMin2, oTuple, oList, vIsN_non, vIsN_str, vIsN_int, vIsN_tup, vIsN_lst, dBm, tStr, tTup, tLst, dCat, lstOf, dListO, dLstO, dBmW, dTupRev, walkOf, dAndV_ev, andK_bl, dOrV_ev, orK_bl, Int.ofNat_inj, vSl, h, e, vEq_lst0 gds_nil]
  · obtain ⟨ds, h1, h2, e⟩ := key (ns.take m) (by cases q : ns.take m with | nil => exact absurd q h | cons _ _ => simp) (by simp; omega) fun _ => trivial
    refine ⟨ds, h1, h2, ?_⟩
    have hne : ((ns.take m).map Vl.int).isEmpty = false := by cases q : ns.take m with | nil => exact absurd q h | cons _ _ => rfl
    rw [hne] at e0
    rw [List.map_take] at e0 e
    simp [dSeq_ev, seqR_nx, seqR_rt, seqR_ct, seqR_bk, seqR_ex, seqR_ite, runF_ev, resR_nx, resR_rt, resR_ex, resR_ite, startE, wp_nxK, wp_rtK, wp_ctK, wp_bkK, wp_exK, wp_nxP, wp_rtP, wp_ite, R.bind_ok, R.bind_exn, sb_ok, sb_exn, opt_some, opt_ite, bind_ite, sb_ite, dC, dVar, dPk, Fv.toVl, dBin, dUn, dTest, vTru, dTB_ev, tbK_bl, dAnd, dOr, dNot, dBV, dIf, dChain_ev, chK_bl, daNil, daCons, dTup, dLst, dIx, doNone, doSome, dSl, dFn, diVal, diRng, dCall, dRet, dRetN, dExpr, dIfS_ev, dAsg, gSet, gUn, gsNil, gsCons, itemsOf, dNext, dBreak, dCont, dRaise, dxC, dxE, dTold_ev, toldR_ok, toldR_exn, toldR_ite, dMeth, dFld, List.lookup, dSetF, putN, dPar, dPar3, vNeg, vSub_int, vAdd_int, vEq_int, vNe_int, vLt_int, vGt_int, vLe_int, vGe_int, vIx_lst, vIx_tup, atI_int, vSl_tup, vSl_lst, cutL_toI, cutL_fromI, cutL_midI, cutL_all, oLen, seqOf, oInt, oAbs, oMax2, oMin2, oTuple, oList, vIsN_non, vIsN_str, vIsN_int, vIsN_tup, vIsN_lst, dBm, tStr, tTup, tLst, dCat, lstOf, dListO, dLstO, dBmW, dTupRev, walkOf, dAndV_ev, andK_bl, dOrV_ev, orK_bl, Int.ofNat_inj, vSl, e, e0]
theorem round1 (ns : List Int) : ∃ d : D3, M__law_rounds [.scr ns, .int 1] [] = .ok (.lst [.ref 0]) [dO d] := by
  obtain ⟨ds, h1, h2, e⟩ := rounds ns 1 (by decide) (by decide)
  match ds, h1, h2 with
  | [d], _, _ => exact ⟨d, e⟩
end CardH
end
section
set_option maxHeartbeats 1000000
namespace CardH
open PySem PySem.Spec PyProof.Rows L2
open Builtin.Str in
theorem occ_run0 (s sub : Str) (hi lim : Nat) (h : ∀ i, subAt s sub i = false) : ∀ (l : List Nat) (st : Array Nat × Nat), (forIn l st (StrLaws.occBody s sub hi lim)).run.fst = st.fst
  | [], st => rfl
  | a :: l, st => by
    rw [List.forIn_cons]
    unfold StrLaws.occBody
    split
    · rename_i hc
      exact absurd hc.2 (by rw [h]; exact Bool.false_ne_true)
    · exact occ_run0 s sub hi lim h l _
open Builtin.Str in
theorem occ_none {s sub : Str} {hi lim : Nat} (h : ∀ i, subAt s sub i = false) : occurrences s sub 0 hi lim = [] := by
  rw [StrLaws.occ_eq, occ_run0 s sub hi lim h]
theorem split_none {s sub : Str} (h : ∀ i, Builtin.Str.subAt s sub i = false) : Txt.split s sub = [s] := by
  unfold Txt.split
  rw [occ_none h]
  split <;> rfl
abbrev xs (m : Nat) : Str := Txt.mul "x" (m : Int)
theorem foldl_x : ∀ (m : Nat) (acc : Array Nat), (List.replicate m (#[120] : Array Nat)).foldl (· ++ ·) acc = acc ++ (List.replicate m 120).toArray
  | 0, acc => by simp
  | m + 1, acc => by
    rw [List.replicate_succ, List.foldl_cons, foldl_x m, List.replicate_succ]
    apply Array.toList_inj.mp
    simp
theorem xs_eq (m : Nat) : xs m = ⟨(List.replicate m 120).toArray⟩ := by
  show (if (m : Int) < 1 then Str.empty else if ((m : Int) == 1 || ("x" : Str).length == 0) = true then "x" else ⟨(List.replicate (m : Int).toNat ("x" : Str).cps).foldl (· ++ ·) #[]⟩) = _
  have e0 : ("x" : Str).cps = #[120] := by decide +kernel
  match m with
  | 0 => rfl
  | 1 => decide +kernel
  | m + 2 =>
    rw [if_neg (by omega), if_neg (by simp [show ¬ ((m : Int) + 2 = 1) by omega, Str.length, e0]), e0, foldl_x, show ((m + 2 : Nat) : Int).toNat = m + 2 from Int.toNat_natCast _]
    simp
theorem xs_len (m : Nat) : (xs m).length = m := by rw [xs_eq]; simp [Str.length]
theorem xs_ok (m : Nat) : okStr (xs m) = true := by
  rw [xs_eq]; unfold okStr
  rw [← Array.all_toList]
  simp
theorem xs_sub (m : Nat) (i : Nat) : Builtin.Str.subAt (xs m) " " i = false := by
  have e0 : (" " : Str).cps = #[32] := by decide +kernel
  rw [xs_eq]
  unfold Builtin.Str.subAt
  rw [e0, show (" " : Str).length = 1 by rw [Str.length, e0]; rfl]
  apply beq_eq_false_iff_ne.mpr
  intro e
  have h1 := congrArg Array.toList e
  have h2 : (32 : Nat) ∈ (((List.replicate m 120).toArray.extract i (i + 1)).toList : List Nat) := by rw [h1]; simp
  simp at h2
end CardH
end
section
set_option maxHeartbeats 1000000
namespace CardH
open PySem PySem.Spec PyProof.Rows L2
abbrev eL (ns : List Int) (k many : Nat) : LEnv := [some (.val (.scr ns)), some (.val (.ref 0)), none, some (.val (.int (k : Nat))), some (.val (.int (many : Nat))), some (.val (.ref 1)), none]
def dkF : List (Nat × Fv) := [(9, .val (.str "1 whist printed 9\n2 whist cut 6\n2 rummy printed 4\n3 whist sold 1")), (10, .val (.lst [])), (11, .val (.lst []))]
theorem desk_made (G : Gst) (e : LEnv) : dMake 4 1 M_Desk___init__ daNil e G = .ok (.ref G.length) (G ++ [.ins 4 dkF]) := by
  unfold M_Desk___init__ D_Desk___init__
  simp [dSeq_ev, seqR_nx, seqR_rt, seqR_ct, seqR_bk, seqR_ex, seqR_ite, runF_ev, resR_nx, resR_rt, resR_ex, resR_ite, startE, wp_nxK, wp_rtK, wp_ctK, wp_bkK, wp_exK, wp_nxP, wp_rtP, wp_ite, R.bind_ok, R.bind_exn, sb_ok, sb_exn, opt_some, opt_ite, bind_ite, sb_ite, dC, dVar, dPk, Fv.toVl, dBin, dUn, dTest, vTru, dTB_ev, tbK_bl, dAnd, dOr, dNot, dBV, dIf, dChain_ev, chK_bl, daNil, daCons, dTup, dLst, dIx, doNone, doSome, dSl, dFn, diVal, diRng, dCall, dRet, dRetN, dExpr, dIfS_ev, dAsg, gSet, gUn, gsNil, gsCons, itemsOf, dNext, dBreak, dCont, dRaise, dxC, dxE, dTold_ev, toldR_ok, toldR_exn, toldR_ite, dMeth, dFld, List.lookup, dSetF, putN, dPar, dPar3, vNeg, vSub_int, vAdd_int, vLt_int, vGt_int, vLe_int, vGe_int, vIx_lst, vIx_tup, atI_int, vSl_tup, vSl_lst, cutL_toI, cutL_fromI, cutL_midI, cutL_all, oInt, oAbs, oMax2, oMin2, vIsN_non, vIsN_str, vIsN_int, vIsN_tup, vIsN_lst, dBm, tStr, tTup, tLst, dCat, dListO, dLstO, dBmW, dTupRev, dAndV_ev, andK_bl, dOrV_ev, orK_bl, Int.ofNat_inj, fx_wS, fx_wT, fx_wI, fx_wJ, fx_wL, fx_wM, fx_wl, fx_wt, fx_ws, fx_tS, fx_tT, fx_tI, fx_tJ, fx_tL, fx_tM, fx_tl, fx_tt, fx_ts, fx_lS, fx_lT, fx_lI, fx_lJ, fx_lL, fx_lM, fx_ll, fx_lt, fx_ls, fx_nS, fx_nT, fx_nI, fx_nJ, fx_nL, fx_nM, fx_nl, fx_nt, fx_ns, fx_iS, fx_iT, fx_oS, fx_oT, fx_es, fx_us, fx_ei, fx_ui, fx_eS, fx_eT, fx_uS, fx_uT, fx_eS0, fx_eT0, fx_uS0, fx_uT0, dBinG, dIxD, dDictO, dDictV, dGet2, dGet1, Option.isSome_some, startE, dFor, diKeys, diVals, diItems, dAug, dMake, dkF]
theorem c1_no (ns : List Int) (k many : Nat) (o : Ob) : C1_law (eL ns k many) [o, .ins 4 dkF] = .exn { cls := 6 } [o, .ins 4 dkF] := by
  unfold C1_law M_Desk_undo D_Desk_undo
  have e0 := vEq_lst0 (xs := []) gds_nil
  simp [dSeq_ev, seqR_nx, seqR_rt, seqR_ct, seqR_bk, seqR_ex, seqR_ite, runF_ev, resR_nx, resR_rt, resR_ex, resR_ite, startE, wp_nxK, wp_rtK, wp_ctK, wp_bkK, wp_exK, wp_nxP, wp_rtP, wp_ite, R.bind_ok, R.bind_exn, sb_ok, sb_exn, opt_some, opt_ite, bind_ite, sb_ite, dC, dVar, dPk, Fv.toVl, dBin, dUn, dTest, vTru, dTB_ev, tbK_bl, dAnd, dOr, dNot, dBV, dIf, dChain_ev, chK_bl, daNil, daCons, dTup, dLst, dIx, doNone, doSome, dSl, dFn, diVal, diRng, dCall, dRet, dRetN, dExpr, dIfS_ev, dAsg, gSet, gUn, gsNil, gsCons, itemsOf, dNext, dBreak, dCont, dRaise, dxC, dxE, dTold_ev, toldR_ok, toldR_exn, toldR_ite, dMeth, dFld, List.lookup, dSetF, putN, dPar, dPar3, vNeg, vSub_int, vAdd_int, vLt_int, vGt_int, vLe_int, vGe_int, vIx_lst, vIx_tup, atI_int, vSl_tup, vSl_lst, cutL_toI, cutL_fromI, cutL_midI, cutL_all, oInt, oAbs, oMax2, oMin2, vIsN_non, vIsN_str, vIsN_int, vIsN_tup, vIsN_lst, dBm, tStr, tTup, tLst, dCat, dListO, dLstO, dBmW, dTupRev, dAndV_ev, andK_bl, dOrV_ev, orK_bl, Int.ofNat_inj, fx_wS, fx_wT, fx_wI, fx_wJ, fx_wL, fx_wM, fx_wl, fx_wt, fx_ws, fx_tS, fx_tT, fx_tI, fx_tJ, fx_tL, fx_tM, fx_tl, fx_tt, fx_ts, fx_lS, fx_lT, fx_lI, fx_lJ, fx_lL, fx_lM, fx_ll, fx_lt, fx_ls, fx_nS, fx_nT, fx_nI, fx_nJ, fx_nL, fx_nM, fx_nl, fx_nt, fx_ns, fx_iS, fx_iT, fx_oS, fx_oT, fx_es, fx_us, fx_ei, fx_ui, fx_eS, fx_eT, fx_uS, fx_uT, fx_eS0, fx_eT0, fx_uS0, fx_uT0, dBinG, dIxD, dDictO, dDictV, dGet2, dGet1, Option.isSome_some, startE, dFor, diKeys, diVals, diItems, dAug, dkF, e0]
theorem c2_no (ns : List Int) (k many : Nat) (h : 0 < many) (G : Gst) : ∃ G', C2_law (eL ns k many) G = .exn { cls := 1 } G' := by
  refine ⟨G ++ [.ins 0 []], ?_⟩
  unfold C2_law M_House___init__ D_House___init__
  have h1 : (1 : Int) - (many : Nat) < 1 := by omega
  simp [dSeq_ev, seqR_nx, seqR_rt, seqR_ct, seqR_bk, seqR_ex, seqR_ite, runF_ev, resR_nx, resR_rt, resR_ex, resR_ite, startE, wp_nxK, wp_rtK, wp_ctK, wp_bkK, wp_exK, wp_nxP, wp_rtP, wp_ite, R.bind_ok, R.bind_exn, sb_ok, sb_exn, opt_some, opt_ite, bind_ite, sb_ite, dC, dVar, dPk, Fv.toVl, dBin, dUn, dTest, vTru, dTB_ev, tbK_bl, dAnd, dOr, dNot, dBV, dIf, dChain_ev, chK_bl, daNil, daCons, dTup, dLst, dIx, doNone, doSome, dSl, dFn, diVal, diRng, dCall, dRet, dRetN, dExpr, dIfS_ev, dAsg, gSet, gUn, gsNil, gsCons, itemsOf, dNext, dBreak, dCont, dRaise, dxC, dxE, dTold_ev, toldR_ok, toldR_exn, toldR_ite, dMeth, dFld, List.lookup, dSetF, putN, dPar, dPar3, vNeg, vSub_int, vAdd_int, vLt_int, vGt_int, vLe_int, vGe_int, vIx_lst, vIx_tup, atI_int, vSl_tup, vSl_lst, cutL_toI, cutL_fromI, cutL_midI, cutL_all, oInt, oAbs, oMax2, oMin2, vIsN_non, vIsN_str, vIsN_int, vIsN_tup, vIsN_lst, dBm, tStr, tTup, tLst, dCat, dListO, dLstO, dBmW, dTupRev, dAndV_ev, andK_bl, dOrV_ev, orK_bl, Int.ofNat_inj, fx_wS, fx_wT, fx_wI, fx_wJ, fx_wL, fx_wM, fx_wl, fx_wt, fx_ws, fx_tS, fx_tT, fx_tI, fx_tJ, fx_tL, fx_tM, fx_tl, fx_tt, fx_ts, fx_lS, fx_lT, fx_lI, fx_lJ, fx_lL, fx_lM, fx_ll, fx_lt, fx_ls, fx_nS, fx_nT, fx_nI, fx_nJ, fx_nL, fx_nM, fx_nl, fx_nt, fx_ns, fx_iS, fx_iT, fx_oS, fx_oT, fx_es, fx_us, fx_ei, fx_ui, fx_eS, fx_eT, fx_uS, fx_uT, fx_eS0, fx_eT0, fx_uS0, fx_uT0, dBinG, dIxD, dDictO, dDictV, dGet2, dGet1, Option.isSome_some, startE, dFor, diKeys, diVals, diItems, dAug, dMake, h1]
theorem c3_no (ns : List Int) (k many : Nat) (h : 0 < many) (G : Gst) : ∃ G', C3_law (eL ns k many) G = .exn { cls := 2 } G' := by
  refine ⟨G ++ [.ins 1 [(3, .val (.tup []))]], ?_⟩
  unfold C3_law M_Pack___init__ D_Pack___init__ M_check_cards D_check_cards M_Pack_draw D_Pack_draw
  have h1 : ¬ ((many : Int) ≤ 0) := by omega
  have h2 : ¬ many = 0 := by omega
  simp [dSeq_ev, seqR_nx, seqR_rt, seqR_ct, seqR_bk, seqR_ex, seqR_ite, runF_ev, resR_nx, resR_rt, resR_ex, resR_ite, startE, wp_nxK, wp_rtK, wp_ctK, wp_bkK, wp_exK, wp_nxP, wp_rtP, wp_ite, R.bind_ok, R.bind_exn, sb_ok, sb_exn, opt_some, opt_ite, bind_ite, sb_ite, dC, dVar, dPk, Fv.toVl, dBin, dUn, dTest, vTru, dTB_ev, tbK_bl, dAnd, dOr, dNot, dBV, dIf, dChain_ev, chK_bl, daNil, daCons, dTup, dLst, dIx, doNone, doSome, dSl, dFn, diVal, diRng, dCall, dRet, dRetN, dExpr, dIfS_ev, dAsg, gSet, gUn, gsNil, gsCons, itemsOf, dNext, dBreak, dCont, dRaise, dxC, dxE, dTold_ev, toldR_ok, toldR_exn, toldR_ite, dMeth, dFld, List.lookup, dSetF, putN, dPar, dPar3, vNeg, vSub_int, vAdd_int, vLt_int, vGt_int, vLe_int, vGe_int, vIx_lst, vIx_tup, atI_int, vSl_tup, vSl_lst, cutL_toI, cutL_fromI, cutL_midI, cutL_all, oInt, oAbs, oMax2, oMin2, vIsN_non, vIsN_str, vIsN_int, vIsN_tup, vIsN_lst, dBm, tStr, tTup, tLst, dCat, dListO, dLstO, dBmW, dTupRev, dAndV_ev, andK_bl, dOrV_ev, orK_bl, Int.ofNat_inj, fx_wS, fx_wT, fx_wI, fx_wJ, fx_wL, fx_wM, fx_wl, fx_wt, fx_ws, fx_tS, fx_tT, fx_tI, fx_tJ, fx_tL, fx_tM, fx_tl, fx_tt, fx_ts, fx_lS, fx_lT, fx_lI, fx_lJ, fx_lL, fx_lM, fx_ll, fx_lt, fx_ls, fx_nS, fx_nT, fx_nI, fx_nJ, fx_nL, fx_nM, fx_nl, fx_nt, fx_ns, fx_iS, fx_iT, fx_oS, fx_oT, fx_es, fx_us, fx_ei, fx_ui, fx_eS, fx_eT, fx_uS, fx_uT, fx_eS0, fx_eT0, fx_uS0, fx_uT0, dBinG, dIxD, dDictO, dDictV, dGet2, dGet1, Option.isSome_some, startE, dFor, diKeys, diVals, diItems, dAug, dMake, dOwnD, forL, h1, h2, oTuple, oLen, walkOf, seqOf]
theorem c7_no (ns : List Int) (k many : Nat) (h : 0 < many) (G : Gst) : C7_law (eL ns k many) G = .exn { cls := 3 } G := by
  unfold C7_law M_card_of D_card_of
  have h1 : ¬ ((13 : Int) + (many : Nat) ≤ 13) := by omega
  have h2 : (1 : Int) ≤ 13 + (many : Nat) := by omega
  simp [dSeq_ev, seqR_nx, seqR_rt, seqR_ct, seqR_bk, seqR_ex, seqR_ite, runF_ev, resR_nx, resR_rt, resR_ex, resR_ite, startE, wp_nxK, wp_rtK, wp_ctK, wp_bkK, wp_exK, wp_nxP, wp_rtP, wp_ite, R.bind_ok, R.bind_exn, sb_ok, sb_exn, opt_some, opt_ite, bind_ite, sb_ite, dC, dVar, dPk, Fv.toVl, dBin, dUn, dTest, vTru, dTB_ev, tbK_bl, dAnd, dOr, dNot, dBV, dIf, dChain_ev, chK_bl, daNil, daCons, dTup, dLst, dIx, doNone, doSome, dSl, dFn, diVal, diRng, dCall, dRet, dRetN, dExpr, dIfS_ev, dAsg, gSet, gUn, gsNil, gsCons, itemsOf, dNext, dBreak, dCont, dRaise, dxC, dxE, dTold_ev, toldR_ok, toldR_exn, toldR_ite, dMeth, dFld, List.lookup, dSetF, putN, dPar, dPar3, vNeg, vSub_int, vAdd_int, vLt_int, vGt_int, vLe_int, vGe_int, vIx_lst, vIx_tup, atI_int, vSl_tup, vSl_lst, cutL_toI, cutL_fromI, cutL_midI, cutL_all, oInt, oAbs, oMax2, oMin2, vIsN_non, vIsN_str, vIsN_int, vIsN_tup, vIsN_lst, dBm, tStr, tTup, tLst, dCat, dListO, dLstO, dBmW, dTupRev, dAndV_ev, andK_bl, dOrV_ev, orK_bl, Int.ofNat_inj, fx_wS, fx_wT, fx_wI, fx_wJ, fx_wL, fx_wM, fx_wl, fx_wt, fx_ws, fx_tS, fx_tT, fx_tI, fx_tJ, fx_tL, fx_tM, fx_tl, fx_tt, fx_ts, fx_lS, fx_lT, fx_lI, fx_lJ, fx_lL, fx_lM, fx_ll, fx_lt, fx_ls, fx_nS, fx_nT, fx_nI, fx_nJ, fx_nL, fx_nM, fx_nl, fx_nt, fx_ns, fx_iS, fx_iT, fx_oS, fx_oT, fx_es, fx_us, fx_ei, fx_ui, fx_eS, fx_eT, fx_uS, fx_uT, fx_eS0, fx_eT0, fx_uS0, fx_uT0, dBinG, dIxD, dDictO, dDictV, dGet2, dGet1, Option.isSome_some, startE, dFor, diKeys, diVals, diItems, dAug, h1, h2]
theorem c8_no (ns : List Int) (k many : Nat) (h : 0 < many) (G : Gst) : C8_law (eL ns k many) G = .exn { cls := 5 } G := by
  unfold C8_law M_highest_house D_highest_house
  have h1 : (1 : Int) - (many : Nat) < 2 := by omega
  simp [dSeq_ev, seqR_nx, seqR_rt, seqR_ct, seqR_bk, seqR_ex, seqR_ite, runF_ev, resR_nx, resR_rt, resR_ex, resR_ite, startE, wp_nxK, wp_rtK, wp_ctK, wp_bkK, wp_exK, wp_nxP, wp_rtP, wp_ite, R.bind_ok, R.bind_exn, sb_ok, sb_exn, opt_some, opt_ite, bind_ite, sb_ite, dC, dVar, dPk, Fv.toVl, dBin, dUn, dTest, vTru, dTB_ev, tbK_bl, dAnd, dOr, dNot, dBV, dIf, dChain_ev, chK_bl, daNil, daCons, dTup, dLst, dIx, doNone, doSome, dSl, dFn, diVal, diRng, dCall, dRet, dRetN, dExpr, dIfS_ev, dAsg, gSet, gUn, gsNil, gsCons, itemsOf, dNext, dBreak, dCont, dRaise, dxC, dxE, dTold_ev, toldR_ok, toldR_exn, toldR_ite, dMeth, dFld, List.lookup, dSetF, putN, dPar, dPar3, vNeg, vSub_int, vAdd_int, vLt_int, vGt_int, vLe_int, vGe_int, vIx_lst, vIx_tup, atI_int, vSl_tup, vSl_lst, cutL_toI, cutL_fromI, cutL_midI, cutL_all, oInt, oAbs, oMax2, oMin2, vIsN_non, vIsN_str, vIsN_int, vIsN_tup, vIsN_lst, dBm, tStr, tTup, tLst, dCat, dListO, dLstO, dBmW, dTupRev, dAndV_ev, andK_bl, dOrV_ev, orK_bl, Int.ofNat_inj, fx_wS, fx_wT, fx_wI, fx_wJ, fx_wL, fx_wM, fx_wl, fx_wt, fx_ws, fx_tS, fx_tT, fx_tI, fx_tJ, fx_tL, fx_tM, fx_tl, fx_tt, fx_ts, fx_lS, fx_lT, fx_lI, fx_lJ, fx_lL, fx_lM, fx_ll, fx_lt, fx_ls, fx_nS, fx_nT, fx_nI, fx_nJ, fx_nL, fx_nM, fx_nl, fx_nt, fx_ns, fx_iS, fx_iT, fx_oS, fx_oT, fx_es, fx_us, fx_ei, fx_ui, fx_eS, fx_eT, fx_uS, fx_uT, fx_eS0, fx_eT0, fx_uS0, fx_uT0, dBinG, dIxD, dDictO, dDictV, dGet2, dGet1, Option.isSome_some, startE, dFor, diKeys, diVals, diItems, dAug, h1]
theorem c6_no (ns : List Int) (k many : Nat) (a b : Ob) : ∃ G', C6_law (eL ns k many) [a, b] = .exn { cls := 4 } G' := by
  refine ⟨[a, b, .ins 5 [(12, .val (.ref 3))], .dct false false [(.str "c", .tup [.int 0, .int 0]), (.str "d", .tup [.int 0, .int 0]), (.str "h", .tup [.int 0, .int 0]), (.str "s", .tup [.int 0, .int 0])]], ?_⟩
  kernel_rfl
theorem mul_x {m : Nat} (h : m < 91) : vMulS (.str "x") (.int (m : Nat)) = some (.str (xs m)) := by
  have h1 := xs_ok m
  unfold vMulS
  refine if_pos ⟨by omega, by omega, ?_, h1⟩
  rw [show ("x" : Str).length = 1 from rfl, Int.toNat_natCast]; omega
theorem split_x {m : Nat} (h : m < 91) (G : Gst) : oSplit G (.str (xs m)) [.str " "] = some (.lst [.str (xs m)]) := by
  have h1 := xs_ok m
  have h3 : Txt.split (xs m) " " = [xs m] := split_none (xs_sub m)
  have h4 := xs_len m
  show (if ((" " : Str).length == 0) = false ∧ (xs m).length + 2 ≤ 16777216 ∧ (Txt.split (xs m) " ").all okStr = true then some (Vl.lst ((Txt.split (xs m) " ").map .str)) else none) = _
  rw [h3, List.all_cons, List.all_nil, Bool.and_true, h1]
  exact if_pos ⟨rfl, by rw [h4]; omega, rfl⟩
theorem c4_no (ns : List Int) (k many : Nat) (h : many < 91) (G : Gst) : C4_law (eL ns k many) G = .exn { cls := 7, row := some 0 } G := by
  unfold C4_law M_read_row D_read_row
  have h1 := mul_x h
  have h2 := fun G => split_x h G
  generalize xs many = s at *
  simp [dSeq_ev, seqR_nx, seqR_rt, seqR_ct, seqR_bk, seqR_ex, seqR_ite, runF_ev, resR_nx, resR_rt, resR_ex, resR_ite, startE, wp_nxK, wp_rtK, wp_ctK, wp_bkK, wp_exK, wp_nxP, wp_rtP, wp_ite, R.bind_ok, R.bind_exn, sb_ok, sb_exn, opt_some, opt_ite, bind_ite, sb_ite, dC, dVar, dPk, Fv.toVl, dBin, dUn, dTest, vTru, dTB_ev, tbK_bl, dAnd, dOr, dNot, dBV, dIf, dChain_ev, chK_bl, daNil, daCons, dTup, dLst, dIx, doNone, doSome, dSl, dFn, diVal, diRng, dCall, dRet, dRetN, dExpr, dIfS_ev, dAsg, gSet, gUn, gsNil, gsCons, itemsOf, dNext, dBreak, dCont, dRaise, dxC, dxE, dTold_ev, toldR_ok, toldR_exn, toldR_ite, dMeth, dFld, List.lookup, dSetF, putN, dPar, dPar3, vNeg, vSub_int, vAdd_int, vLt_int, vGt_int, vLe_int, vGe_int, vIx_lst, vIx_tup, atI_int, vSl_tup, vSl_lst, cutL_toI, cutL_fromI, cutL_midI, cutL_all, oInt, oAbs, oMax2, oMin2, vIsN_non, vIsN_str, vIsN_int, vIsN_tup, vIsN_lst, dBm, tStr, tTup, tLst, dCat, dListO, dLstO, dBmW, dTupRev, dAndV_ev, andK_bl, dOrV_ev, orK_bl, Int.ofNat_inj, fx_wS, fx_wT, fx_wI, fx_wJ, fx_wL, fx_wM, fx_wl, fx_wt, fx_ws, fx_tS, fx_tT, fx_tI, fx_tJ, fx_tL, fx_tM, fx_tl, fx_tt, fx_ts, fx_lS, fx_lT, fx_lI, fx_lJ, fx_lL, fx_lM, fx_ll, fx_lt, fx_ls, fx_nS, fx_nT, fx_nI, fx_nJ, fx_nL, fx_nM, fx_nl, fx_nt, fx_ns, fx_iS, fx_iT, fx_oS, fx_oT, fx_es, fx_us, fx_ei, fx_ui, fx_eS, fx_eT, fx_uS, fx_uT, fx_eS0, fx_eT0, fx_uS0, fx_uT0, dBinG, dIxD, dDictO, dDictV, dGet2, dGet1, Option.isSome_some, startE, dFor, diKeys, diVals, diItems, dAug, h1, h2, dxI]
theorem len_x {m : Nat} (h : m < 91) : (xs m).length = m := xs_len m
theorem c5_no (ns : List Int) (k many : Nat) (h : many < 91) (G : Gst) : C5_law (eL ns k many) G = .exn { cls := 0 } G := by
  by_cases e : many = 2
  · subst e; kernel_rfl
  · unfold C5_law M_rank_of D_rank_of M_check_card D_check_card
    have h1 := mul_x h
    have h2 := len_x h
    have h3 : ¬ ((many : Nat) : Int) = 2 := by omega
    have hi : ∀ s : Str, vIsi "str" isi_str (.str s) = some (.bl true) := fun s => rfl
    have h4 : many ≤ 16777216 := by omega
    generalize xs many = s at *
    simp [dSeq_ev, seqR_nx, seqR_rt, seqR_ct, seqR_bk, seqR_ex, seqR_ite, runF_ev, resR_nx, resR_rt, resR_ex, resR_ite, startE, wp_nxK, wp_rtK, wp_ctK, wp_bkK, wp_exK, wp_nxP, wp_rtP, wp_ite, R.bind_ok, R.bind_exn, sb_ok, sb_exn, opt_some, opt_ite, bind_ite, sb_ite, dC, dVar, dPk, Fv.toVl, dBin, dUn, dTest, vTru, dTB_ev, tbK_bl, dAnd, dOr, dNot, dBV, dIf, dChain_ev, chK_bl, daNil, daCons, dTup, dLst, dIx, doNone, doSome, dSl, dFn, diVal, diRng, dCall, dRet, dRetN, dExpr, dIfS_ev, dAsg, gSet, gUn, gsNil, gsCons, itemsOf, dNext, dBreak, dCont, dRaise, dxC, dxE, dTold_ev, toldR_ok, toldR_exn, toldR_ite, dMeth, dFld, List.lookup, dSetF, putN, dPar, dPar3, vNeg, vSub_int, vAdd_int, vLt_int, vGt_int, vLe_int, vGe_int, vIx_lst, vIx_tup, atI_int, vSl_tup, vSl_lst, cutL_toI, cutL_fromI, cutL_midI, cutL_all, oInt, oAbs, oMax2, oMin2, vIsN_non, vIsN_str, vIsN_int, vIsN_tup, vIsN_lst, dBm, tStr, tTup, tLst, dCat, dListO, dLstO, dBmW, dTupRev, dAndV_ev, andK_bl, dOrV_ev, orK_bl, Int.ofNat_inj, fx_wS, fx_wT, fx_wI, fx_wJ, fx_wL, fx_wM, fx_wl, fx_wt, fx_ws, fx_tS, fx_tT, fx_tI, fx_tJ, fx_tL, fx_tM, fx_tl, fx_tt, fx_ts, fx_lS, fx_lT, fx_lI, fx_lJ, fx_lL, fx_lM, fx_ll, fx_lt, fx_ls, fx_nS, fx_nT, fx_nI, fx_nJ, fx_nL, fx_nM, fx_nl, fx_nt, fx_ns, fx_iS, fx_iT, fx_oS, fx_oT, fx_es, fx_us, fx_ei, fx_ui, fx_eS, fx_eT, fx_uS, fx_uT, fx_eS0, fx_eT0, fx_uS0, fx_uT0, dBinG, dIxD, dDictO, dDictV, dGet2, dGet1, Option.isSome_some, startE, dFor, diKeys, diVals, diItems, dAug, h1, h2, h3, h4, oLen, hi, e]
end CardH
end
section
set_option maxHeartbeats 1000000
namespace CardH
open PySem PySem.Spec PyProof.Rows L2
def bsK (k : Nat) : List Bool := [decide (0 = k), decide (1 = k), decide (2 = k), decide (3 = k), decide (4 = k), decide (5 = k), decide (6 = k), decide (7 = k), true]
theorem c9_ok (ns : List Int) (k many : Nat) (h : k < 8) (G : Gst) : (dBin vAdd C9_law (dLst (daCons (dC (.bl true)) daNil))) (eL ns k many) G = .ok (.lst ((bsK k).map .bl)) G := by
  match k, h with
  | 0, _ => kernel_rfl
  | 1, _ => kernel_rfl
  | 2, _ => kernel_rfl
  | 3, _ => kernel_rfl
  | 4, _ => kernel_rfl
  | 5, _ => kernel_rfl
  | 6, _ => kernel_rfl
  | 7, _ => kernel_rfl
theorem ne_bs (k : Nat) (h : k < 8) : vNe (.lst ((bsK k).map .bl)) (.lst ((bsK k).map .bl)) = some (.bl false) := by
  match k, h with
  | 0, _ => kernel_rfl
  | 1, _ => kernel_rfl
  | 2, _ => kernel_rfl
  | 3, _ => kernel_rfl
  | 4, _ => kernel_rfl
  | 5, _ => kernel_rfl
  | 6, _ => kernel_rfl
  | 7, _ => kernel_rfl
theorem call_no (ns : List Int) (k many : Nat) (h : k < 8) (h0 : 0 < many) (h1 : many < 91) (a : Ob) : ∃ d c G', ([C1_law, C2_law, C3_law, C4_law, C5_law, C6_law, C7_law, C8_law] : List DE)[k]? = some d ∧ d (eL ns k many) [a, .ins 4 dkF] = .exn c G' ∧ undF excN t1N t2N c = some (bsK k) := by
  match k, h with
  | 0, _ => exact ⟨_, _, _, rfl, c1_no ns 0 many a, rfl⟩
  | 1, _ => obtain ⟨G', e⟩ := c2_no ns 1 many h0 [a, .ins 4 dkF]; exact ⟨_, _, _, rfl, e, rfl⟩
  | 2, _ => obtain ⟨G', e⟩ := c3_no ns 2 many h0 [a, .ins 4 dkF]; exact ⟨_, _, _, rfl, e, rfl⟩
  | 3, _ => exact ⟨_, _, _, rfl, c4_no ns 3 many h1 _, rfl⟩
  | 4, _ => exact ⟨_, _, _, rfl, c5_no ns 4 many h1 _, rfl⟩
  | 5, _ => obtain ⟨G', e⟩ := c6_no ns 5 many a (.ins 4 dkF); exact ⟨_, _, _, rfl, e, rfl⟩
  | 6, _ => exact ⟨_, _, _, rfl, c7_no ns 6 many h0 _, rfl⟩
  | 7, _ => exact ⟨_, _, _, rfl, c8_no ns 7 many h0 _, rfl⟩
theorem lams_ok (ns : List Int) (many : Nat) (h0 : 0 < many) (h1 : many < 91) (d : D3) : ∃ e' G', T2_1_law [some (.val (.scr ns)), some (.val (.ref 0)), none, none, some (.val (.int (many : Nat))), some (.val (.ref 1)), none] [dO d, .ins 4 dkF] = .nx e' G' := by
  have r0 := roll0 (T := [.ins 4 dkF]) (d := d) (many := 8) (by decide)
  have h3 : rv 8 d < 8 := rv_ltN (m := 8) d (by decide)
  generalize rv 8 d = k at *
  generalize rd 8 d = d1 at *
  obtain ⟨dd, c, G', e1, e2, e3⟩ := call_no ns k many h3 h0 h1 (dO d1)
  refine ⟨eL ns k many, G', ?_⟩
  unfold T2_1_law dLams
  rw [if_pos ⟨by simp, by simp⟩]
  show (match M__law_roll [.ref 0, .int 8] [dO d, .ins 4 dkF] with
    | .ok (.int i) G1 => if 0 ≤ i then match ([C1_law, C2_law, C3_law, C4_law, C5_law, C6_law, C7_law, C8_law] : List DE)[i.toNat]? with
      | some d => match d ((([some (.val (.scr ns)), some (.val (.ref 0)), none, none, some (.val (.int (many : Nat))), some (.val (.ref 1)), none] : LEnv).set 2 none).set 3 (some (.val (.int i)))) G1 with
        | .exn c G2 => match undF excN t1N t2N c with
          | some bs => sb _ (dNeL bs _ _ G2) _
          | none => .bad
        | _ => .bad
      | none => .bad
      else .bad
    | _ => .bad) = _
  rw [r0]
  dsimp only
  rw [if_pos (Int.natCast_nonneg k), Int.toNat_natCast, e1]
  dsimp only [List.set_cons_succ, List.set_cons_zero]
  rw [e2]
  dsimp only
  rw [e3]
  dsimp only
  unfold dNeL
  rw [c9_ok ns k many h3 G']
  dsimp only
  rw [ne_bs k h3]
  rfl
theorem law_end (e : LEnv) (G : Gst) : Wp (SR.nx e G) (sqK T1_1_law (rtP (.bl true) fun _ => True)) := by
  rw [wp_nxK]
  have h2 : T1_1_law e G = .rt (.bl true) G := rfl
  rw [h2]
  exact ⟨rfl, trivial⟩
theorem law_ok (ns : List Int) : ∃ G', M_law [.scr ns] [] = .ok (.bl true) G' := by
  obtain ⟨d, hr⟩ := round1 ns
  unfold M_law D_law
  refine runF_true ?_
  simp only [startE, List.map_cons, List.map_nil, List.length_cons, List.length_nil, List.cons_append, List.nil_append, Nat.reduceAdd, Nat.reduceSub, List.replicate]
  refine wp_seq ?_
  have h1 : dFor (diVal (dCall 2 M__law_rounds (daCons (dVar 0) (daCons (dC (.int 1)) daNil)))) (gSet 1) T2_0_law [some (.val (.scr ns)), none, none, none, none, none, none] [] = forL (gSet 1) T2_0_law [.ref 0] [some (.val (.scr ns)), none, none, none, none, none, none] [dO d] := by
    generalize T2_0_law = T2 at *
    simp [dSeq_ev, seqR_nx, seqR_rt, seqR_ct, seqR_bk, seqR_ex, seqR_ite, runF_ev, resR_nx, resR_rt, resR_ex, resR_ite, startE, wp_nxK, wp_rtK, wp_ctK, wp_bkK, wp_exK, wp_nxP, wp_rtP, wp_ite, R.bind_ok, R.bind_exn, sb_ok, sb_exn, opt_some, opt_ite, bind_ite, sb_ite, dC, dVar, dPk, Fv.toVl, dBin, dUn, dTest, vTru, dTB_ev, tbK_bl, dAnd, dOr, dNot, dBV, dIf, dChain_ev, chK_bl, daNil, daCons, dTup, dLst, dIx, doNone, doSome, dSl, dFn, diVal, diRng, dCall, dRet, dRetN, dExpr, dIfS_ev, dAsg, gSet, gUn, gsNil, gsCons, itemsOf, dNext, dBreak, dCont, dRaise, dxC, dxE, dTold_ev, toldR_ok, toldR_exn, toldR_ite, dMeth, dFld, List.lookup, dSetF, putN, dPar, dPar3, vNeg, vSub_int, vAdd_int, vLt_int, vGt_int, vLe_int, vGe_int, vIx_lst, vIx_tup, atI_int, vSl_tup, vSl_lst, cutL_toI, cutL_fromI, cutL_midI, cutL_all, oInt, oAbs, oMax2, oMin2, vIsN_non, vIsN_str, vIsN_int, vIsN_tup, vIsN_lst, dBm, tStr, tTup, tLst, dCat, dListO, dLstO, dBmW, dTupRev, dAndV_ev, andK_bl, dOrV_ev, orK_bl, Int.ofNat_inj, fx_wS, fx_wT, fx_wI, fx_wJ, fx_wL, fx_wM, fx_wl, fx_wt, fx_ws, fx_tS, fx_tT, fx_tI, fx_tJ, fx_tL, fx_tM, fx_tl, fx_tt, fx_ts, fx_lS, fx_lT, fx_lI, fx_lJ, fx_lL, fx_lM, fx_ll, fx_lt, fx_ls, fx_nS, fx_nT, fx_nI, fx_nJ, fx_nL, fx_nM, fx_nl, fx_nt, fx_ns, fx_iS, fx_iT, fx_oS, fx_oT, fx_es, fx_us, fx_ei, fx_ui, fx_eS, fx_eT, fx_uS, fx_uT, fx_eS0, fx_eT0, fx_uS0, fx_uT0, dBinG, dIxD, dDictO, dDictV, dGet2, dGet1, Option.isSome_some, startE, dFor, diKeys, diVals, diItems, dAug, hr]
  rw [h1]
  refine wp_for1 ?_
  simp only [List.set_cons_succ, List.set_cons_zero]
  have r0 := roll0 (T := []) (d := d) (many := 90) (by decide)
  have h3 : rv 90 d < 90 := rv_ltN (m := 90) d (by decide)
  generalize rv 90 d = m at *
  generalize rd 90 d = d1 at *
  have a1 : vAdd (.int 1) (.int (m : Nat)) = some (.int ((1 + m : Nat) : Int)) := by rw [vAdd_int]; rfl
  have dm : dMake 4 1 M_Desk___init__ daNil [some (.val (.scr ns)), some (.val (.ref 0)), none, none, none, none, none] [dO d1] = .ok (.ref 1) [dO d1, .ins 4 dkF] := desk_made _ _
  unfold T2_0_law
  refine wp_asg (x := .tup [.int ((1 + m : Nat) : Int), .ref 1]) (G1 := [dO d1, .ins 4 dkF]) ?_ rfl ?_
  · generalize ((1 + m : Nat) : Int) = mm at *
    generalize dMake 4 1 M_Desk___init__ daNil = DM at *
    simp [dSeq_ev, seqR_nx, seqR_rt, seqR_ct, seqR_bk, seqR_ex, seqR_ite, runF_ev, resR_nx, resR_rt, resR_ex, resR_ite, startE, wp_nxK, wp_rtK, wp_ctK, wp_bkK, wp_exK, wp_nxP, wp_rtP, wp_ite, R.bind_ok, R.bind_exn, sb_ok, sb_exn, opt_some, opt_ite, bind_ite, sb_ite, dC, dVar, dPk, Fv.toVl, dBin, dUn, dTest, vTru, dTB_ev, tbK_bl, dAnd, dOr, dNot, dBV, dIf, dChain_ev, chK_bl, daNil, daCons, dTup, dLst, dIx, doNone, doSome, dSl, dFn, diVal, diRng, dCall, dRet, dRetN, dExpr, dIfS_ev, dAsg, gSet, gUn, gsNil, gsCons, itemsOf, dNext, dBreak, dCont, dRaise, dxC, dxE, dTold_ev, toldR_ok, toldR_exn, toldR_ite, dMeth, dFld, List.lookup, dSetF, putN, dPar, dPar3, vNeg, vSub_int, vAdd_int, vLt_int, vGt_int, vLe_int, vGe_int, vIx_lst, vIx_tup, atI_int, vSl_tup, vSl_lst, cutL_toI, cutL_fromI, cutL_midI, cutL_all, oInt, oAbs, oMax2, oMin2, vIsN_non, vIsN_str, vIsN_int, vIsN_tup, vIsN_lst, dBm, tStr, tTup, tLst, dCat, dListO, dLstO, dBmW, dTupRev, dAndV_ev, andK_bl, dOrV_ev, orK_bl, Int.ofNat_inj, fx_wS, fx_wT, fx_wI, fx_wJ, fx_wL, fx_wM, fx_wl, fx_wt, fx_ws, fx_tS, fx_tT, fx_tI, fx_tJ, fx_tL, fx_tM, fx_tl, fx_tt, fx_ts, fx_lS, fx_lT, fx_lI, fx_lJ, fx_lL, fx_lM, fx_ll, fx_lt, fx_ls, fx_nS, fx_nT, fx_nI, fx_nJ, fx_nL, fx_nM, fx_nl, fx_nt, fx_ns, fx_iS, fx_iT, fx_oS, fx_oT, fx_es, fx_us, fx_ei, fx_ui, fx_eS, fx_eT, fx_uS, fx_uT, fx_eS0, fx_eT0, fx_uS0, fx_uT0, dBinG, dIxD, dDictO, dDictV, dGet2, dGet1, Option.isSome_some, startE, dFor, diKeys, diVals, diItems, dAug, r0, a1, dm, -vAdd_int]
  · simp only [List.set_cons_succ, List.set_cons_zero]
    obtain ⟨e', G', e⟩ := lams_ok ns (1 + m) (by omega) (by omega) d1
    rw [e]
    show Wp (.nx e' G') (nxP _)
    rw [wp_nxP]
    exact law_end _ _
end CardH
end
section
set_option maxHeartbeats 0
namespace CardH
open PySem PySem.Spec PyProof.Rows L2 LamX
section
variable {w : World} {K : PySem.W.Frag} {mg : PySem.Str → Option Value} {h : Heap} {f : Addr}
theorem lawAt (pl : ∀ ns : List Int, ns.length ≤ 63 → (∀ z ∈ ns, Builtin.Int.intBits z ≤ 1048576) → ∃ G', M_law [.scr ns] [] = .ok (.bl true) G') (X : K.In h) (G : h.Ns mainGlobals mg) (hf : mg "law" = some (.ref f)) (c0 : SaysY fa fn tf apB ow w h K) :
    LawAtS PySem.Challenge.rw_cardhall_k23_refusals_apart w K (L2.CX PySem.Challenge.rw_cardhall_k23_refusals_apart.prog w) 7 63 "script" mg f h := by
  have c := c0.x
  obtain ⟨fd, F⟩ := c.t.d.def_ 60 (d := d_law) rfl
  have gl : ∀ x, He.Fa.glo x ∈ fa → mg x = some (.ref (He.ga K x)) := fun x hx => He.glo_ok X G (c.t.d.facts hx)
  have e := hf.symm.trans (gl "law" (List.mem_of_getElem? (i := 13) rfl))
  cases e
  refine ⟨fd, tf.map (He.cT K), spD (ktD K mg) 1 M_law, fun p hp => ?_, fun p hp => ?_, fun p hp => ?_, fun s v => (FunD.bindsA (ps := ["script"]) F fun _ _ _ _ _ _ us hl => match us, hl with | [_], _ => rfl) s [v] rfl, fun H a ns hl hb hT hS => ?_, fun base KB GB TB => ?_⟩
  · obtain ⟨q, hq, rfl⟩ := List.mem_map.mp hp
    exact c.empty q hq
  · obtain ⟨q, hq, rfl⟩ := List.mem_map.mp hp
    exact c.out q hq
  · obtain ⟨q, hq, rfl⟩ := List.mem_map.mp hp
    exact PySem.W.codeHd_of_K X (c.hd q hq)
  · refine sp_law (kt := ktD K mg) (Tl := tblL K) rfl (fun p hp => ?_) hS (pl ns hl hb)
    obtain ⟨q, hq, rfl⟩ := List.mem_map.mp hp
    exact hT (He.cT K q.1) (List.mem_map.mpr ⟨q.1, List.mem_map.mpr ⟨q, hq, rfl⟩, rfl⟩)
  · have kn : Kn PySem.Challenge.rw_cardhall_k23_refusals_apart.prog K mg base := ⟨c.t.d, gl, fun x hx => He.free_ok X G (c.t.d.facts hx), fun x z hx => He.str_ok X G (c.t.d.facts hx), fun x i hx => He.int_ok X G (c.t.d.facts hx), fun p hp => TB _ (List.mem_map.mpr ⟨p, hp, rfl⟩), c.more, c0.o, by kernel_rfl, by kernel_rfl⟩
    exact fnOk_ofD (kt := ktD K mg) (pp := ("law", none)) F sc_law D_law (fun A outer s H E W0 hr => B_law kn A outer s H E W0 hr)
end
end CardH
open PySem PySem.W PySem.Calls PyProof.Rows
theorem end_cardhall_k23_refusals_apart (pl : ∀ ns : List Int, ns.length ≤ 63 → (∀ z ∈ ns, Builtin.Int.intBits z ≤ 1048576) → ∃ G', CardH.M_law [.scr ns] [] = .ok (.bl true) G') : PySem.Challenge.rw_cardhall_k23_refusals_apart.Holds := by
  w_on; o_law
  refine HandSHeadRun.head_any (r := OpenLaw.row PySem.Challenge.rw_cardhall_k23_refusals_apart) (q := view (OpenLaw.row PySem.Challenge.rw_cardhall_k23_refusals_apart).prog [38]) (H := CardH.hk) (ob := CardH.ob) (M := 1000000) (loose := CardH.loose) (d := HandSHeadRun.topDef (OpenLaw.row PySem.Challenge.rw_cardhall_k23_refusals_apart).prog 38) (kwd := []) CardH.ob_eq
    (by kernel_rfl) (fun s => by kernel_rfl) CardH.run (by kernel_rfl) (by kernel_rfl) (by kernel_rfl) (by rfl) (by first | assumption | decide +kernel) (by decide +kernel) ⟨rfl, rfl, rfl, rfl, rfl, by decide +kernel⟩ ?hw ?hc
  case hw => w_witness2
  case hc =>
    refine LamX.walk_ofTsE (l := PySem.Challenge.rw_cardhall_k23_refusals_apart) (n := 63) (k := 7) (x := "script") (CX := fun w => L2.CX PySem.Challenge.rw_cardhall_k23_refusals_apart.prog w) rfl (by decide) (by kernel_rfl) ⟨rfl, by decide, by decide⟩ ?F (fun w H s e s' ⟨_, _, _, _, _, _, _, _, _, _, _, _, z⟩ => z)
    intro w mg fa h Y G hmg0
    obtain ⟨K, KX, c⟩ := Y
    have hmg : mg ("law" : PySem.Str) = some (.ref fa) := by
      have e : (HandSHeadRun.topDef (OpenLaw.row PySem.Challenge.rw_cardhall_k23_refusals_apart).prog 38).name = ("law" : PySem.Str) := by kernel_rfl
      rw [← e]
      exact hmg0
    exact ⟨K, KX, CardH.lawAt pl KX G hmg c⟩
end
open PySem PySem.W PyProof.Rows
set_option maxRecDepth 100000 in
set_option maxHeartbeats 8000000 in
theorem PySem.Challenge.cw_cardhall_k23_refusals_apart_holds : PySem.Challenge.rw_cardhall_k23_refusals_apart.Holds := by
  exact end_cardhall_k23_refusals_apart fun ns _ _ => CardH.law_ok ns
