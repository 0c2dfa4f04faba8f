import PyProof.Rows.All
import Wide.All
import OpenK.AllK
import Wide.FinOn
import HandS.ForMost
import HandS.ForExc
import HandS.HeadHook2
import HandS.ExcInit
import HandS.TupAny
import HandS.TupMul
import HandS.Flow
import HandS.Star
import HandS.Deep
import HandS.Text
import HandS.Style
import HandS.Iter
import KE.GoesEnum
import KE.GoesZip
import KE.GoesMore
import HandS.IsInst
import HandS.WordsDict
import HandS.More
import HandS.RaiseMore
import HandS.Replace
import PyProof.P3In
import PyProof.Rows.InDataRows
import PyProof.EqAt
import HandS.Comp
import HandS.DictComp
import HandS.CallSlots
import HandS.Property
import HandS.WordsExc
import HandS.Defaults
import HandS.ExcValue
import HandS.ExcIs
import HandS.ExcField
import KE.KExcIs
import HandS.Head0
import HandS.Head1
import HandS.Head2
import HandS.HeadEnd
import HandS.HeadHook1
import PySem.Challenge.RW_savelines_k06_errors_and_limits
set_option Elab.async false
set_option linter.all false
set_option maxRecDepth 100000
set_option maxHeartbeats 2000000
/-! MI, the base: data, the store of named objects, their likeness to the abstract heap, results, steps. -/
namespace MI
open PySem L2
/-- a name of an object in the store -/
abbrev Id := List Nat
/-- a value: what is never changed is told whole; ref: an object of the store -/
inductive D where
  | non | bl (b : Bool) | int (i : Int) | str (s : Str) | ty (n : String) | cls (n : Str)
  | exc (c : Str) (ns : List Str) (vs : List D)
  | tup (xs : List D) | lst (xs : List D) | dct (ks : List Key) (vs : List D) | ref (i : Id)
/-- an object of the store -/
inductive Ob where
  | lst (xs : List D) | dct (ks : List Key) (vs : List D) | ins (c : Str) (ns : List Str) (vs : List D)
abbrev Store := Id → Option Ob
abbrev Env := List (Option D)
/-- an error: the name of its class, its fields -/
structure Exc where
  cls : Str
  ns : List Str
  vs : List D
inductive R (α : Type) where
  | ok (a : α) | ex (e : Exc)
abbrev Rs (α : Type) := Option (R α × Store)
/-- an expression's meaning -/
abbrev EM := Env → Id → Store → Rs D
abbrev BM := Env → Id → Store → Rs Bool
abbrev AM := Env → Id → Store → Rs (List D)
def bindR {α β : Type} (m : Rs α) (k : α → Store → Rs β) : Rs β := match m with
  | none => none
  | some (.ex e, s) => some (.ex e, s)
  | some (.ok a, s) => k a s
def okR {α : Type} (a : α) (s : Store) : Rs α := some (.ok a, s)
@[simp] theorem bindR_ok {α β : Type} (a : α) (s : Store) (k : α → Store → Rs β) : bindR (okR a s) k = k a s := rfl
@[simp] theorem bindR_ok' {α β : Type} (a : α) (s : Store) (k : α → Store → Rs β) : bindR (some (.ok a, s)) k = k a s := rfl
@[simp] theorem bindR_ex {α β : Type} (e : Exc) (s : Store) (k : α → Store → Rs β) : bindR (some (.ex e, s)) k = some (.ex e, s) := rfl
@[simp] theorem bindR_none {α β : Type} (k : α → Store → Rs β) : bindR none k = none := rfl
def liftR {α : Type} (o : Option α) (s : Store) : Rs α := match o with
  | none => none
  | some a => okR a s
@[simp] theorem liftR_some {α : Type} (a : α) (s : Store) : liftR (some a) s = okR a s := rfl
@[simp] theorem liftR_none {α : Type} (s : Store) : (liftR none s : Rs α) = none := rfl
/-- the store with an object put -/
def put (S : Store) (i : Id) (o : Ob) : Store := fun j => if j = i then some o else S j
theorem put_same (S : Store) (i : Id) (o : Ob) : put S i o i = some o := if_pos rfl
theorem put_ne (S : Store) {i j : Id} (o : Ob) (h : j ≠ i) : put S i o j = S j := if_neg h

/-! ### a world: names, the store, the abstract heap -/
structure Wd where
  ph : Id → Option Addr
  st : Store
  hp : Hp
  hid : Addr → Prop := fun _ => False
/-- no living object of the store stands at a, nor one that is being made -/
def Dead (w : Wd) (a : Addr) : Prop := (∀ i, w.ph i = some a → w.st i = none) ∧ ¬ w.hid a
/-- a list of the written part -/
def KLst (K : PySem.W.Frag) (a : Addr) (xs : List V) : Prop :=
  ∃ (o : Obj) (its : Array Value) (n : Nat), K.lookup a = some o ∧ o.cls = .type "list" ∧ o.dict = none ∧ o.data = .seq its n ∧ its.size ≤ sizeLine ∧ Vals xs its.toList
/-- a tuple: known to an object without a dict -/
def TupN (K : PySem.W.Frag) (H : Hp) (a : Addr) (vs : List V) : Prop :=
  (∃ o : Obj, H a = some (.frz o (.tup vs)) ∧ o.dict = none) ∨
    ∃ (o : Obj) (its : Array Value) (n : Nat), K.lookup a = some o ∧ o.cls = .type "tuple" ∧ o.dict = none ∧ o.data = .seq its n ∧ its.size ≤ sizeLine ∧ Vals vs its.toList
theorem TupN.sq {K : PySem.W.Frag} {H : Hp} {a : Addr} {vs : List V} (h : TupN K H a vs) : SqT K H a vs := by
  rcases h with ⟨o, h, _⟩ | ⟨o, its, n, h1, h2, _, h3, h4, h5⟩
  · exact .inl (.inr ⟨o, h⟩)
  · exact .inr ⟨o, its, n, h1, h2, h3, h4, h5⟩
mutual
def RD (K : PySem.W.Frag) (w : Wd) : D → V → Prop
  | .non, v => v = .non
  | .bl b, v => v = .bl b
  | .int i, v => v = .int i
  | .str s, v => v = .str s
  | .ty n, v => v = .ty n
  | .cls n, v => v = .ref (He.ga K n)
  | .exc c ns ds, v => ∃ a, v = .ref a ∧ ((ns = [] ∧ ds = [] ∧ w.hp a = some (exo a (He.ga K c) none)) ∨ ∃ d fs, w.hp a = some (exo a (He.ga K c) (some d)) ∧ w.hp d = some (exd d fs) ∧ fs.map (·.1) = ns ∧ RDs K w ds (fs.map (·.2)))
  | .tup ds, v => ∃ a vs, v = .ref a ∧ TupN K w.hp a vs ∧ RDs K w ds vs
  | .lst ds, v => ∃ a vs, v = .ref a ∧ ((Rd w.hp a (.lst vs) ∧ Dead w a) ∨ KLst K a vs) ∧ RDs K w ds vs
  | .dct ks ds, v => ∃ a kvs, v = .ref a ∧ Rd w.hp a (.dK kvs) ∧ Dead w a ∧ kvs.map (·.1) = ks ∧ RDs K w ds (kvs.map (·.2))
  | .ref i, v => ∃ a, v = .ref a ∧ w.ph i = some a
def RDs (K : PySem.W.Frag) (w : Wd) : List D → List V → Prop
  | [], vs => vs = []
  | d :: ds, vs => ∃ v r, vs = v :: r ∧ RD K w d v ∧ RDs K w ds r
end
/-- the object o stands at a -/
def OR (K : PySem.W.Frag) (w : Wd) (a : Addr) : Ob → Prop
  | .lst ds => ∃ vs, w.hp a = some (.lst vs) ∧ RDs K w ds vs
  | .dct ks ds => ∃ kvs, w.hp a = some (.dK kvs) ∧ kvs.map (·.1) = ks ∧ RDs K w ds (kvs.map (·.2))
  | .ins c ns ds => ∃ dx fs, w.hp a = some (.ins (He.ga K c) dx fs) ∧ fs.map (·.1) = ns ∧ RDs K w ds (fs.map (·.2))
def isO : HO → Bool
  | .lst _ => true
  | .dK _ => true
  | .ins _ _ _ => true
  | _ => false
structure Rel (K : PySem.W.Frag) (w : Wd) : Prop where
  ob : ∀ i o, w.st i = some o → ∃ a, w.ph i = some a ∧ OR K w a o
  inj : ∀ i j a, w.ph i = some a → w.ph j = some a → i = j
  tr : ∀ i a, w.ph i = some a → ∃ o, w.hp a = some o
  hd : ∀ a, w.hid a → (∃ o, w.hp a = some o ∧ isO o = true) ∧ ∀ i, w.ph i ≠ some a
/-- the same, or the same dict, locked or not -/
def Dk (kvs : List (Key × V)) (o : HO) : Prop := o = .dK kvs ∨ ∃ u, o = .frz u (.dK kvs)
def Sim (o o' : HO) : Prop := o' = o ∨ ∃ kvs, Dk kvs o ∧ Dk kvs o'
theorem Dk.inj {k l : List (Key × V)} {o : HO} (a : Dk k o) (b : Dk l o) : k = l := by
  rcases a with rfl | ⟨u, rfl⟩ <;> rcases b with h | ⟨u', h⟩ <;> cases h <;> rfl
theorem Sim.refl (o : HO) : Sim o o := .inl rfl
theorem Sim.trans {a b c : HO} (x : Sim a b) (y : Sim b c) : Sim a c := by
  rcases x with rfl | ⟨k, h1, h2⟩
  · exact y
  · rcases y with rfl | ⟨l, h3, h4⟩
    · exact .inr ⟨k, h1, h2⟩
    · exact .inr ⟨k, h1, by rw [h2.inj h3]; exact h4⟩
/-- later, what is being made may have grown -/
structure Le1 (w w' : Wd) : Prop where
  ph : ∀ i a, w.ph i = some a → w'.ph i = some a
  hp : ∀ a o, w.hp a = some o → Dead w a → (∃ o', w'.hp a = some o' ∧ Sim o o') ∧ Dead w' a
/-- later: names stay, what is no living object stands -/
structure Le0 (w w' : Wd) : Prop extends Le1 w w' where
  hd : ∀ a, w.hid a → w'.hid a ∧ w'.hp a = w.hp a
/-- .. and nothing more is being made -/
structure Le (w w' : Wd) : Prop extends Le0 w w' where
  bk : ∀ a, w'.hid a → w.hid a
theorem Le.of {w w' : Wd} (h1 : ∀ i a, w.ph i = some a → w'.ph i = some a) (h2 : ∀ a o, w.hp a = some o → Dead w a → w'.hp a = some o ∧ Dead w' a) (h3 : ∀ a, w.hid a → w'.hp a = w.hp a) (h4 : w'.hid = w.hid) : Le w w' :=
  ⟨⟨⟨h1, fun a o h d => ⟨⟨o, (h2 a o h d).1, .refl o⟩, (h2 a o h d).2⟩⟩, fun a h => ⟨by rw [h4]; exact h, h3 a h⟩⟩, fun a h => by rw [h4] at h; exact h⟩
theorem Le.refl (w : Wd) : Le w w := .of (fun _ _ h => h) (fun _ _ h d => ⟨h, d⟩) (fun _ _ => rfl) rfl
theorem Le1.trans {a b c : Wd} (x : Le1 a b) (y : Le1 b c) : Le1 a c := ⟨fun i z h => y.ph i z (x.ph i z h), fun z o h d => by
  obtain ⟨⟨o1, h1, s1⟩, d1⟩ := x.hp z o h d
  obtain ⟨⟨o2, h2, s2⟩, d2⟩ := y.hp z o1 h1 d1
  exact ⟨⟨o2, h2, s1.trans s2⟩, d2⟩⟩
theorem Le0.trans {a b c : Wd} (x : Le0 a b) (y : Le0 b c) : Le0 a c := ⟨x.toLe1.trans y.toLe1, fun z h => ⟨(y.hd z (x.hd z h).1).1, (y.hd z (x.hd z h).1).2.trans (x.hd z h).2⟩⟩
theorem Le.trans {a b c : Wd} (x : Le a b) (y : Le b c) : Le a c := ⟨x.toLe0.trans y.toLe0, fun z h => x.bk z (y.bk z h)⟩
/-- what is no dict stands as it is -/
theorem Le1.at {w w' : Wd} (l : Le1 w w') {a : Addr} {o : HO} (h : w.hp a = some o) (d : Dead w a) (n : ∀ k, ¬ Dk k o) : w'.hp a = some o := by
  obtain ⟨⟨o', h1, s⟩, _⟩ := l.hp a o h d
  rcases s with rfl | ⟨k, h2, _⟩
  · exact h1
  · exact absurd h2 (n k)
theorem Le0.at {w w' : Wd} (l : Le0 w w') {a : Addr} {o : HO} (h : w.hp a = some o) (d : Dead w a) (n : ∀ k, ¬ Dk k o) : w'.hp a = some o := l.toLe1.at h d n
section
variable {K : PySem.W.Frag} {w w' : Wd}
theorem OR.isO {a : Addr} {o : Ob} (h : OR K w a o) : ∃ u, w.hp a = some u ∧ isO u = true := by
  cases o with
  | lst ds => obtain ⟨vs, e, _⟩ := h; exact ⟨_, e, rfl⟩
  | dct ks ds => obtain ⟨kvs, e, _⟩ := h; exact ⟨_, e, rfl⟩
  | ins c ns ds => obtain ⟨dx, fs, e, _⟩ := h; exact ⟨_, e, rfl⟩
theorem Rel.dead (r : Rel K w) {a : Addr} {u : HO} (h : w.hp a = some u) (hu : MI.isO u = false) : Dead w a := by
  refine ⟨fun i e => ?_, fun z => ?_⟩
  · cases q : w.st i with
    | none => rfl
    | some o =>
      obtain ⟨b, e1, e2⟩ := r.ob i o q
      rw [e] at e1
      cases e1
      obtain ⟨u', e3, e4⟩ := e2.isO
      rw [h] at e3
      cases e3
      rw [hu] at e4
      cases e4
  · obtain ⟨⟨o, e, e2⟩, _⟩ := r.hd a z
    rw [h] at e
    cases e
    rw [hu] at e2
    cases e2
theorem ext_nd {o : HO} {φ : Heap → Prop} (h : o = .ext φ) : ∀ k, ¬ Dk k o := fun k z => by
  subst h
  rcases z with z | ⟨u, z⟩ <;> cases z
theorem TupN.mono1 (r : Rel K w) (l : Le1 w w') {a : Addr} {vs : List V} (h : TupN K w.hp a vs) : TupN K w'.hp a vs := by
  rcases h with ⟨o, h, hd⟩ | h
  · exact .inl ⟨o, l.at h (r.dead h rfl) (fun k z => by rcases z with z | ⟨u, z⟩ <;> cases z), hd⟩
  · exact .inr h
theorem Rd.monoL1 (l : Le1 w w') {a : Addr} {vs : List V} (h : Rd w.hp a (.lst vs)) (d : Dead w a) : Rd w'.hp a (.lst vs) ∧ Dead w' a := by
  rcases h with h | ⟨o, h⟩
  · exact ⟨.inl (l.at h d fun k z => by rcases z with z | ⟨u, z⟩ <;> cases z), (l.hp a _ h d).2⟩
  · exact ⟨.inr ⟨o, l.at h d fun k z => by rcases z with z | ⟨u, z⟩ <;> cases z⟩, (l.hp a _ h d).2⟩
theorem Rd.monoK1 (l : Le1 w w') {a : Addr} {kvs : List (Key × V)} (h : Rd w.hp a (.dK kvs)) (d : Dead w a) : Rd w'.hp a (.dK kvs) ∧ Dead w' a := by
  have go : ∀ o, w.hp a = some o → Dk kvs o → Rd w'.hp a (.dK kvs) ∧ Dead w' a := fun o e k => by
    obtain ⟨⟨o', h1, s⟩, d'⟩ := l.hp a o e d
    have k' : Dk kvs o' := by
      rcases s with rfl | ⟨k2, h2, h3⟩
      · exact k
      · rw [k.inj h2]; exact h3
    refine ⟨?_, d'⟩
    rcases k' with rfl | ⟨u, rfl⟩
    · exact .inl h1
    · exact .inr ⟨u, h1⟩
  rcases h with h | ⟨o, h⟩
  · exact go _ h (.inl rfl)
  · exact go _ h (.inr ⟨o, rfl⟩)
mutual
theorem RD.mono1 (r : Rel K w) (l : Le1 w w') : ∀ (d : D) (v : V), RD K w d v → RD K w' d v
  | .non, v, h => by simp only [RD] at h ⊢; exact h
  | .bl b, v, h => by simp only [RD] at h ⊢; exact h
  | .int i, v, h => by simp only [RD] at h ⊢; exact h
  | .str s, v, h => by simp only [RD] at h ⊢; exact h
  | .ty n, v, h => by simp only [RD] at h ⊢; exact h
  | .cls n, v, h => by simp only [RD] at h ⊢; exact h
  | .exc c ns ds, v, h => by
    simp only [RD] at h ⊢
    obtain ⟨a, e, h⟩ := h
    refine ⟨a, e, ?_⟩
    rcases h with ⟨h1, h2, h3⟩ | ⟨d, fs, h1, h2, h3, h4⟩
    · exact .inl ⟨h1, h2, l.at h3 (r.dead h3 rfl) (ext_nd rfl)⟩
    · exact .inr ⟨d, fs, l.at h1 (r.dead h1 rfl) (ext_nd rfl), l.at h2 (r.dead h2 rfl) (ext_nd rfl), h3, RDs.mono1 r l ds _ h4⟩
  | .tup ds, v, h => by
    simp only [RD] at h ⊢
    obtain ⟨a, vs, e, h1, h2⟩ := h
    exact ⟨a, vs, e, TupN.mono1 r l h1, RDs.mono1 r l ds vs h2⟩
  | .lst ds, v, h => by
    simp only [RD] at h ⊢
    obtain ⟨a, vs, e, h1, h2⟩ := h
    refine ⟨a, vs, e, ?_, RDs.mono1 r l ds vs h2⟩
    rcases h1 with ⟨h1, h3⟩ | h1
    · exact .inl (Rd.monoL1 l h1 h3)
    · exact .inr h1
  | .dct ks ds, v, h => by
    simp only [RD] at h ⊢
    obtain ⟨a, kvs, e, h1, h3, h4, h2⟩ := h
    have z := Rd.monoK1 l h1 h3
    exact ⟨a, kvs, e, z.1, z.2, h4, RDs.mono1 r l ds _ h2⟩
  | .ref i, v, h => by
    simp only [RD] at h ⊢
    obtain ⟨a, e, h1⟩ := h
    exact ⟨a, e, l.ph i a h1⟩
theorem RDs.mono1 (r : Rel K w) (l : Le1 w w') : ∀ (ds : List D) (vs : List V), RDs K w ds vs → RDs K w' ds vs
  | [], vs, h => by simp only [RDs] at h ⊢; exact h
  | d :: ds, vs, h => by
    simp only [RDs] at h ⊢
    obtain ⟨v, q, e, h1, h2⟩ := h
    exact ⟨v, q, e, RD.mono1 r l d v h1, RDs.mono1 r l ds q h2⟩
end
theorem TupN.mono (r : Rel K w) (l : Le0 w w') {a : Addr} {vs : List V} (h : TupN K w.hp a vs) : TupN K w'.hp a vs := TupN.mono1 r l.toLe1 h
theorem Rd.monoL (l : Le0 w w') {a : Addr} {vs : List V} (h : Rd w.hp a (.lst vs)) (d : Dead w a) : Rd w'.hp a (.lst vs) ∧ Dead w' a := Rd.monoL1 l.toLe1 h d
theorem Rd.monoK (l : Le0 w w') {a : Addr} {kvs : List (Key × V)} (h : Rd w.hp a (.dK kvs)) (d : Dead w a) : Rd w'.hp a (.dK kvs) ∧ Dead w' a := Rd.monoK1 l.toLe1 h d
theorem RD.mono (r : Rel K w) (l : Le0 w w') (d : D) (v : V) (h : RD K w d v) : RD K w' d v := RD.mono1 r l.toLe1 d v h
theorem RDs.mono (r : Rel K w) (l : Le0 w w') (ds : List D) (vs : List V) (h : RDs K w ds vs) : RDs K w' ds vs := RDs.mono1 r l.toLe1 ds vs h
theorem RDs.length : ∀ {ds : List D} {vs : List V}, RDs K w ds vs → ds.length = vs.length
  | [], vs, h => by simp only [RDs] at h; rw [h] <;> rfl
  | d :: ds, vs, h => by
    simp only [RDs] at h
    obtain ⟨v, q, e, h1, h2⟩ := h
    rw [e, List.length_cons, List.length_cons, RDs.length h2]
theorem RDs.get : ∀ {ds : List D} {vs : List V} {i : Nat} {d : D}, RDs K w ds vs → ds[i]? = some d → ∃ v, vs[i]? = some v ∧ RD K w d v
  | [], _, _, _, _, e => by simp at e
  | d :: ds, vs, 0, x, h, e => by
    simp only [RDs] at h
    obtain ⟨v, q, e1, h1, h2⟩ := h
    simp at e
    subst e e1
    exact ⟨v, rfl, h1⟩
  | d :: ds, vs, i + 1, x, h, e => by
    simp only [RDs] at h
    obtain ⟨v, q, e1, h1, h2⟩ := h
    subst e1
    obtain ⟨v', e2, h3⟩ := RDs.get (i := i) h2 (by simpa using e)
    exact ⟨v', by simpa using e2, h3⟩
theorem RDs.got {ds : List D} {vs : List V} {i : Nat} {v : V} (h : RDs K w ds vs) (e : vs[i]? = some v) : ∃ d, ds[i]? = some d ∧ RD K w d v := by
  have hl : i < ds.length := by
    rw [h.length]
    exact (List.getElem?_eq_some_iff.mp e).1
  have e1 : ds[i]? = some ds[i] := List.getElem?_eq_getElem hl
  obtain ⟨v', e2, h2⟩ := h.get e1
  rw [e] at e2
  cases e2
  exact ⟨_, e1, h2⟩
theorem RDs.append : ∀ {ds es : List D} {vs us : List V}, RDs K w ds vs → RDs K w es us → RDs K w (ds ++ es) (vs ++ us)
  | [], _, _, _, h, k => by simp only [RDs] at h; subst h; exact k
  | d :: ds, es, vs, us, h, k => by
    simp only [RDs] at h
    obtain ⟨v, q, e, h1, h2⟩ := h
    subst e
    simp only [List.cons_append, RDs]
    exact ⟨v, q ++ us, rfl, h1, RDs.append h2 k⟩
theorem RDs.nil : RDs K w [] [] := by simp only [RDs]
theorem RDs.cons {d : D} {v : V} {ds : List D} {vs : List V} (h : RD K w d v) (k : RDs K w ds vs) : RDs K w (d :: ds) (v :: vs) := by
  simp only [RDs]
  exact ⟨v, vs, rfl, h, k⟩
theorem RDs.one {d : D} {v : V} (h : RD K w d v) : RDs K w [d] [v] := .cons h .nil
theorem RDs.of_cons {d : D} {ds : List D} {vs : List V} (h : RDs K w (d :: ds) vs) : ∃ v r, vs = v :: r ∧ RD K w d v ∧ RDs K w ds r := by
  simp only [RDs] at h
  exact h
theorem RDs.of_nil {vs : List V} (h : RDs K w [] vs) : vs = [] := by
  simp only [RDs] at h
  exact h
theorem RDs.set {d : D} {v : V} (hd : RD K w d v) : ∀ {ds : List D} {vs : List V} (i : Nat), RDs K w ds vs → RDs K w (ds.set i d) (vs.set i v)
  | [], vs, _, h => by
    have e := h.of_nil
    subst e
    exact .nil
  | x :: ds, vs, 0, h => by
    obtain ⟨u, r, e, h1, h2⟩ := h.of_cons
    subst e
    exact .cons hd h2
  | x :: ds, vs, i + 1, h => by
    obtain ⟨u, r, e, h1, h2⟩ := h.of_cons
    subst e
    exact .cons h1 (RDs.set hd i h2)
theorem RDs.take : ∀ {ds : List D} {vs : List V} (n : Nat), RDs K w ds vs → RDs K w (ds.take n) (vs.take n)
  | _, _, 0, _ => by simp only [List.take_zero]; exact .nil
  | [], vs, _ + 1, h => by
    have e := h.of_nil
    subst e
    exact .nil
  | x :: ds, vs, n + 1, h => by
    obtain ⟨u, r, e, h1, h2⟩ := h.of_cons
    subst e
    exact .cons h1 (RDs.take n h2)
theorem RDs.drop : ∀ {ds : List D} {vs : List V} (n : Nat), RDs K w ds vs → RDs K w (ds.drop n) (vs.drop n)
  | _, _, 0, h => by simp only [List.drop_zero]; exact h
  | [], vs, _ + 1, h => by
    have e := h.of_nil
    subst e
    exact .nil
  | x :: ds, vs, n + 1, h => by
    obtain ⟨u, r, e, h1, h2⟩ := h.of_cons
    subst e
    exact RDs.drop n h2
theorem RDs.ints : ∀ {ns : List Int} {vs : List V}, RDs K w (ns.map D.int) vs → vs = ns.map V.int
  | [], vs, h => h.of_nil
  | n :: ns, vs, h => by
    obtain ⟨u, r, e, h1, h2⟩ := RDs.of_cons (d := D.int n) (ds := ns.map D.int) h
    subst e
    have e2 := RDs.ints (ns := ns) h2
    have e3 : u = V.int n := by simpa only [RD] using h1
    rw [e2, e3]
    rfl
theorem RDs.of_ints : ∀ (ns : List Int), RDs K w (ns.map D.int) (ns.map V.int)
  | [] => .nil
  | n :: ns => .cons (by simp only [RD]) (RDs.of_ints ns)
theorem RDs.strs : ∀ {ns : List Str} {vs : List V}, RDs K w (ns.map D.str) vs → vs = ns.map V.str
  | [], vs, h => h.of_nil
  | n :: ns, vs, h => by
    obtain ⟨u, r, e, h1, h2⟩ := RDs.of_cons (d := D.str n) (ds := ns.map D.str) h
    subst e
    have e2 := RDs.strs (ns := ns) h2
    have e3 : u = V.str n := by simpa only [RD] using h1
    rw [e2, e3]
    rfl
theorem RDs.of_strs : ∀ (ns : List Str), RDs K w (ns.map D.str) (ns.map V.str)
  | [] => .nil
  | n :: ns => .cons (by simp only [RD]) (RDs.of_strs ns)
theorem OR.mono (r : Rel K w) (l : Le0 w w') {a : Addr} {o : Ob} (e : w'.hp a = w.hp a) (h : OR K w a o) : OR K w' a o := by
  cases o with
  | lst ds => obtain ⟨vs, e1, h1⟩ := h; exact ⟨vs, e.trans e1, RDs.mono r l ds vs h1⟩
  | dct ks ds => obtain ⟨kvs, e1, e2, h1⟩ := h; exact ⟨kvs, e.trans e1, e2, RDs.mono r l ds _ h1⟩
  | ins c ns ds => obtain ⟨dx, fs, e1, e2, h1⟩ := h; exact ⟨dx, fs, e.trans e1, e2, RDs.mono r l ds _ h1⟩

/-! ### the three changes of a world -/
/-- something new is laid, of no name -/
def Wd.lay (w : Wd) (p : Addr) (o : HO) : Wd := ⟨w.ph, w.st, upd w.hp p o, w.hid⟩
theorem Rel.nph (r : Rel K w) {p : Addr} (hp : w.hp p = none) (i : Id) : w.ph i ≠ some p := fun e => by
  obtain ⟨o, q⟩ := r.tr i p e
  rw [hp] at q
  cases q
theorem le_lay (r : Rel K w) {p : Addr} {o : HO} (hp : w.hp p = none) : Le w (w.lay p o) :=
  .of (fun _ _ h => h) (fun a u h d => ⟨(upd_ne (ne_of_none h hp)).trans h, d⟩) (fun a h => upd_ne (by obtain ⟨⟨o, e, _⟩, _⟩ := r.hd a h; exact ne_of_none e hp)) rfl
theorem rel_lay (r : Rel K w) {p : Addr} {o : HO} (hp : w.hp p = none) : Rel K (w.lay p o) := by
  refine ⟨fun i u h => ?_, r.inj, fun i a h => ?_, fun a h => ?_⟩
  · obtain ⟨a, e1, e2⟩ := r.ob i u h
    refine ⟨a, e1, OR.mono r (le_lay r hp).toLe0 (upd_ne ?_) e2⟩
    obtain ⟨x, e3, _⟩ := e2.isO
    exact ne_of_none e3 hp
  · obtain ⟨x, e⟩ := r.tr i a h
    exact ⟨x, (upd_ne (ne_of_none e hp)).trans e⟩
  · obtain ⟨⟨o, e, z⟩, n⟩ := r.hd a h
    exact ⟨⟨o, (upd_ne (ne_of_none e hp)).trans e, z⟩, n⟩
theorem Rel.nhd (r : Rel K w) {p : Addr} (hp : w.hp p = none) : ¬ w.hid p := fun z => by
  obtain ⟨⟨o, e, _⟩, _⟩ := r.hd p z
  rw [hp] at e
  cases e
theorem dead_lay (r : Rel K w) {p : Addr} {o : HO} (hp : w.hp p = none) : Dead (w.lay p o) p := ⟨fun i e => absurd e (r.nph hp i), r.nhd hp⟩
/-- a new object of the store -/
def Wd.new (w : Wd) (n : Id) (p : Addr) (ob : Ob) (o : HO) : Wd := ⟨fun j => if j = n then some p else w.ph j, put w.st n ob, upd w.hp p o, w.hid⟩
theorem le_new (r : Rel K w) {n : Id} {p : Addr} {ob : Ob} {o : HO} (hn : w.ph n = none) (hp : w.hp p = none) : Le w (w.new n p ob o) := by
  refine .of (fun i a h => ?_) (fun a u h d => ⟨(upd_ne (ne_of_none h hp)).trans h, fun i e => ?_, d.2⟩) (fun a h => upd_ne (by obtain ⟨⟨o, e, _⟩, _⟩ := r.hd a h; exact ne_of_none e hp)) rfl
  · show (if i = n then some p else w.ph i) = some a
    rw [if_neg (fun q => by rw [q, hn] at h; cases h)]
    exact h
  · have e' : (if i = n then some p else w.ph i) = some a := e
    by_cases q : i = n
    · rw [if_pos q] at e'
      cases e'
      rw [hp] at h
      cases h
    · rw [if_neg q] at e'
      exact (put_ne w.st ob q).trans (d.1 i e')
theorem rel_new (r : Rel K w) {n : Id} {p : Addr} {ob : Ob} {o : HO} (hn : w.ph n = none) (hp : w.hp p = none) (ho : OR K (w.new n p ob o) p ob) : Rel K (w.new n p ob o) := by
  refine ⟨fun i u h => ?_, fun i j a h1 h2 => ?_, fun i a h => ?_, fun a h => ?_⟩
  · have h' : put w.st n ob i = some u := h
    by_cases q : i = n
    · subst q
      rw [put_same] at h'
      cases h'
      exact ⟨p, if_pos rfl, ho⟩
    · rw [put_ne w.st ob q] at h'
      obtain ⟨a, e1, e2⟩ := r.ob i u h'
      refine ⟨a, (if_neg q).trans e1, OR.mono r (le_new r hn hp).toLe0 (upd_ne ?_) e2⟩
      obtain ⟨x, e3, _⟩ := e2.isO
      exact ne_of_none e3 hp
  · have h1' : (if i = n then some p else w.ph i) = some a := h1
    have h2' : (if j = n then some p else w.ph j) = some a := h2
    by_cases q1 : i = n
    · rw [if_pos q1] at h1'
      cases h1'
      by_cases q2 : j = n
      · rw [q1, q2]
      · rw [if_neg q2] at h2'
        exact absurd h2' (r.nph hp j)
    · rw [if_neg q1] at h1'
      by_cases q2 : j = n
      · rw [if_pos q2] at h2'
        cases h2'
        exact absurd h1' (r.nph hp i)
      · rw [if_neg q2] at h2'
        exact r.inj i j a h1' h2'
  · have h' : (if i = n then some p else w.ph i) = some a := h
    by_cases q : i = n
    · rw [if_pos q] at h'
      cases h'
      exact ⟨o, upd_same⟩
    · rw [if_neg q] at h'
      obtain ⟨x, e⟩ := r.tr i a h'
      exact ⟨x, (upd_ne (ne_of_none e hp)).trans e⟩
  · obtain ⟨⟨x, e, z⟩, k⟩ := r.hd a h
    refine ⟨⟨x, (upd_ne (ne_of_none e hp)).trans e, z⟩, fun i e2 => ?_⟩
    have e2' : (if i = n then some p else w.ph i) = some a := e2
    by_cases q : i = n
    · rw [if_pos q] at e2'
      cases e2'
      rw [hp] at e
      cases e
    · rw [if_neg q] at e2'
      exact k i e2'
/-- an object of the store is changed -/
def Wd.chg (w : Wd) (n : Id) (a : Addr) (ob : Ob) (o : HO) : Wd := ⟨w.ph, put w.st n ob, upd w.hp a o, w.hid⟩
theorem Rel.neD (r : Rel K w) {n : Id} {a : Addr} {ob : Ob} (hs : w.st n = some ob) (ha : w.ph n = some a) {b : Addr} (d : Dead w b) : b ≠ a := fun q => by
  rw [q] at d
  rw [d.1 n ha] at hs
  cases hs
theorem Rel.neH (r : Rel K w) {n : Id} {a : Addr} (ha : w.ph n = some a) {b : Addr} (h : w.hid b) : b ≠ a := fun q => by
  obtain ⟨_, k⟩ := r.hd b h
  rw [q] at k
  exact k n ha
theorem le_chg (r : Rel K w) {n : Id} {a : Addr} {ob ob' : Ob} {o : HO} (hs : w.st n = some ob) (ha : w.ph n = some a) : Le w (w.chg n a ob' o) := by
  refine .of (fun _ _ h => h) (fun b u h d => ⟨(upd_ne (r.neD hs ha d)).trans h, fun i e => ?_, d.2⟩) (fun b h => upd_ne (r.neH ha h)) rfl
  have q : i ≠ n := fun q => by
    have e' : w.ph i = some b := e
    rw [q, ha] at e'
    cases e'
    exact r.neD hs ha d rfl
  exact (put_ne w.st ob' q).trans (d.1 i e)
theorem rel_chg (r : Rel K w) {n : Id} {a : Addr} {ob ob' : Ob} {o : HO} (hs : w.st n = some ob) (ha : w.ph n = some a) (ho : OR K (w.chg n a ob' o) a ob') : Rel K (w.chg n a ob' o) := by
  refine ⟨fun i u h => ?_, r.inj, fun i b h => ?_, fun b h => ?_⟩
  · have h' : put w.st n ob' i = some u := h
    by_cases q : i = n
    · subst q
      rw [put_same] at h'
      cases h'
      exact ⟨a, ha, ho⟩
    · rw [put_ne w.st ob' q] at h'
      obtain ⟨b, e1, e2⟩ := r.ob i u h'
      refine ⟨b, e1, OR.mono r (le_chg r hs ha).toLe0 (upd_ne ?_) e2⟩
      exact fun z => q (r.inj i n a (by rw [e1, z]) ha)
  · by_cases q : b = a
    · rw [q]
      exact ⟨o, upd_same⟩
    · obtain ⟨x, e⟩ := r.tr i b h
      exact ⟨x, (upd_ne q).trans e⟩
  · obtain ⟨⟨x, e, z⟩, k⟩ := r.hd b h
    exact ⟨⟨x, (upd_ne (r.neH ha h)).trans e, z⟩, k⟩
/-- objects are let go -/
def Wd.sto (w : Wd) (S : Store) : Wd := ⟨w.ph, S, w.hp, w.hid⟩
theorem dead_sto {S : Store} (hS : ∀ i o, S i = some o → w.st i = some o) {a : Addr} (d : Dead w a) : Dead (w.sto S) a := by
  refine ⟨fun i e => ?_, d.2⟩
  show S i = none
  cases q : S i with
  | none => rfl
  | some o =>
    have z := hS i o q
    rw [d.1 i e] at z
    cases z
theorem le_sto {S : Store} (hS : ∀ i o, S i = some o → w.st i = some o) : Le w (w.sto S) := .of (fun _ _ h => h) (fun _ _ h d => ⟨h, dead_sto hS d⟩) (fun _ _ => rfl) rfl
theorem rel_sto (r : Rel K w) {S : Store} (hS : ∀ i o, S i = some o → w.st i = some o) : Rel K (w.sto S) := by
  refine ⟨fun i u h => ?_, r.inj, r.tr, r.hd⟩
  obtain ⟨a, e1, e2⟩ := r.ob i u (hS i u h)
  exact ⟨a, e1, OR.mono r (le_sto hS).toLe0 rfl e2⟩
end

/-! ### supplies of names -/
/-- every name that ends with π is new -/
def Fr (π : Id) (w : Wd) : Prop := ∀ q : Id, w.ph (q ++ π) = none
/-- names that do not end with π are as they were -/
def Out (π : Id) (w w' : Wd) : Prop := ∀ i : Id, (∀ q : Id, i ≠ q ++ π) → w'.ph i = w.ph i
theorem Out.refl (π : Id) (w : Wd) : Out π w w := fun _ _ => rfl
theorem Out.trans {π : Id} {a b c : Wd} (x : Out π a b) (y : Out π b c) : Out π a c := fun i h => (y i h).trans (x i h)
theorem Out.up {π : Id} {n : Nat} {a b : Wd} (x : Out (n :: π) a b) : Out π a b := fun i h => x i fun q e => h (q ++ [n]) (by rw [e]; simp)
theorem Out.same {π : Id} {a b : Wd} (e : b.ph = a.ph) : Out π a b := fun i _ => by rw [e]
theorem Fr.sub {π : Id} {w : Wd} (h : Fr π w) (n : Nat) : Fr (n :: π) w := fun q => by
  have e := h (q ++ [n])
  rw [List.append_assoc] at e
  exact e
theorem apart {n m : Nat} (h : m ≠ n) (q q' : Id) (π : Id) : q ++ m :: π ≠ q' ++ n :: π := fun e => by
  have l : q.length = q'.length := by
    have z := congrArg List.length e
    simp only [List.length_append, List.length_cons] at z
    omega
  have z := (List.append_inj e l).2
  simp only [List.cons.injEq] at z
  exact h z.1
theorem Fr.out {π : Id} {n m : Nat} {w w' : Wd} (h : Fr (m :: π) w) (o : Out (n :: π) w w') (ne : m ≠ n) : Fr (m :: π) w' := fun q => (o _ fun q' => apart ne q q' π).trans (h q)

/-! ### what a def's or a body's run is fine for -/
/-- an error as it flies: its class, its own dict -/
def ExR (K : PySem.W.Frag) (w : Wd) (e : Exc) (c : Value) (dd : Option Addr) : Prop :=
  c = .ref (He.ga K e.cls) ∧ ((e.ns = [] ∧ e.vs = []) ∨ ∃ d fs, dd = some d ∧ w.hp d = some (.xd fs) ∧ fs.map (·.1) = e.ns ∧ RDs K w e.vs (fs.map (·.2)))
theorem ExR.mono {K : PySem.W.Frag} {w w' : Wd} (r : Rel K w) (l : Le0 w w') {e : Exc} {c : Value} {dd : Option Addr} (h : ExR K w e c dd) : ExR K w' e c dd := by
  obtain ⟨h1, h2⟩ := h
  refine ⟨h1, ?_⟩
  rcases h2 with h2 | ⟨d, fs, e1, e2, e3, e4⟩
  · exact .inl h2
  · exact .inr ⟨d, fs, e1, l.at e2 (r.dead e2 rfl) (fun k z => by rcases z with z | ⟨u, z⟩ <;> cases z), e3, RDs.mono r l _ _ e4⟩
def Fin {α : Type} (K : PySem.W.Frag) (W : WX) (σ : L2.St) (w : Wd) (π : Id) (r : Rs α) (Q : α → Wd → Prop) : Prop := match r with
  | none => False
  | some (.ok a, S') => ∀ w', w'.st = S' → Le w w' → Rel K w' → Out π w w' → Q a w'
  | some (.ex e, S') => ∀ w', w'.st = S' → Le w w' → Rel K w' → Out π w w' → ∀ c dd, ExR K w' e c dd → W c dd σ w'.hp
section
variable {K : PySem.W.Frag} {W : WX} {σ : L2.St} {w w1 : Wd} {π : Id} {α β : Type}
theorem Fin.mono {r : Rs α} {Q Q' : α → Wd → Prop} (h : Fin K W σ w π r Q) (k : ∀ a w', Le w w' → Rel K w' → Out π w w' → Q a w' → Q' a w') : Fin K W σ w π r Q' := by
  unfold Fin at h ⊢
  split at h
  · exact h
  · rename_i a S'
    exact fun w' e l re o => k a w' l re o (h w' e l re o)
  · exact h
theorem Fin.move {r : Rs α} {Q : α → Wd → Prop} {π' : Id} (h : Fin K W σ w π r Q) (l : Le w w1) (o : Out π w w1) (u : ∀ w', Out π' w1 w' → Out π w1 w') : Fin K W σ w1 π' r Q := by
  unfold Fin at h ⊢
  split at h
  · exact h
  · exact fun w' e l' re o' => h w' e (l.trans l') re (o.trans (u w' o'))
  · exact fun w' e l' re o' => h w' e (l.trans l') re (o.trans (u w' o'))
theorem Fin.step {r : Rs α} {k : α → Store → Rs β} {Q : β → Wd → Prop} {n m : Nat} (h : Fin K W σ w π (bindR r k) Q) : Fin K W σ w (n :: π) r fun a w1 => Fin K W σ w1 (m :: π) (k a w1.st) Q := by
  cases r with
  | none => exact h
  | some p =>
    obtain ⟨x, S'⟩ := p
    cases x with
    | ok a =>
      intro w1 e l re o
      subst e
      exact Fin.move (show Fin K W σ w π (k a w1.st) Q from h) l o.up fun _ z => z.up
    | ex e =>
      intro w1 e1 l re o
      exact h w1 e1 l re o.up
theorem Fin.stepS {r : Rs α} {k : α → Store → Rs β} {Q : β → Wd → Prop} (h : Fin K W σ w π (bindR r k) Q) : Fin K W σ w π r fun a w1 => Fin K W σ w1 π (k a w1.st) Q := by
  cases r with
  | none => exact h
  | some p =>
    obtain ⟨x, S'⟩ := p
    cases x with
    | ok a =>
      intro w1 e l re o
      subst e
      exact Fin.move (show Fin K W σ w π (k a w1.st) Q from h) l o fun _ z => z
    | ex e =>
      intro w1 e1 l re o
      exact h w1 e1 l re o
theorem Fin.lift {o : Option α} {S : Store} {Q : α → Wd → Prop} (h : Fin K W σ w π (liftR o S) Q) : ∃ a, o = some a ∧ ∀ w', w'.st = S → Le w w' → Rel K w' → Out π w w' → Q a w' := by
  cases o with
  | none => exact h.elim
  | some a => exact ⟨a, rfl, h⟩
theorem Fin.okd {a : α} {S : Store} {Q : α → Wd → Prop} (h : Fin K W σ w π (okR a S) Q) : ∀ w', w'.st = S → Le w w' → Rel K w' → Out π w w' → Q a w' := h
/-- the whole is where the last part is -/
theorem Fin.stepL {r : Rs α} {k : α → Store → Rs β} {Q : β → Wd → Prop} {n : Nat} (h : Fin K W σ w π (bindR r k) Q) : Fin K W σ w (n :: π) r fun a w1 => Fin K W σ w1 π (k a w1.st) Q := by
  cases r with
  | none => exact h
  | some p =>
    obtain ⟨x, S'⟩ := p
    cases x with
    | ok a =>
      intro w1 e l re o
      subst e
      exact Fin.move (show Fin K W σ w π (k a w1.st) Q from h) l o.up fun _ z => z
    | ex e =>
      intro w1 e1 l re o
      exact h w1 e1 l re o.up
end
/-- the slots -/
def EnvR (K : PySem.W.Frag) (w : Wd) (ρ : Env) (σ : L2.St) : Prop := ρ.length = σ.length ∧ ∀ (i : Nat) (d : D), ρ[i]? = some (some d) → ∃ v, σ[i]? = some (some v) ∧ RD K w d v
theorem EnvR.mono {K : PySem.W.Frag} {w w' : Wd} (r : Rel K w) (l : Le0 w w') {ρ : Env} {σ : L2.St} (h : EnvR K w ρ σ) : EnvR K w' ρ σ :=
  ⟨h.1, fun i d e => let ⟨v, e1, h1⟩ := h.2 i d e; ⟨v, e1, RD.mono r l d v h1⟩⟩
theorem EnvR.set {K : PySem.W.Frag} {w : Wd} {ρ : Env} {σ : L2.St} (h : EnvR K w ρ σ) (i : Nat) {d : D} {v : V} (hd : RD K w d v) : EnvR K w (ρ.set i (some d)) (σ.set i (some v)) := by
  refine ⟨by rw [List.length_set, List.length_set]; exact h.1, fun j x e => ?_⟩
  rw [List.getElem?_set] at e
  rw [List.getElem?_set]
  by_cases q : i = j
  · rw [if_pos q] at e ⊢
    by_cases q2 : i < ρ.length
    · rw [if_pos q2] at e
      rw [if_pos (by rw [← h.1]; exact q2)]
      cases e
      exact ⟨v, rfl, hd⟩
    · rw [if_neg q2] at e
      cases e
  · rw [if_neg q] at e ⊢
    exact h.2 j x e
theorem EnvR.unset {K : PySem.W.Frag} {w : Wd} {ρ : Env} {σ : L2.St} (h : EnvR K w ρ σ) (i : Nat) : EnvR K w (ρ.set i none) (σ.set i none) := by
  refine ⟨by rw [List.length_set, List.length_set]; exact h.1, fun j x e => ?_⟩
  rw [List.getElem?_set] at e
  rw [List.getElem?_set]
  by_cases q : i = j
  · rw [if_pos q] at e
    split at e <;> cases e
  · rw [if_neg q] at e ⊢
    exact h.2 j x e
theorem EnvR.weak {K : PySem.W.Frag} {w : Wd} {ρ : Env} {σ : L2.St} (h : EnvR K w ρ σ) (i : Nat) (v : Option V) : EnvR K w (ρ.set i none) (σ.set i v) := by
  refine ⟨by rw [List.length_set, List.length_set]; exact h.1, fun j x e => ?_⟩
  rw [List.getElem?_set] at e
  rw [List.getElem?_set]
  by_cases q : i = j
  · rw [if_pos q] at e
    split at e <;> cases e
  · rw [if_neg q] at e ⊢
    exact h.2 j x e
/-- where one stands: the names from j on are new -/
structure Cf (K : PySem.W.Frag) (w : Wd) (ρ : Env) (σ : L2.St) (H : Hp) (π : Id) (j : Nat) : Prop where
  hp : w.hp = H
  env : EnvR K w ρ σ
  rel : Rel K w
  fr : ∀ m, j ≤ m → Fr (m :: π) w
structure Cfg (K : PySem.W.Frag) (w : Wd) (ρ : Env) (π : Id) (σ : L2.St) (H : Hp) : Prop where
  hp : w.hp = H
  env : EnvR K w ρ σ
  rel : Rel K w
  fr : Fr π w
section
variable {K : PySem.W.Frag} {w w1 : Wd} {ρ : Env} {σ : L2.St} {H : Hp} {π : Id} {j : Nat}
theorem Cfg.cf (c : Cfg K w ρ π σ H) : Cf K w ρ σ H π 0 := ⟨c.hp, c.env, c.rel, fun m _ => c.fr.sub m⟩
theorem Cf.sub (c : Cf K w ρ σ H π j) : Cfg K w ρ (j :: π) σ H := ⟨c.hp, c.env, c.rel, c.fr j (Nat.le_refl j)⟩
theorem Cf.next (c : Cf K w ρ σ H π j) (l : Le w w1) (re : Rel K w1) (o : Out (j :: π) w w1) : Cf K w1 ρ σ w1.hp π (j + 1) :=
  ⟨rfl, c.env.mono c.rel l.toLe0, re, fun m hm => (c.fr m (by omega)).out o (by omega)⟩
theorem Cfg.later (c : Cfg K w ρ π σ H) (l : Le w w1) (re : Rel K w1) (o : Out (0 :: π) w w1) : Cf K w1 ρ σ w1.hp π 1 := c.cf.next l re o
end

/-! ### readings by meanings -/
def TE' (K : PySem.W.Frag) (W : WX) (f : EM) : TE := fun σ H Q => ∃ w ρ π, Cfg K w ρ π σ H ∧ Fin K W σ w π (f ρ π w.st) fun d w' => ∀ v, RD K w' d v → Q v w'.hp
def TT' (K : PySem.W.Frag) (W : WX) (f : BM) : TT := fun σ H Q => ∃ w ρ π, Cfg K w ρ π σ H ∧ Fin K W σ w π (f ρ π w.st) fun b w' => Q b w'.hp
def TA' (K : PySem.W.Frag) (W : WX) (f : AM) : TA := fun σ H Q => ∃ w ρ π, Cfg K w ρ π σ H ∧ Fin K W σ w π (f ρ π w.st) fun ds w' => ∀ vs, RDs K w' ds vs → Q vs w'.hp
abbrev SE (X : Cx) (W : WX) (e : Expr) (f : EM) : Prop := PE X e (TE' X.K W f)
abbrev ST (X : Cx) (W : WX) (e : Expr) (f : BM) : Prop := PT X e (TT' X.K W f)
abbrev SW (X : Cx) (W : WX) (e : Expr) (f : BM) : Prop := PW X e (TT' X.K W f)
abbrev SA (X : Cx) (W : WX) (es : List Expr) (f : AM) : Prop := PA X es (TA' X.K W f)
section
variable {X : Cx}
theorem pe_imp {e : Expr} {t t' : TE} (h : PE X e t) (k : ∀ σ H Q, t' σ H Q → t σ H Q) : PE X e t' := ⟨fun pins s σ H Q I q => h.run pins s σ H Q I (k σ H Q q)⟩
theorem pt_imp {e : Expr} {t t' : TT} (h : PT X e t) (k : ∀ σ H Q, t' σ H Q → t σ H Q) : PT X e t' := ⟨fun pins s σ H Q I q => h.run pins s σ H Q I (k σ H Q q)⟩
theorem pw_imp {e : Expr} {t t' : TT} (h : PW X e t) (k : ∀ σ H Q, t' σ H Q → t σ H Q) : PW X e t' := ⟨fun wh pins s σ H Q I q => h.run wh pins s σ H Q I (k σ H Q q)⟩
theorem pa_imp {es : List Expr} {t t' : TA} (h : PA X es t) (k : ∀ σ H Q, t' σ H Q → t σ H Q) : PA X es t' := ⟨fun pos pins s σ H Q I q => h.run pos pins s σ H Q I (k σ H Q q)⟩
theorem ps_imp {e : Stmt} {t t' : TS} (h : PS X e t) (k : ∀ D σ H, t' D σ H → t D σ H) : PS X e t' := ⟨fun pins s σ H D I q => h.run pins s σ H D I (k D σ H q)⟩
theorem pss_imp {e : List Stmt} {t t' : TS} (h : PSs X e t) (k : ∀ D σ H, t' D σ H → t D σ H) : PSs X e t' := ⟨fun pins s σ H D I q => h.run pins s σ H D I (k D σ H q)⟩
end
section
variable {K : PySem.W.Frag} {W : WX} {σ : L2.St} {w w1 : Wd} {π : Id} {H : Hp} {α : Type}
/-- a pure end -/
theorem Fin.here {a : α} {S : Store} {Q : α → Wd → Prop} (h : Fin K W σ w π (okR a S) Q) (e : w.st = S) (r : Rel K w) : Q a w := h w e (Le.refl w) r (Out.refl π w)
/-- an end behind something new of no name -/
theorem Fin.laid {a : α} {S : Store} {Q : α → Wd → Prop} (h : Fin K W σ w π (okR a S) Q) (e : w.st = S) (r : Rel K w) {p : Addr} {o : HO} (hp : w.hp p = none) : Q a (w.lay p o) :=
  h (w.lay p o) e (le_lay r hp) (rel_lay r hp) (Out.same rfl)
theorem Fin.to {a : α} {S : Store} {Q : α → Wd → Prop} (h : Fin K W σ w π (okR a S) Q) {w' : Wd} (e : w'.st = S) (l : Le w w') (r : Rel K w') (o : Out π w w') : Q a w' := h w' e l r o
end
end MI

set_option Elab.async false
set_option linter.all false
set_option maxRecDepth 100000
set_option maxHeartbeats 2000000
/-! MI, tuples whose object is known to have no dict (for their methods). -/
namespace MI
open PySem PySem.Spec PyProof.Rows L2
section
variable {X : Cx} {pins : List (Addr × Obj)} {σ : L2.St} {H : Hp} {s : Shared}
theorem TupN.ty {a : Addr} {vs : List V} (I : Inv X pins σ H s) (h : TupN X.K H a vs) : s.TypeIs (.ref a) "tuple" ∧ ∀ b, Value.ref a = .ref b → ∃ ob, s.heap.get? b = some ob ∧ ob.dict = none := by
  obtain ⟨its, _, pl, _⟩ := I.tuple h.sq
  refine ⟨pl.typeIs, fun b e => ?_⟩
  cases e
  rcases h with ⟨o, h, hd⟩ | ⟨o, its, n, h1, h2, hd, _⟩
  · obtain ⟨e, _⟩ : s.heap.get? a = some o ∧ ObjOk X.prog X.w H s.heap a (.tup vs) := I.hok a _ h
    exact ⟨o, e, hd⟩
  · exact ⟨o, I.kIn a o h1, hd⟩
/-- what a new tuple's place is told as -/
def nT (us : List Value) (xs : List V) : HO := .frz { cls := .type "tuple", data := .seq us.toArray } (.tup xs)
theorem newT {h : Heap} {us : List Value} {xs : List V} {t : Nat} {g : Array GenState} {d : Drawn} {os : OsState} (I : Inv X pins σ H ⟨h, g, d, t, os⟩) (r : Vals xs us) (z : xs.length ≤ sizeLine) {t' : Nat} :
    Inv X pins σ (upd H h.objs.size (nT us xs)) ⟨h.push { cls := .type "tuple", data := .seq us.toArray }, g, d, t', os⟩ :=
  I.laid (t' := t') (o := nT us xs) (fun b ob q => Heap.get?_push_of_some _ q) (Nat.le_refl _) ⟨Heap.get?_push_size _ rfl, z, us, r, IsTup.new _ _⟩
/-- a wish for a new tuple -/
def NewT (xs : List V) (H : Hp) (Q : VK) : Prop := ∀ p o, o.dict = none → H p = none → Q (.ref p) (upd H p (.frz o (.tup xs)))
theorem NewT.go {Q : VK} {us : List Value} {xs : List V} (h : NewT xs H Q) {p : Addr} (hp : H p = none) : Q (.ref p) (upd H p (nT us xs)) := h p _ rfl hp
def tTupN (t : TA) : TE := fun σ H Q => t σ H fun xs H1 => xs.length ≤ sizeLine ∧ NewT xs H1 Q
theorem pe_tupN {es : List Expr} {t : TA} {pos : Pos} {x1} (h : PA X es t) : PE X (.Tuple es x1 pos) (tTupN t) := by
  refine ⟨fun pins s σ H Q I hq => ?_⟩
  refine wpAny_Tuple_spliced (thn (h.run pos pins s σ H _ I hq) fun us s1 ⟨xs, H1, I1, r, z, q⟩ => ⟨by rw [← r.length]; exact z, ?_⟩)
  obtain ⟨h1, g1, d1, t1, os1⟩ := s1
  exact ⟨.ref h1.objs.size, _, newT I1 r z, rfl, q.go (I1.hok.fresh (Nat.le_refl _))⟩
theorem call_tupleN : CallR X (.type "tuple") (fun xs H Q => ∃ p ys, xs = [.ref p] ∧ ((SqL X.K H p ys ∧ NewT ys H Q) ∨ (SqT X.K H p ys ∧ Q (.ref p) H))) := by
  intro pins s σ H xs us Q I r h
  obtain ⟨p, ys, rfl, h⟩ := h
  obtain ⟨u, rfl, rx⟩ := vals1 r
  cases rx
  rcases h with ⟨hq, q⟩ | ⟨hq, q⟩
  · obtain ⟨its, r', pl, hz⟩ := I.list hq
    have hlen := r'.length
    refine call_tuple_list pl.isList (fun h' kp => ?_) (by simp only [List.size_toArray] <;> omega)
    have I1 : Inv X pins σ H { s with heap := h' } := I.kept (t' := s.toks) kp
    exact ⟨.ref h'.objs.size, _, newT (t' := s.toks) I1 r' hz, rfl, q.go (I1.hok.fresh (Nat.le_refl _))⟩
  · obtain ⟨its, r', pl, hz⟩ := I.tuple hq
    exact call_tuple_same pl ⟨.ref p, H, I, rfl, q⟩
def rCatN (K : PySem.W.Frag) : R2 := fun x y H Q => ∃ a b xs ys, x = .ref a ∧ y = .ref b ∧ SqT K H a xs ∧ SqT K H b ys ∧ xs.length + ys.length ≤ sizeLine ∧
  (xs = [] → Q (.ref b) H) ∧ (ys = [] → Q (.ref a) H) ∧ NewT (xs ++ ys) H Q
theorem op_catN : OpR X (binaryOp .Add) (rCatN X.K) := by
  intro pins s σ H x y v u Q I rx ry h
  obtain ⟨a, b, xs, ys, rfl, rfl, ha, hb, hz, q0, q1, q2⟩ := h
  cases rx
  cases ry
  obtain ⟨its, r1, p1, _⟩ := I.tuple ha
  obtain ⟨its2, r2, p2, _⟩ := I.tuple hb
  by_cases hx : xs = []
  · subst hx
    cases r1
    exact cat_tup0 p1 p2 ⟨.ref b, H, I, rfl, q0 rfl⟩
  · refine HT.cat_tup p1 p2 (fun z => hx (r1.nil_iff.mp z)) (fun z => ⟨.ref a, H, I, rfl, q1 (r2.nil_iff.mp z)⟩) (fun z => ?_) (by rw [← r1.length, ← r2.length]; exact hz)
    obtain ⟨h1, g1, d1, t1, os1⟩ := s
    exact ⟨.ref h1.objs.size, _, newT I (r1.append r2) (by rw [List.length_append]; exact hz), rfl, q2.go (I.hok.fresh (Nat.le_refl _))⟩
def rSlN (K : PySem.W.Frag) : V → Option Int → Option Int → Hp → VK → Prop := fun x lo hi H Q => ∃ a xs, x = .ref a ∧ SqT K H a xs ∧
  (cutV xs lo hi = xs → Q (.ref a) H) ∧ NewT (cutV xs lo hi) H Q
theorem sl_tupN : SlR X (rSlN X.K) := by
  intro pins s σ H x v vl vu lo hi sl Q I rx hs pl pu h
  obtain ⟨a, xs, rfl, hx, q1, q2⟩ := h
  cases rx
  obtain ⟨its, r, ht, hz⟩ := I.tuple hx
  have hlen : its.toArray.size = xs.length := by rw [List.size_toArray]; exact r.length.symm
  refine ⟨"tuple", _, PyProof.Rows.slot_tuple_getitem.lookup, ht.typeIs, ?_⟩
  by_cases hw : HT.sIx xs.length 0 lo = 0 ∧ HT.sIx xs.length xs.length hi = xs.length
  · refine getItem_tuple_whole ht hs pl pu (by rw [hlen]; exact hw) ⟨.ref a, H, I, rfl, q1 ?_⟩
    unfold cutV
    rw [hw.1, hw.2, List.drop_zero, Nat.sub_zero, List.take_length]
  · refine HT.getItem_tuple_cut ht hs pl pu (by rw [hlen]; exact hw) ?_ (by rw [hlen]; exact hz)
    rw [hlen]
    obtain ⟨h1, g1, d1, t1, os1⟩ := s
    exact ⟨.ref h1.objs.size, _, newT I ((r.drop (HT.sIx xs.length 0 lo)).take (HT.sIx xs.length xs.length hi - HT.sIx xs.length 0 lo)) (Nat.le_trans (cutV_length xs lo hi) hz), rfl, q2.go (I.hok.fresh (Nat.le_refl _))⟩
/-- lists of any standing -/
def rCatS (K : PySem.W.Frag) : R2 := fun x y H Q => ∃ l b xs zs, x = .ref l ∧ y = .ref b ∧ SqL K H l xs ∧ SqL K H b zs ∧ xs.length + zs.length ≤ sizeLine ∧ ∀ p, H p = none → Q (.ref p) (upd H p (.lst (xs ++ zs)))
theorem op_catS : OpR X (binaryOp .Add) (rCatS X.K) := by
  intro pins s σ H x y v u Q I rx ry h
  obtain ⟨l, b, xs, zs, rfl, rfl, hH, hB, hz, q⟩ := h
  cases rx
  cases ry
  obtain ⟨its, r, ⟨o1, n, e, c1, d1, k1⟩, z⟩ := I.list hH
  obtain ⟨its2, r2, ⟨o2, n2, e2, c2, d2, k2⟩, z2⟩ := I.list hB
  have hl := r.length
  have hl2 := r2.length
  obtain ⟨c, d, k, sl⟩ := o1
  simp only at c1 d1 k1
  subst c1 d1 k1
  obtain ⟨c, d, k, sl2⟩ := o2
  simp only at c2 d2 k2
  subst c2 d2 k2
  refine concat_meets ⟨_, e, rfl⟩ ⟨_, e2, rfl⟩ noFill_list_add seq_list_add PySem.F.slot_list_add PySem.F.entry_list_add (PySem.F.args_list_add_2 _ _)
    (list_addW l b its.toArray its2.toArray n n2 none none sl sl2 (by rw [List.size_toArray, List.size_toArray]; omega)) ⟨e, e2, ?_⟩
  have ea : its.toArray ++ its2.toArray = (its ++ its2).toArray := by simp
  rw [ea]
  exact ⟨.ref _, _, I.lnew (t' := s.toks) (r.append r2) (by rw [List.length_append]; omega), rfl, q _ I.fresh⟩
end
end MI

set_option Elab.async false
set_option linter.all false
set_option maxRecDepth 100000
set_option maxHeartbeats 2000000
/-! MI, expressions: constants, names, operators, comparisons, tests, displays, arguments. -/
namespace MI
open PySem PySem.Spec PyProof.Rows L2
/-! ### meanings -/
def litM (d : D) : EM := fun _ _ S => okR d S
def varM (i : Nat) : EM := fun ρ _ S => match ρ[i]? with
  | some (some d) => okR d S
  | _ => none
def opM (g : Store → D → D → Option D) (f h : EM) : EM := fun ρ π S => bindR (f ρ (0 :: π) S) fun x S1 => bindR (h ρ (1 :: π) S1) fun y S2 => liftR (g S2 x y) S2
def unM (g : Store → D → Option D) (f : EM) : EM := fun ρ π S => bindR (f ρ (0 :: π) S) fun x S1 => liftR (g S1 x) S1
/-- a list from two -/
def op2L (g : Store → D → D → Option (List D)) (f h : EM) : AM := fun ρ π S => bindR (f ρ (0 :: π) S) fun x S1 => bindR (h ρ (1 :: π) S1) fun y S2 => liftR (g S2 x y) S2
/-- what is made is never changed | is an object of the store -/
def frzM (f : AM) : EM := fun ρ π S => bindR (f ρ (0 :: π) S) fun xs S1 => okR (.lst xs) S1
def stoM (f : AM) : EM := fun ρ π S => bindR (f ρ (0 :: π) S) fun xs S1 => okR (.ref (1 :: π)) (put S1 (1 :: π) (.lst xs))
def tupM (f : AM) : EM := fun ρ π S => bindR (f ρ π S) fun xs S1 => if xs.length ≤ sizeLine then okR (.tup xs) S1 else none
def dispM (f : AM) : AM := fun ρ π S => bindR (f ρ π S) fun xs S1 => if xs.length ≤ sizeLine then okR xs S1 else none
def nilM : AM := fun _ _ S => okR [] S
def consM (f : EM) (fs : AM) : AM := fun ρ π S => bindR (f ρ (0 :: π) S) fun d S1 => bindR (fs ρ (1 :: π) S1) fun ds S2 => okR (d :: ds) S2
/-- a sequence's items -/
def seqD (S : Store) : D → Option (List D)
  | .tup xs => some xs
  | .lst xs => some xs
  | .ref i => (match S i with
    | some (.lst xs) => some xs
    | _ => none)
  | _ => none
def starM (f : EM) (fs : AM) : AM := fun ρ π S => bindR (f ρ (0 :: π) S) fun d S1 => match seqD S1 d with
  | some xs => bindR (fs ρ (1 :: π) S1) fun ds S2 => okR (xs ++ ds) S2
  | none => none
/-- truth -/
def truD (S : Store) : D → Option Bool
  | .non => some false
  | .bl b => some b
  | .int i => some (i != 0)
  | .str x => if x.length ≤ sizeLine then some ((x.length : Int) != 0) else none
  | .tup xs => some (!xs.isEmpty)
  | .lst xs => some (!xs.isEmpty)
  | .ref i => (match S i with
    | some (.lst xs) => some (!xs.isEmpty)
    | some (.dct ks _) => some (!ks.isEmpty)
    | _ => none)
  | _ => none
def truM (f : EM) : BM := fun ρ π S => bindR (f ρ π S) fun d S1 => liftR (truD S1 d) S1
def blM (f : EM) : BM := fun ρ π S => bindR (f ρ π S) fun d S1 => match d with
  | .bl b => okR b S1
  | _ => none
def andB (f g : BM) : BM := fun ρ π S => bindR (f ρ (0 :: π) S) fun b S1 => if b = true then g ρ (1 :: π) S1 else okR false S1
def orB (f g : BM) : BM := fun ρ π S => bindR (f ρ (0 :: π) S) fun b S1 => if b = true then okR true S1 else g ρ (1 :: π) S1
def notB (f : BM) : BM := fun ρ π S => bindR (f ρ π S) fun b S1 => okR (!b) S1
def ifM (c : BM) (f g : EM) : EM := fun ρ π S => bindR (c ρ (0 :: π) S) fun b S1 => if b = true then f ρ (1 :: π) S1 else g ρ (1 :: π) S1
def andE (f g : EM) : EM := fun ρ π S => bindR (f ρ (0 :: π) S) fun d S1 => match truD S1 d with
  | some true => g ρ (1 :: π) S1
  | some false => okR d S1
  | none => none
def orE (f g : EM) : EM := fun ρ π S => bindR (f ρ (0 :: π) S) fun d S1 => match truD S1 d with
  | some true => okR d S1
  | some false => g ρ (1 :: π) S1
  | none => none
def notE (f : EM) : EM := fun ρ π S => bindR (f ρ π S) fun d S1 => match truD S1 d with
  | some b => okR (.bl (!b)) S1
  | none => none
def chainM (g h : Store → D → D → Option D) (a b c : EM) : EM := fun ρ π S => bindR (a ρ (0 :: π) S) fun x S1 => bindR (b ρ (1 :: π) S1) fun y S2 => match g S2 x y with
  | some (.bl true) => bindR (c ρ (2 :: π) S2) fun z S3 => (match h S3 y z with
    | some (.bl r) => okR (.bl r) S3
    | _ => none)
  | some (.bl false) => okR (.bl false) S2
  | _ => none

/-! ### the two kinds of new lists -/
def TN' (K : PySem.W.Frag) (W : WX) (f : AM) : TE := fun σ H Q => ∃ w ρ π, Cfg K w ρ π σ H ∧ Fin K W σ w π (f ρ π w.st) fun ds w' => ∀ p vs, w'.hp p = none → RDs K w' ds vs → Q (.ref p) (upd w'.hp p (.lst vs))
abbrev SN (X : Cx) (W : WX) (e : Expr) (f : AM) : Prop := PE X e (TN' X.K W f)
/-- an operation on values -/
def Rr (K : PySem.W.Frag) (g : Store → D → D → Option D) : R2 := fun x y H Q => ∃ w dx dy d, w.hp = H ∧ Rel K w ∧ RD K w dx x ∧ RD K w dy y ∧ g w.st dx dy = some d ∧
  ∀ w', w'.st = w.st → w'.ph = w.ph → Le w w' → Rel K w' → ∀ v, RD K w' d v → Q v w'.hp
def OpD (X : Cx) (f : Value → Value → Sem Value) (g : Store → D → D → Option D) : Prop := OpR X f (Rr X.K g)
/-- an operation that makes a list -/
def RrL (K : PySem.W.Frag) (g : Store → D → D → Option (List D)) : R2 := fun x y H Q => ∃ w dx dy ds, w.hp = H ∧ Rel K w ∧ RD K w dx x ∧ RD K w dy y ∧ g w.st dx dy = some ds ∧
  ∀ p vs, w.hp p = none → RDs K w ds vs → Q (.ref p) (upd w.hp p (.lst vs))
def OpL (X : Cx) (f : Value → Value → Sem Value) (g : Store → D → D → Option (List D)) : Prop := OpR X f (RrL X.K g)
theorem OpR.imp {X : Cx} {f : Value → Value → Sem Value} {r r' : R2} (h : OpR X f r) (k : ∀ x y H Q, r' x y H Q → r x y H Q) : OpR X f r' := fun pins s σ H x y v u Q I rx ry q => h pins s σ H x y v u Q I rx ry (k x y H Q q)
theorem UnR.imp {X : Cx} {f : Value → Sem Value} {r r' : V → Hp → VK → Prop} (h : UnR X f r) (k : ∀ x H Q, r' x H Q → r x H Q) : UnR X f r' := fun pins s σ H x v Q I rx q => h pins s σ H x v Q I rx (k x H Q q)
theorem OpR.alt {X : Cx} {f : Value → Value → Sem Value} {r r' : R2} (h : OpR X f r) (h' : OpR X f r') : OpR X f fun x y H Q => r x y H Q ∨ r' x y H Q := h.or h'

section
variable {X : Cx} {W : WX} {pos : Pos}
/-! ### constants, names -/
theorem te_lit {K : PySem.W.Frag} {d : D} {v : V} (hd : ∀ w, RD K w d v) : ∀ σ H Q, TE' K W (litM d) σ H Q → tC v σ H Q := by
  intro σ H Q ⟨w, ρ, π, c, h⟩
  have q := Fin.here h rfl c.rel v (hd w)
  rw [c.hp] at q
  exact q
theorem se_int {i : Int} {j} : SE X W (.Constant (.int i) j pos) (litM (.int i)) := pe_imp pe_int (te_lit fun w => by simp only [RD])
theorem se_bl {b : Bool} {j} : SE X W (.Constant (.bool b) j pos) (litM (.bl b)) := pe_imp pe_bl (te_lit fun w => by simp only [RD])
theorem se_non {j} : SE X W (.Constant .none j pos) (litM .non) := pe_imp pe_non (te_lit fun w => by simp only [RD])
theorem se_str {x : Str} {j} : SE X W (.Constant (.str x) j pos) (litM (.str x)) := pe_imp pe_str (te_lit fun w => by simp only [RD])
theorem se_var (i : Nat) {x : Str} (hN : X.N[i]? = some x := by rfl) (hv : Vis X.env.scope x := by first | exact Or.inl rfl | exact Or.inr (Or.inl rfl) | exact Or.inr (Or.inr rfl)) (hd : (x == ("__debug__" : Str)) = false := by decide)
    (hcd : (x == ("__classdict__" : Str)) = false := by decide) : SE X W (.Name x pos) (varM i) := by
  refine pe_imp (pe_var hN hv hd hcd) ?_
  intro σ H Q ⟨w, ρ, π, c, h⟩
  unfold varM at h
  split at h
  · rename_i d e
    obtain ⟨v, e1, r1⟩ := c.env.2 i d e
    have q := Fin.here h rfl c.rel v r1
    rw [c.hp] at q
    exact ⟨v, e1, q⟩
  · exact h.elim
/-- a module's int or text -/
theorem se_glob {x : Str} {d : D} {v : V} (hg : Gl X x) (hm : ∃ u, X.mg x = some u ∧ RelV v u) (hd : ∀ w, RD X.K w d v) (hdb : (x == ("__debug__" : Str)) = false := by decide) : SE X W (.Name x pos) (litM d) := by
  obtain ⟨u, h1, h2⟩ := hm
  exact pe_imp (pe_glob hg h1 h2 hdb) (te_lit hd)

/-! ### operators -/
variable {a b c : Expr} {f g h : EM}
theorem te_op {K : PySem.W.Frag} {r : Store → D → D → Option D} : ∀ σ H Q, TE' K W (opM r f g) σ H Q → tOp (Rr K r) (TE' K W f) (TE' K W g) σ H Q := by
  intro σ H Q ⟨w, ρ, π, c, h⟩
  refine ⟨w, ρ, 0 :: π, c.cf.sub, (Fin.stepL h).mono fun x w1 l1 r1 o1 h1 v1 rv1 => ?_⟩
  refine ⟨w1, ρ, 1 :: π, (c.cf.next l1 r1 o1).sub, (Fin.stepL h1).mono fun y w2 l2 r2 o2 h2 v2 rv2 => ?_⟩
  obtain ⟨d, e, k⟩ := h2.lift
  exact ⟨w2, x, y, d, rfl, r2, RD.mono r1 l2.toLe0 _ _ rv1, rv2, e, fun w' e1 e2 l r v rv => k w' e1 l r (Out.same e2) v rv⟩
theorem te_opL {K : PySem.W.Frag} {r : Store → D → D → Option (List D)} : ∀ σ H Q, TN' K W (op2L r f g) σ H Q → tOp (RrL K r) (TE' K W f) (TE' K W g) σ H Q := by
  intro σ H Q ⟨w, ρ, π, c, h⟩
  refine ⟨w, ρ, 0 :: π, c.cf.sub, (Fin.stepL h).mono fun x w1 l1 r1 o1 h1 v1 rv1 => ?_⟩
  refine ⟨w1, ρ, 1 :: π, (c.cf.next l1 r1 o1).sub, (Fin.stepL h1).mono fun y w2 l2 r2 o2 h2 v2 rv2 => ?_⟩
  obtain ⟨ds, e, k⟩ := h2.lift
  exact ⟨w2, x, y, ds, rfl, r2, RD.mono r1 l2.toLe0 _ _ rv1, rv2, e, fun p vs hp rv => k w2 rfl (Le.refl _) r2 (Out.refl _ _) p vs hp rv⟩
theorem se_op {op : Operator} {r : Store → D → D → Option D} (ho : OpD X (binaryOp op) r) (ha : SE X W a f) (hb : SE X W b g) : SE X W (.BinOp a op b pos) (opM r f g) := pe_imp (pe_op ho ha hb) te_op
theorem sn_op {op : Operator} {r : Store → D → D → Option (List D)} (ho : OpL X (binaryOp op) r) (ha : SE X W a f) (hb : SE X W b g) : SN X W (.BinOp a op b pos) (op2L r f g) := pe_imp (pe_op ho ha hb) te_opL
theorem se_cmp {op : CmpOp} {r : Store → D → D → Option D} (ho : OpD X (compareOp op) r) (ha : SE X W a f) (hb : SE X W b g) (hm : behindInMarks op b = false := by first | rfl | exact nomark _) : SE X W (.Compare a [op] [b] pos) (opM r f g) :=
  pe_imp (pe_cmpR ho ha hb hm) te_op
theorem tt_bl {K : PySem.W.Frag} {m : EM} {t : TE} (h : ∀ σ H Q, TE' K W m σ H Q → t σ H Q) : ∀ σ H Q, TT' K W (blM m) σ H Q → tTest t σ H Q := by
  intro σ H Q ⟨w, ρ, π, c, q⟩
  refine h σ H _ ⟨w, ρ, π, c, q.stepS.mono fun d w1 l1 r1 o1 h1 v rv => ?_⟩
  cases d with
  | bl b =>
    have e : v = V.bl b := by simpa only [RD] using rv
    exact ⟨b, e, Fin.here h1 rfl r1⟩
  | _ => exact h1.elim
theorem st_cmp {op : CmpOp} {r : Store → D → D → Option D} (ho : OpD X (compareOp op) r) (ha : SE X W a f) (hb : SE X W b g) (hm : behindInMarks op b = false := by first | rfl | exact nomark _) : ST X W (.Compare a [op] [b] pos) (blM (opM r f g)) :=
  pt_imp (pt_cmpR ho ha hb hm) (tt_bl te_op)
def UnD (X : Cx) (fn : Value → Sem Value) (g : Store → D → Option D) : Prop := UnR X fn fun x H Q => ∃ w dx d, w.hp = H ∧ Rel X.K w ∧ RD X.K w dx x ∧ g w.st dx = some d ∧ ∀ w', w'.st = w.st → w'.ph = w.ph → Le w w' → Rel X.K w' → ∀ v, RD X.K w' d v → Q v w'.hp
theorem se_un {op : UnaryOp} {r : Store → D → Option D} (ho : UnD X (unaryOp op) r) (ha : SE X W a f) : SE X W (.UnaryOp op a pos) (unM r f) := by
  refine pe_imp (pe_un ho ha) ?_
  intro σ H Q ⟨w, ρ, π, c, h⟩
  refine ⟨w, ρ, 0 :: π, c.cf.sub, (Fin.stepL h).mono fun x w1 l1 r1 o1 h1 v1 rv1 => ?_⟩
  obtain ⟨d, e, k⟩ := h1.lift
  exact ⟨w1, x, d, rfl, r1, rv1, e, fun w' e1 e2 l r v rv => k w' e1 l r (Out.same e2) v rv⟩
/-- a comparison gives True or False -/
def Bl2 (r : Store → D → D → Option D) : Prop := ∀ S x y d, r S x y = some d → ∃ k, d = D.bl k
theorem Fin.bl {K : PySem.W.Frag} {σ : L2.St} {w : Wd} {π : Id} {r : Store → D → D → Option D} (hr : Bl2 r) {x y : D} {S : Store} {α : Type} {kt kf : Rs α} {Q : α → Wd → Prop}
    (h : Fin K W σ w π (match r S x y with
      | some (.bl true) => kt
      | some (.bl false) => kf
      | _ => none) Q) : ∃ k, r S x y = some (D.bl k) ∧ (k = true → Fin K W σ w π kt Q) ∧ (k = false → Fin K W σ w π kf Q) := by
  cases e : r S x y with
  | none => rw [e] at h; exact h.elim
  | some d =>
    obtain ⟨k, ek⟩ := hr _ _ _ _ e
    subst ek
    rw [e] at h
    cases k with
    | true => exact ⟨true, rfl, (fun _ => h), (fun z => by cases z)⟩
    | false => exact ⟨false, rfl, (fun z => by cases z), fun _ => h⟩
/-- a op1 b op2 c -/
theorem te_chain {K : PySem.W.Frag} {r r' : Store → D → D → Option D} (hr : Bl2 r) (hr' : Bl2 r') :
    ∀ σ H Q, TE' K W (chainM r r' f g h) σ H Q → tChain (Rr K r) (Rr K r') (TE' K W f) (TE' K W g) (TE' K W h) σ H Q := by
  intro σ H Q ⟨w, ρ, π, c, hh⟩
  refine ⟨w, ρ, 0 :: π, c.cf.sub, (Fin.stepL hh).mono fun x w1 l1 r1 o1 h1 v1 rv1 => ?_⟩
  have c1 := c.cf.next l1 r1 o1
  refine ⟨w1, ρ, 1 :: π, c1.sub, (Fin.stepL h1).mono fun y w2 l2 r2 o2 h2 v2 rv2 => ?_⟩
  have c2 := c1.next l2 r2 o2
  obtain ⟨k, e, kt, kf⟩ := Fin.bl hr h2
  refine ⟨w2, x, y, D.bl k, rfl, r2, RD.mono r1 l2.toLe0 _ _ rv1, rv2, e, fun w' e1 e2 l rl v rv => ?_⟩
  have ev : v = V.bl k := by simpa only [RD] using rv
  refine ⟨k, ev, ?_⟩
  cases k with
  | false => exact iteF ((kf rfl).okd w' e1 l rl (Out.same e2) _ (by simp only [RD]))
  | true =>
    refine iteT ?_
    have c3 : Cf K w' ρ σ w'.hp π 2 := ⟨rfl, c2.env.mono r2 l.toLe0, rl, fun m hm q => by rw [e2]; exact c2.fr m hm q⟩
    have h3 := Fin.move (kt rfl) l (Out.same e2) (π' := π) fun _ z => z
    rw [← e1] at h3
    refine ⟨w', ρ, 2 :: π, c3.sub, (Fin.stepL h3).mono fun z w4 l4 r4 o4 h4 v4 rv4 => ?_⟩
    cases e' : r' w4.st y z with
    | none => rw [e'] at h4; exact h4.elim
    | some d' =>
      obtain ⟨k', ek'⟩ := hr' _ _ _ _ e'
      subst ek'
      rw [e'] at h4
      exact ⟨w4, y, z, D.bl k', rfl, r4, RD.mono r2 (l.trans l4).toLe0 _ _ rv2, rv4, e', fun w5 e1 e2 l5 r5 v rv => h4 w5 e1 l5 r5 (Out.same e2) v rv⟩
theorem se_chain {op op' : CmpOp} {r r' : Store → D → D → Option D} (ho : OpD X (compareOp op) r) (ho' : OpD X (compareOp op') r') (hr : Bl2 r) (hr' : Bl2 r') (ha : SE X W a f) (hb : SE X W b g) (hc : SE X W c h)
    (hm : lastMarks [op, op'] [b, c] = false := by with_unfolding_all rfl) : SE X W (.Compare a [op, op'] [b, c] pos) (chainM r r' f g h) := pe_imp (pe_chain ho ho' ha hb hc hm) (te_chain hr hr')
theorem st_chain {op op' : CmpOp} {r r' : Store → D → D → Option D} (ho : OpD X (compareOp op) r) (ho' : OpD X (compareOp op') r') (hr : Bl2 r) (hr' : Bl2 r') (ha : SE X W a f) (hb : SE X W b g) (hc : SE X W c h)
    (hm : lastMarks [op, op'] [b, c] = false := by with_unfolding_all rfl) : ST X W (.Compare a [op, op'] [b, c] pos) (blM (chainM r r' f g h)) := pt_imp (pt_chain ho ho' ha hb hc hm) (tt_bl (te_chain hr hr'))

/-! ### truth, and, or, not, if -/
theorem truD_ok {K : PySem.W.Frag} {w : Wd} (r : Rel K w) {d : D} {v : V} {b : Bool} (h : RD K w d v) (e : truD w.st d = some b) : TruV K v w.hp b := by
  cases d with
  | non => simp only [RD] at h; subst h; cases e; rfl
  | bl k => simp only [RD] at h; subst h; cases e; rfl
  | int i => simp only [RD] at h; subst h; cases e; rfl
  | str x =>
    simp only [RD] at h
    subst h
    have e' : (if x.length ≤ sizeLine then some ((x.length : Int) != 0) else none) = some b := e
    split at e'
    · rename_i z; cases e'; exact ⟨z, rfl⟩
    · cases e'
  | ty n => cases e
  | cls n => cases e
  | exc c ns ds => cases e
  | tup ds =>
    simp only [RD] at h
    obtain ⟨a, vs, e1, h1, h2⟩ := h
    subst e1
    cases e
    refine .inr (.inl ⟨vs, h1.sq, ?_⟩)
    have := h2.length
    cases ds <;> cases vs <;> first | rfl | simp at this
  | lst ds =>
    simp only [RD] at h
    obtain ⟨a, vs, e1, h1, h2⟩ := h
    subst e1
    cases e
    refine .inl ⟨vs, ?_, ?_⟩
    · rcases h1 with ⟨h1, _⟩ | h1
      · exact .inl h1
      · exact .inr h1
    · have := h2.length
      cases ds <;> cases vs <;> first | rfl | simp at this
  | dct ks ds => cases e
  | ref i =>
    simp only [RD] at h
    obtain ⟨a, e1, h1⟩ := h
    subst e1
    have e' : (match w.st i with
      | some (.lst xs) => some (!xs.isEmpty)
      | some (.dct ks _) => some (!ks.isEmpty)
      | _ => none) = some b := e
    split at e'
    · rename_i xs q
      obtain ⟨a', e2, vs, e3, h2⟩ := r.ob i _ q
      rw [h1] at e2
      cases e2
      cases e'
      refine .inl ⟨vs, SqL.of e3, ?_⟩
      have := h2.length
      cases xs <;> cases vs <;> first | rfl | simp at this
    · rename_i ks xs q
      obtain ⟨a', e2, kvs, e3, e4, h2⟩ := r.ob i _ q
      rw [h1] at e2
      cases e2
      cases e'
      refine .inr (.inr ⟨kvs, e3, ?_⟩)
      subst e4
      cases kvs <;> rfl
    · cases e'
theorem st_tru (ha : SE X W a f) (he : ∀ whole, isTrue a X.env whole = (do let v ← whole; standAt a.pos; holding [v] (truthy v)) := by intro _; rfl) : ST X W a (truM f) := by
  refine pt_imp (pt_truth ha he) ?_
  intro σ H Q ⟨w, ρ, π, c, q⟩
  refine ⟨w, ρ, π, c, q.stepS.mono fun d w1 l1 r1 o1 h1 v rv => ?_⟩
  obtain ⟨b, e, k⟩ := h1.lift
  exact ⟨b, truD_ok r1 rv e, k w1 rfl (Le.refl _) r1 (Out.refl _ _)⟩
variable {p q : BM} {rest : List Expr}
theorem sw_and1 (ha : ST X W a p) : SW X W (.BoolOp .And [a] pos) p := pw_and1 ha
theorem sw_or1 (ha : ST X W a p) : SW X W (.BoolOp .Or [a] pos) p := pw_or1 ha
theorem sw_and (ha : ST X W a p) (hb : SW X W (.BoolOp .And (b :: rest) pos) q) : SW X W (.BoolOp .And (a :: b :: rest) pos) (andB p q) := by
  refine pw_imp (pw_and ha hb) ?_
  intro σ H Q ⟨w, ρ, π, c, h⟩
  refine ⟨w, ρ, 0 :: π, c.cf.sub, (Fin.stepL h).mono fun k w1 l1 r1 o1 h1 => ?_⟩
  cases k with
  | true => exact iteT ⟨w1, ρ, 1 :: π, (c.cf.next l1 r1 o1).sub, Fin.move h1 (Le.refl _) (Out.refl _ _) fun _ z => z.up⟩
  | false => exact iteF (Fin.here h1 rfl r1)
theorem sw_or (ha : ST X W a p) (hb : SW X W (.BoolOp .Or (b :: rest) pos) q) : SW X W (.BoolOp .Or (a :: b :: rest) pos) (orB p q) := by
  refine pw_imp (pw_or ha hb) ?_
  intro σ H Q ⟨w, ρ, π, c, h⟩
  refine ⟨w, ρ, 0 :: π, c.cf.sub, (Fin.stepL h).mono fun k w1 l1 r1 o1 h1 => ?_⟩
  cases k with
  | false => exact iteF ⟨w1, ρ, 1 :: π, (c.cf.next l1 r1 o1).sub, Fin.move h1 (Le.refl _) (Out.refl _ _) fun _ z => z.up⟩
  | true => exact iteT (Fin.here h1 rfl r1)
theorem st_w {e : Expr} (h : SW X W e p) : ST X W e p := h.pt
theorem st_not (ha : ST X W a p) : ST X W (.UnaryOp .Not a pos) (notB p) := by
  refine pt_imp (pt_not ha) ?_
  intro σ H Q ⟨w, ρ, π, c, h⟩
  exact ⟨w, ρ, π, c, h.stepS.mono fun k w1 l1 r1 o1 h1 => Fin.here h1 rfl r1⟩
theorem se_if (hc : ST X W c p) (ha : SE X W a f) (hb : SE X W b g) : SE X W (.IfExp c a b pos) (ifM p f g) := by
  refine pe_imp (pe_ifExp hc ha hb) ?_
  intro σ H Q ⟨w, ρ, π, c, h⟩
  refine ⟨w, ρ, 0 :: π, c.cf.sub, (Fin.stepL h).mono fun k w1 l1 r1 o1 h1 => ?_⟩
  cases k with
  | true => exact iteT ⟨w1, ρ, 1 :: π, (c.cf.next l1 r1 o1).sub, Fin.move h1 (Le.refl _) (Out.refl _ _) fun _ z => z.up⟩
  | false => exact iteF ⟨w1, ρ, 1 :: π, (c.cf.next l1 r1 o1).sub, Fin.move h1 (Le.refl _) (Out.refl _ _) fun _ z => z.up⟩
theorem se_one {op} (h : SE X W a f) : SE X W (.BoolOp op [a] pos) f := pe_one h
theorem Fin.tru {K : PySem.W.Frag} {σ : L2.St} {w : Wd} {π : Id} {d : D} {S : Store} {α : Type} {kt kf : Rs α} {Q : α → Wd → Prop}
    (h : Fin K W σ w π (match truD S d with
      | some true => kt
      | some false => kf
      | none => none) Q) : ∃ k, truD S d = some k ∧ (k = true → Fin K W σ w π kt Q) ∧ (k = false → Fin K W σ w π kf Q) := by
  cases e : truD S d with
  | none => rw [e] at h; exact h.elim
  | some k =>
    rw [e] at h
    cases k with
    | true => exact ⟨true, rfl, (fun _ => h), (fun z => by cases z)⟩
    | false => exact ⟨false, rfl, (fun z => by cases z), (fun _ => h)⟩
theorem se_and (ha : SE X W a f) (hb : SE X W (.BoolOp .And (b :: rest) pos) g) : SE X W (.BoolOp .And (a :: b :: rest) pos) (andE f g) := by
  refine pe_imp (pe_andT ha hb) ?_
  intro σ H Q ⟨w, ρ, π, c, h⟩
  refine ⟨w, ρ, 0 :: π, c.cf.sub, (Fin.stepL h).mono fun d w1 l1 r1 o1 h1 v rv => ?_⟩
  obtain ⟨k, e, kt, kf⟩ := Fin.tru h1
  refine ⟨k, truD_ok r1 rv e, ?_⟩
  cases k with
  | true => exact iteT ⟨w1, ρ, 1 :: π, (c.cf.next l1 r1 o1).sub, Fin.move (kt rfl) (Le.refl _) (Out.refl _ _) fun _ z => z.up⟩
  | false => exact iteF (Fin.here (kf rfl) rfl r1 v rv)
theorem se_or (ha : SE X W a f) (hb : SE X W (.BoolOp .Or (b :: rest) pos) g) : SE X W (.BoolOp .Or (a :: b :: rest) pos) (orE f g) := by
  refine pe_imp (pe_orT ha hb) ?_
  intro σ H Q ⟨w, ρ, π, c, h⟩
  refine ⟨w, ρ, 0 :: π, c.cf.sub, (Fin.stepL h).mono fun d w1 l1 r1 o1 h1 v rv => ?_⟩
  obtain ⟨k, e, kt, kf⟩ := Fin.tru h1
  refine ⟨k, truD_ok r1 rv e, ?_⟩
  cases k with
  | false => exact iteF ⟨w1, ρ, 1 :: π, (c.cf.next l1 r1 o1).sub, Fin.move (kf rfl) (Le.refl _) (Out.refl _ _) fun _ z => z.up⟩
  | true => exact iteT (Fin.here (kt rfl) rfl r1 v rv)
theorem se_not (ha : SE X W a f) : SE X W (.UnaryOp .Not a pos) (notE f) := by
  refine pe_imp (pe_notT ha) ?_
  intro σ H Q ⟨w, ρ, π, c, h⟩
  refine ⟨w, ρ, π, c, h.stepS.mono fun d w1 l1 r1 o1 h1 v rv => ?_⟩
  have h1' : Fin X.K W σ w1 π (match truD w1.st d with
    | some b => okR (D.bl (!b)) w1.st
    | none => none) _ := h1
  cases e : truD w1.st d with
  | none => rw [e] at h1'; exact h1'.elim
  | some k =>
    rw [e] at h1'
    exact ⟨k, truD_ok r1 rv e, Fin.here h1' rfl r1 _ (by simp only [RD])⟩

/-! ### arguments, displays -/
variable {e : Expr} {es : List Expr} {fs : AM}
theorem sa_nil : SA X W [] nilM := by
  refine pa_imp pa_nil ?_
  intro σ H Q ⟨w, ρ, π, c, h⟩
  have q := Fin.here h rfl c.rel [] .nil
  rw [c.hp] at q
  exact q
theorem sa_cons (ha : SE X W e f) (hr : SA X W es fs) (hs : starEach (e :: es) X.env = (false, eval e X.env) :: starEach es X.env := by rfl) : SA X W (e :: es) (consM f fs) := by
  refine pa_imp (pa_cons ha hr hs) ?_
  intro σ H Q ⟨w, ρ, π, c, h⟩
  refine ⟨w, ρ, 0 :: π, c.cf.sub, (Fin.stepL h).mono fun d w1 l1 r1 o1 h1 v rv => ?_⟩
  refine ⟨w1, ρ, 1 :: π, (c.cf.next l1 r1 o1).sub, (Fin.stepL h1).mono fun ds w2 l2 r2 o2 h2 vs rvs => ?_⟩
  exact Fin.here h2 rfl r2 (v :: vs) (.cons (RD.mono r1 l2.toLe0 _ _ rv) rvs)
theorem seqD_ok {K : PySem.W.Frag} {w : Wd} (r : Rel K w) {d : D} {v : V} {ds : List D} (h : RD K w d v) (e : seqD w.st d = some ds) : ∃ a vs, v = .ref a ∧ (SqT K w.hp a vs ∨ SqL K w.hp a vs) ∧ RDs K w ds vs := by
  cases d with
  | tup xs =>
    simp only [RD] at h
    obtain ⟨a, vs, e1, h1, h2⟩ := h
    cases e
    exact ⟨a, vs, e1, .inl h1.sq, h2⟩
  | lst xs =>
    simp only [RD] at h
    obtain ⟨a, vs, e1, h1, h2⟩ := h
    cases e
    refine ⟨a, vs, e1, .inr ?_, h2⟩
    rcases h1 with ⟨h1, _⟩ | h1
    · exact .inl h1
    · exact .inr h1
  | ref i =>
    simp only [RD] at h
    obtain ⟨a, e1, h1⟩ := h
    have e' : (match w.st i with
      | some (.lst xs) => some xs
      | _ => none) = some ds := e
    split at e'
    · cases e'
      rename_i q
      obtain ⟨a', e2, vs, e3, h2⟩ := r.ob i _ q
      rw [h1] at e2
      cases e2
      exact ⟨a, vs, e1, .inr (SqL.of e3), h2⟩
    · cases e'
  | _ => cases e
theorem sa_star {p2 : Pos} (ha : SE X W e f) (hr : SA X W es fs) (hs : starEach (.Starred e p2 :: es) X.env = (true, eval e X.env) :: starEach es X.env := by rfl) : SA X W (.Starred e p2 :: es) (starM f fs) := by
  refine pa_imp (StX.pa_star ha hr hs) ?_
  intro σ H Q ⟨w, ρ, π, c, h⟩
  refine ⟨w, ρ, 0 :: π, c.cf.sub, (Fin.stepL h).mono fun d w1 l1 r1 o1 h1 v rv => ?_⟩
  cases e : seqD w1.st d with
  | none => simp only [e] at h1; exact h1.elim
  | some xs =>
    simp only [e] at h1
    obtain ⟨a, vs, ev, hq, rvs⟩ := seqD_ok r1 rv e
    refine ⟨a, vs, ev, hq, w1, ρ, 1 :: π, (c.cf.next l1 r1 o1).sub, (Fin.stepL h1).mono fun ds w2 l2 r2 o2 h2 us rus => ?_⟩
    exact Fin.here h2 rfl r2 (vs ++ us) ((RDs.mono r1 l2.toLe0 _ _ rvs).append rus)
theorem se_tup {x1} (h : SA X W es fs) : SE X W (.Tuple es x1 pos) (tupM fs) := by
  refine pe_imp (pe_tupN h) ?_
  intro σ H Q ⟨w, ρ, π, c, h⟩
  refine ⟨w, ρ, π, c, h.stepS.mono fun ds w1 l1 r1 o1 h1 vs rvs => ?_⟩
  by_cases z : ds.length ≤ sizeLine
  · simp only [if_pos z] at h1
    refine ⟨by rw [← rvs.length]; exact z, fun p o ho hp => ?_⟩
    refine Fin.laid h1 rfl r1 hp _ ?_
    simp only [RD]
    exact ⟨p, vs, rfl, .inl ⟨o, upd_same, ho⟩, RDs.mono r1 (le_lay r1 hp).toLe0 _ _ rvs⟩
  · simp only [if_neg z] at h1
    exact h1.elim
theorem sn_lst (h : SA X W es fs) : SN X W (.List es pos) (dispM fs) := by
  refine pe_imp (pe_lst h) ?_
  intro σ H Q ⟨w, ρ, π, c, h⟩
  refine ⟨w, ρ, π, c, h.stepS.mono fun ds w1 l1 r1 o1 h1 vs rvs => ?_⟩
  by_cases z : ds.length ≤ sizeLine
  · simp only [if_pos z] at h1
    exact ⟨by rw [← rvs.length]; exact z, fun p hp => Fin.here h1 rfl r1 p vs hp rvs⟩
  · simp only [if_neg z] at h1
    exact h1.elim
theorem se_frz (h : SN X W e fs) : SE X W e (frzM fs) := by
  refine pe_imp h ?_
  intro σ H Q ⟨w, ρ, π, c, h⟩
  refine ⟨w, ρ, 0 :: π, c.cf.sub, (Fin.stepL h).mono fun ds w1 l1 r1 o1 h1 p vs hp rvs => ?_⟩
  refine Fin.laid h1 rfl r1 hp _ ?_
  simp only [RD]
  exact ⟨p, vs, rfl, .inl ⟨.inl upd_same, dead_lay r1 hp⟩, RDs.mono r1 (le_lay r1 hp).toLe0 _ _ rvs⟩
theorem se_sto (h : SN X W e fs) : SE X W e (stoM fs) := by
  refine pe_imp h ?_
  intro σ H Q ⟨w, ρ, π, c, h⟩
  refine ⟨w, ρ, 0 :: π, c.cf.sub, (Fin.stepL h).mono fun ds w1 l1 r1 o1 h1 p vs hp rvs => ?_⟩
  have c1 := c.cf.next l1 r1 o1
  have hn : w1.ph (1 :: π) = none := c1.fr 1 (Nat.le_refl 1) []
  refine h1.okd (w1.new (1 :: π) p (.lst ds) (.lst vs)) rfl (le_new r1 hn hp) (rel_new r1 hn hp ⟨vs, upd_same, RDs.mono r1 (le_new r1 hn hp).toLe0 _ _ rvs⟩) (fun i hi => if_neg (hi [1])) _ ?_
  simp only [RD]
  exact ⟨p, rfl, if_pos rfl⟩
end
end MI

set_option Elab.async false
set_option linter.all false
set_option maxRecDepth 100000
set_option maxHeartbeats 2000000
/-! MI, the operators on data. -/
namespace MI
open PySem PySem.Spec PyProof.Rows L2
/-! ### arithmetic -/
def addD (_ : Store) : D → D → Option D
  | .int i, .int j => some (.int (i + j))
  | .str a, .str b => if a.length + b.length ≤ sizeLine then some (.str (a ++ b)) else none
  | .tup xs, .tup ys => if xs.length + ys.length ≤ sizeLine then some (.tup (xs ++ ys)) else none
  | _, _ => none
def subD (_ : Store) : D → D → Option D
  | .int i, .int j => some (.int (i - j))
  | _, _ => none
instance (i j : Int) : Decidable (CMul i j) := by unfold CMul; infer_instance
instance (i j : Int) : Decidable (CDiv i j) := by unfold CDiv; infer_instance
instance (i j : Int) : Decidable (CPow i j) := by unfold CPow; infer_instance
def mulD (_ : Store) : D → D → Option D
  | .int i, .int j => if CMul i j then some (.int (i * j)) else none
  | _, _ => none
def fdivD (_ : Store) : D → D → Option D
  | .int i, .int j => if CDiv i j then some (.int (i / j)) else none
  | _, _ => none
def modD (_ : Store) : D → D → Option D
  | .int i, .int j => if 0 < j then some (.int (i % j)) else none
  | _, _ => none
def powD (_ : Store) : D → D → Option D
  | .int i, .int j => if CPow i j then some (.int (i ^ j.toNat)) else none
  | _, _ => none
def negD (_ : Store) : D → Option D
  | .int i => some (.int (-i))
  | _ => none
/-! ### comparisons -/
def intB (p : Int → Int → Bool) (_ : Store) : D → D → Option D
  | .int i, .int j => some (.bl (p i j))
  | _, _ => none
abbrev ltD := intB fun i j => decide (i < j)
abbrev leD := intB fun i j => decide (i ≤ j)
abbrev gtD := intB fun i j => decide (j < i)
abbrev geD := intB fun i j => decide (j ≤ i)
def isNon : D → Bool
  | .non => true
  | _ => false
def isND (_ : Store) : D → D → Option D
  | x, .non => some (.bl (isNon x))
  | _, _ => none
def notND (_ : Store) : D → D → Option D
  | x, .non => some (.bl (!isNon x))
  | _, _ => none
/-- a value as plain data, lists of the store as they stand -/
def toP (S : Store) : Nat → D → Option PyData
  | 0, _ => none
  | _ + 1, .non => some .none
  | _ + 1, .bl b => some (.bool b)
  | _ + 1, .int i => some (.int i)
  | _ + 1, .str x => some (.str x)
  | n + 1, .tup xs => (xs.mapM (toP S n)).map .tuple
  | n + 1, .lst xs => (xs.mapM (toP S n)).map .list
  | n + 1, .ref i => (match S i with
    | some (.lst xs) => (xs.mapM (toP S n)).map .list
    | _ => none)
  | _ + 1, _ => none
def eqGen (neg : Bool) (S : Store) (x y : D) : Option D := match toP S 8 x, toP S 8 y with
  | some a, some b => if SeqAt.shaped a && SeqAt.shaped b then some (.bl (if neg then !PyData.eqv a b else PyData.eqv a b)) else none
  | _, _ => none
def eqD (S : Store) (x y : D) : Option D := match x, y with
  | .int i, .int j => some (.bl (decide (i = j)))
  | .str a, .str b => some (.bl (decide (a = b)))
  | .bl a, .bl b => some (.bl (decide (a = b)))
  | .non, .non => some (.bl true)
  | .non, .int _ => some (.bl false)
  | .int _, .non => some (.bl false)
  | .non, .str _ => some (.bl false)
  | .str _, .non => some (.bl false)
  | .int _, .str _ => some (.bl false)
  | .str _, .int _ => some (.bl false)
  | x, y => eqGen false S x y
def neD (S : Store) (x y : D) : Option D := match x, y with
  | .int i, .int j => some (.bl (!decide (i = j)))
  | .str a, .str b => some (.bl (!decide (a = b)))
  | .bl a, .bl b => some (.bl (!decide (a = b)))
  | .non, .non => some (.bl false)
  | .non, .int _ => some (.bl true)
  | .int _, .non => some (.bl true)
  | .non, .str _ => some (.bl true)
  | .str _, .non => some (.bl true)
  | .int _, .str _ => some (.bl true)
  | .str _, .int _ => some (.bl true)
  | x, y => eqGen true S x y

section
variable {K : PySem.W.Frag} {w : Wd}
theorem dpAll_of {S : Store} {n : Nat} (ih : ∀ d v p, RD K w d v → toP S n d = some p → Dp K w.hp v p) : ∀ (ds : List D) (vs : List V) (ps : List PyData), RDs K w ds vs → ds.mapM (toP S n) = some ps → DpAll K w.hp vs ps
  | [], vs, ps, h, e => by
    have e1 := h.of_nil
    subst e1
    simp at e
    subst e
    exact .nil
  | d :: ds, vs, ps, h, e => by
    obtain ⟨v, r, e1, h1, h2⟩ := h.of_cons
    subst e1
    rw [List.mapM_cons] at e
    cases e2 : toP S n d with
    | none => rw [e2] at e; cases e
    | some p =>
      rw [e2] at e
      cases e3 : ds.mapM (toP S n) with
      | none => rw [e3] at e; cases e
      | some qs =>
        rw [e3] at e
        cases e
        exact .cons (ih d v p h1 e2) (dpAll_of ih ds r qs h2 e3)
theorem toP_ok (r : Rel K w) : ∀ (n : Nat) (d : D) (v : V) (p : PyData), RD K w d v → toP w.st n d = some p → Dp K w.hp v p
  | 0, _, _, _, _, e => by cases e
  | n + 1, .non, v, p, h, e => by simp only [RD] at h; subst h; cases e; exact .non
  | n + 1, .bl b, v, p, h, e => by simp only [RD] at h; subst h; cases e; exact .bl b
  | n + 1, .int b, v, p, h, e => by simp only [RD] at h; subst h; cases e; exact .int b
  | n + 1, .str b, v, p, h, e => by simp only [RD] at h; subst h; cases e; exact .str b
  | n + 1, .ty _, v, p, h, e => by cases e
  | n + 1, .dct _ _, v, p, h, e => by cases e
  | n + 1, .tup ds, v, p, h, e => by
    simp only [RD] at h
    obtain ⟨a, vs, e1, h1, h2⟩ := h
    subst e1
    have e' : (ds.mapM (toP w.st n)).map PyData.tuple = some p := e
    cases e2 : ds.mapM (toP w.st n) with
    | none => rw [e2] at e'; cases e'
    | some ps =>
      rw [e2] at e'
      cases e'
      exact .tup h1.sq (dpAll_of (toP_ok r n) ds vs ps h2 e2)
  | n + 1, .lst ds, v, p, h, e => by
    simp only [RD] at h
    obtain ⟨a, vs, e1, h1, h2⟩ := h
    subst e1
    have e' : (ds.mapM (toP w.st n)).map PyData.list = some p := e
    cases e2 : ds.mapM (toP w.st n) with
    | none => rw [e2] at e'; cases e'
    | some ps =>
      rw [e2] at e'
      cases e'
      refine .lst ?_ (dpAll_of (toP_ok r n) ds vs ps h2 e2)
      rcases h1 with ⟨h1, _⟩ | h1
      · exact .inl h1
      · exact .inr h1
  | n + 1, .ref i, v, p, h, e => by
    simp only [RD] at h
    obtain ⟨a, e1, h1⟩ := h
    subst e1
    have e' : (match w.st i with
      | some (.lst xs) => (xs.mapM (toP w.st n)).map PyData.list
      | _ => none) = some p := e
    split at e'
    · rename_i xs q
      obtain ⟨a', e2, vs, e3, h2⟩ := r.ob i _ q
      rw [h1] at e2
      cases e2
      cases e4 : xs.mapM (toP w.st n) with
      | none => rw [e4] at e'; cases e'
      | some ps =>
        rw [e4] at e'
        cases e'
        exact .lst (SqL.of e3) (dpAll_of (toP_ok r n) xs vs ps h2 e4)
    · cases e'
end
section
variable {X : Cx}
theorem rr_end {K : PySem.W.Frag} {w : Wd} {d : D} {v : V} {H : Hp} {Q : VK} (hp : w.hp = H) (r : Rel K w) (k : ∀ w', w'.st = w.st → w'.ph = w.ph → Le w w' → Rel K w' → ∀ v, RD K w' d v → Q v w'.hp) (h : RD K w d v) : Q v H := by
  subst hp
  exact k w rfl rfl (Le.refl _) r v h
theorem op_addD : OpD X (binaryOp .Add) addD := by
  refine OpR.imp (OpR.alt op_add (OpR.alt op_add_str op_catN)) ?_
  rintro x y H Q ⟨w, dx, dy, d, hp, r, h1, h2, e, k⟩
  cases dx with
  | int i =>
    cases dy with
    | int j =>
      simp only [RD] at h1 h2
      cases e
      exact .inl ⟨i, j, h1, h2, rr_end hp r k (by simp only [RD])⟩
    | _ => cases e
  | str a =>
    cases dy with
    | str b =>
      simp only [RD] at h1 h2
      have e' : (if a.length + b.length ≤ sizeLine then some (D.str (a ++ b)) else none) = some d := e
      split at e'
      · rename_i z
        cases e'
        exact .inr (.inl ⟨a, b, h1, h2, z, rr_end hp r k (by simp only [RD])⟩)
      · cases e'
    | _ => cases e
  | tup xs =>
    cases dy with
    | tup ys =>
      have e' : (if xs.length + ys.length ≤ sizeLine then some (D.tup (xs ++ ys)) else none) = some d := e
      split at e'
      · rename_i z
        cases e'
        simp only [RD] at h1 h2
        obtain ⟨a, vs, e1, p1, q1⟩ := h1
        obtain ⟨b, us, e2, p2, q2⟩ := h2
        have l1 := q1.length
        have l2 := q2.length
        subst hp
        refine .inr (.inr ⟨a, b, vs, us, e1, e2, p1.sq, p2.sq, by omega, fun z => ?_, fun z => ?_, fun p o ho hn => ?_⟩)
        · subst z
          cases xs with
          | nil => exact rr_end rfl r k (by simp only [RD, List.nil_append]; exact ⟨b, us, rfl, p2, q2⟩)
          | cons _ _ => simp at l1
        · subst z
          cases ys with
          | nil => exact rr_end rfl r k (by simp only [RD, List.append_nil]; exact ⟨a, vs, rfl, p1, q1⟩)
          | cons _ _ => simp at l2
        · refine k (w.lay p (.frz o (.tup (vs ++ us)))) rfl rfl (le_lay r hn) (rel_lay r hn) _ ?_
          simp only [RD]
          exact ⟨p, vs ++ us, rfl, .inl ⟨o, upd_same, ho⟩, RDs.mono r (le_lay r hn).toLe0 _ _ (q1.append q2)⟩
      · cases e'
    | _ => cases e
  | _ => cases e
theorem op_int {fn : Value → Value → Sem Value} {C : Int → Int → Prop} [∀ i j, Decidable (C i j)] {g : Int → Int → D} {g' : Int → Int → V} {r : Store → D → D → Option D} (h : OpR X fn (rI C g')) (hg : ∀ K w i j, RD K w (g i j) (g' i j))
    (e : ∀ S x y d, r S x y = some d → ∃ i j, x = .int i ∧ y = .int j ∧ C i j ∧ d = g i j) : OpD X fn r := by
  refine OpR.imp h ?_
  rintro x y H Q ⟨w, dx, dy, d, hp, r, h1, h2, er, k⟩
  obtain ⟨i, j, e1, e2, hc, e3⟩ := e _ _ _ _ er
  subst e1 e2 e3
  simp only [RD] at h1 h2
  exact ⟨i, j, h1, h2, hc, rr_end hp r k (hg _ _ i j)⟩
theorem rI_of {fn : Value → Value → Sem Value} {g : Int → Int → V} (h : OpR X fn (rI0 g)) : OpR X fn (rI (fun _ _ => True) g) := OpR.imp h fun x y H Q ⟨i, j, e1, e2, _, q⟩ => ⟨i, j, e1, e2, q⟩
theorem int2 {r : Int → Int → Option D} {x y d : D} {F : D → D → Option D} (hF : F x y = some d) (h0 : ∀ i j, F (.int i) (.int j) = r i j) (h1 : ∀ x y, (∀ i j, ¬ (x = D.int i ∧ y = D.int j)) → F x y = none) : ∃ i j, x = .int i ∧ y = .int j ∧ r i j = some d := by
  by_cases q : ∃ i j, x = D.int i ∧ y = D.int j
  · obtain ⟨i, j, e1, e2⟩ := q
    subst e1 e2
    exact ⟨i, j, rfl, rfl, by rw [← h0]; exact hF⟩
  · rw [h1 x y fun i j z => q ⟨i, j, z⟩] at hF
    cases hF
theorem op_subD : OpD X (binaryOp .Sub) subD := op_int (C := fun _ _ => True) (g := fun i j => .int (i - j)) (rI_of op_sub) (fun K w i j => by simp only [RD]) fun S x y d e => by
  cases x with
  | int i =>
    cases y with
    | int j => cases e; exact ⟨i, j, rfl, rfl, trivial, rfl⟩
    | _ => cases e
  | _ => cases e
theorem op_if {C : Int → Int → Prop} [∀ i j, Decidable (C i j)] {g : Int → Int → D} {i j : Int} {d : D} (e : (if C i j then some (g i j) else none) = some d) : C i j ∧ d = g i j := by
  split at e
  · rename_i z
    cases e
    exact ⟨z, rfl⟩
  · cases e
theorem op_mulD : OpD X (binaryOp .Mult) mulD := op_int (C := CMul) (g := fun i j => .int (i * j)) op_mul (fun K w i j => by simp only [RD]) fun S x y d e => by
  cases x with
  | int i =>
    cases y with
    | int j => obtain ⟨h1, h2⟩ := op_if (C := CMul) (g := fun i j => .int (i * j)) e; exact ⟨i, j, rfl, rfl, h1, h2⟩
    | _ => cases e
  | _ => cases e
theorem op_fdivD : OpD X (binaryOp .FloorDiv) fdivD := op_int (C := CDiv) (g := fun i j => .int (i / j)) op_fdiv (fun K w i j => by simp only [RD]) fun S x y d e => by
  cases x with
  | int i =>
    cases y with
    | int j => obtain ⟨h1, h2⟩ := op_if (C := CDiv) (g := fun i j => .int (i / j)) e; exact ⟨i, j, rfl, rfl, h1, h2⟩
    | _ => cases e
  | _ => cases e
theorem op_modD : OpD X (binaryOp .Mod) modD := op_int (C := fun _ j => 0 < j) (g := fun i j => .int (i % j)) op_mod (fun K w i j => by simp only [RD]) fun S x y d e => by
  cases x with
  | int i =>
    cases y with
    | int j => obtain ⟨h1, h2⟩ := op_if (C := fun _ j => 0 < j) (g := fun i j => .int (i % j)) e; exact ⟨i, j, rfl, rfl, h1, h2⟩
    | _ => cases e
  | _ => cases e
theorem op_powD : OpD X (binaryOp .Pow) powD := op_int (C := CPow) (g := fun i j => .int (i ^ j.toNat)) op_pow (fun K w i j => by simp only [RD]) fun S x y d e => by
  cases x with
  | int i =>
    cases y with
    | int j => obtain ⟨h1, h2⟩ := op_if (C := CPow) (g := fun i j => .int (i ^ j.toNat)) e; exact ⟨i, j, rfl, rfl, h1, h2⟩
    | _ => cases e
  | _ => cases e
theorem un_negD : UnD X (unaryOp .USub) negD := by
  refine UnR.imp un_neg ?_
  rintro x H Q ⟨w, dx, d, hp, r, h1, e, k⟩
  cases dx with
  | int i =>
    simp only [RD] at h1
    cases e
    exact ⟨i, h1, rr_end hp r k (by simp only [RD])⟩
  | _ => cases e
theorem op_intB {op : CmpOp} {p : Int → Int → Bool} (h : OpR X (compareOp op) (rI0 fun i j => .bl (p i j))) : OpD X (compareOp op) (intB p) := op_int (C := fun _ _ => True) (g := fun i j => .bl (p i j)) (rI_of h) (fun K w i j => by simp only [RD]) fun S x y d e => by
  cases x with
  | int i =>
    cases y with
    | int j => cases e; exact ⟨i, j, rfl, rfl, trivial, rfl⟩
    | _ => cases e
  | _ => cases e
theorem op_ltD : OpD X (compareOp .Lt) ltD := op_intB op_lt
theorem op_leD : OpD X (compareOp .LtE) leD := op_intB op_le
theorem op_gtD : OpD X (compareOp .Gt) gtD := op_intB op_gt
theorem op_geD : OpD X (compareOp .GtE) geD := op_intB op_ge
theorem bl2_intB {p : Int → Int → Bool} : Bl2 (intB p) := fun S x y d e => by
  cases x with
  | int i =>
    cases y with
    | int j => cases e; exact ⟨_, rfl⟩
    | _ => cases e
  | _ => cases e
theorem RD.isNon {K : PySem.W.Frag} {w : Wd} {d : D} {v : V} (h : RD K w d v) : decide (v = .non) = MI.isNon d := by
  unfold MI.isNon
  cases d with
  | tup ds => simp only [RD] at h; obtain ⟨a, vs, e, _⟩ := h; subst e; simp
  | lst ds => simp only [RD] at h; obtain ⟨a, vs, e, _⟩ := h; subst e; simp
  | dct ks ds => simp only [RD] at h; obtain ⟨a, vs, e, _⟩ := h; subst e; simp
  | ref i => simp only [RD] at h; obtain ⟨a, e, _⟩ := h; subst e; simp
  | exc c ns ds => simp only [RD] at h; obtain ⟨a, e, _⟩ := h; subst e; simp
  | _ => simp only [RD] at h; subst h; simp
theorem op_isND : OpD X (compareOp .Is) isND := by
  refine OpR.imp op_isN ?_
  rintro x y H Q ⟨w, dx, dy, d, hp, r, h1, h2, e, k⟩
  have e0 : dy = .non ∧ d = D.bl (MI.isNon dx) := by
    cases dy <;> first | (cases dx <;> cases e; done) | skip
    cases dx <;> cases e <;> exact ⟨rfl, rfl⟩
  obtain ⟨e1, e2⟩ := e0
  subst e1 e2
  have h2' : y = V.non := by simpa only [RD] using h2
  refine ⟨h2', rr_end hp r k ?_⟩
  simp only [RD]
  rw [RD.isNon h1]
theorem op_notND : OpD X (compareOp .IsNot) notND := by
  refine OpR.imp op_notN ?_
  rintro x y H Q ⟨w, dx, dy, d, hp, r, h1, h2, e, k⟩
  have e0 : dy = .non ∧ d = D.bl (!MI.isNon dx) := by
    cases dy <;> first | (cases dx <;> cases e; done) | skip
    cases dx <;> cases e <;> exact ⟨rfl, rfl⟩
  obtain ⟨e1, e2⟩ := e0
  subst e1 e2
  have h2' : y = V.non := by simpa only [RD] using h2
  refine ⟨h2', rr_end hp r k ?_⟩
  simp only [RD]
  rw [RD.isNon h1]
theorem eqGen_ok {neg : Bool} {w : Wd} {K : PySem.W.Frag} (r : Rel K w) {dx dy d : D} {x y : V} (h1 : RD K w dx x) (h2 : RD K w dy y) (e : eqGen neg w.st dx dy = some d) :
    ∃ a b, Dp K w.hp x a ∧ Dp K w.hp y b ∧ SeqAt.shaped a = true ∧ SeqAt.shaped b = true ∧ d = .bl (if neg then !PyData.eqv a b else PyData.eqv a b) := by
  unfold eqGen at e
  split at e
  · rename_i a b ea eb
    split at e
    · rename_i z
      cases e
      obtain ⟨z1, z2⟩ := Bool.and_eq_true_iff.mp z
      exact ⟨a, b, toP_ok r _ _ _ _ h1 ea, toP_ok r _ _ _ _ h2 eb, z1, z2, rfl⟩
    · cases e
  · cases e
theorem op_eqDD (hu : X.A.units + 64 < cLine) : OpD X (compareOp .Eq) eqD := by
  refine OpR.imp (OpR.alt op_eq (L2.op_eqD hu)) ?_
  rintro x y H Q ⟨w, dx, dy, d, hp, r, h1, h2, e, k⟩
  have gen : eqGen false w.st dx dy = some d → rEq x y H Q ∨ rEqD X.K x y H Q := fun e => by
    obtain ⟨a, b, p1, p2, s1, s2, e3⟩ := eqGen_ok r h1 h2 e
    subst e3
    subst hp
    exact .inr ⟨a, b, p1, p2, s1, s2, rr_end rfl r k (by simp only [RD]; rfl)⟩
  have sc : ∀ b, scal x y = true → d = .bl b → decide (x = y) = b → rEq x y H Q ∨ rEqD X.K x y H Q := fun b s e1 e2 => by
    subst e1
    exact .inl ⟨s, rr_end hp r k (by simp only [RD]; rw [e2])⟩
  unfold eqD at e
  split at e
  case h_11 => exact gen e
  all_goals
    simp only [RD] at h1 h2
    subst h1 h2
    cases e
    refine sc _ rfl rfl ?_
    simp
theorem op_neDD (hu : X.A.units + 64 < cLine) : OpD X (compareOp .NotEq) neD := by
  refine OpR.imp (OpR.alt op_ne (L2.op_neD hu)) ?_
  rintro x y H Q ⟨w, dx, dy, d, hp, r, h1, h2, e, k⟩
  have gen : eqGen true w.st dx dy = some d → rNe x y H Q ∨ rNeD X.K x y H Q := fun e => by
    obtain ⟨a, b, p1, p2, s1, s2, e3⟩ := eqGen_ok r h1 h2 e
    subst e3
    subst hp
    exact .inr ⟨a, b, p1, p2, s1, s2, rr_end rfl r k (by simp only [RD]; rfl)⟩
  have sc : ∀ b, scal x y = true → d = .bl b → (!decide (x = y)) = b → rNe x y H Q ∨ rNeD X.K x y H Q := fun b s e1 e2 => by
    subst e1
    exact .inl ⟨s, rr_end hp r k (by simp only [RD]; rw [e2])⟩
  unfold neD at e
  split at e
  case h_11 => exact gen e
  all_goals
    simp only [RD] at h1 h2
    subst h1 h2
    cases e
    refine sc _ rfl rfl ?_
    simp
/-! ### lists made -/
def catL (S : Store) (x y : D) : Option (List D) := match x, y with
  | .tup _, _ => none
  | _, .tup _ => none
  | x, y => match seqD S x, seqD S y with
    | some xs, some ys => if xs.length + ys.length ≤ sizeLine then some (xs ++ ys) else none
    | _, _ => none
theorem seqL_ok {K : PySem.W.Frag} {w : Wd} (r : Rel K w) {d : D} {v : V} {ds : List D} (h : RD K w d v) (e : seqD w.st d = some ds) (n : ∀ xs, d ≠ .tup xs) : ∃ a vs, v = .ref a ∧ SqL K w.hp a vs ∧ RDs K w ds vs := by
  cases d with
  | tup xs => exact absurd rfl (n xs)
  | lst xs =>
    simp only [RD] at h
    obtain ⟨a, vs, e1, h1, h2⟩ := h
    cases e
    refine ⟨a, vs, e1, ?_, h2⟩
    rcases h1 with ⟨h1, _⟩ | h1
    · exact .inl h1
    · exact .inr h1
  | ref i =>
    simp only [RD] at h
    obtain ⟨a, e1, h1⟩ := h
    have e' : (match w.st i with
      | some (.lst xs) => some xs
      | _ => none) = some ds := e
    split at e'
    · cases e'
      rename_i q
      obtain ⟨a', e2, vs, e3, h2⟩ := r.ob i _ q
      rw [h1] at e2
      cases e2
      exact ⟨a, vs, e1, SqL.of e3, h2⟩
    · cases e'
  | _ => cases e
theorem op_catL : OpL X (binaryOp .Add) catL := by
  refine OpR.imp op_catS ?_
  rintro x y H Q ⟨w, dx, dy, ds, hp, r, h1, h2, e, k⟩
  unfold catL at e
  split at e
  · cases e
  · cases e
  · rename_i n1 n2
    split at e
    · rename_i xs ys ex ey
      split at e
      · rename_i z
        cases e
        obtain ⟨a, vs, e1, q1, r1⟩ := seqL_ok r h1 ex fun xs z => n1 xs z
        obtain ⟨b, us, e2, q2, r2⟩ := seqL_ok r h2 ey fun xs z => n2 xs z
        subst hp
        have l1 := r1.length
        have l2 := r2.length
        exact ⟨a, b, vs, us, e1, e2, q1, q2, by omega, fun p hp => k p _ hp (r1.append r2)⟩
      · cases e
    · cases e
end
end MI

set_option Elab.async false
set_option linter.all false
set_option maxRecDepth 100000
set_option maxHeartbeats 2000000
/-! MI, statements: blocks, names, targets, if, while, return, stores. -/
namespace MI
open PySem PySem.Spec PyProof.Rows L2
/-- how a statement ends -/
inductive Fl where
  | nx | rt (d : D) | bk | ct | ex (e : Exc)
abbrev SR := Option (Fl × Env × Store)
abbrev SM := Env → Id → Store → SR
abbrev GM := D → SM
abbrev GsM := List D → SM
def exS {α : Type} (m : Rs α) (ρ : Env) (k : α → Store → SR) : SR := match m with
  | none => none
  | some (.ex e, S) => some (.ex e, ρ, S)
  | some (.ok a, S) => k a S
@[simp] theorem exS_ok {α : Type} (a : α) (S : Store) (ρ : Env) (k : α → Store → SR) : exS (okR a S) ρ k = k a S := rfl
@[simp] theorem exS_ok' {α : Type} (a : α) (S : Store) (ρ : Env) (k : α → Store → SR) : exS (some (.ok a, S)) ρ k = k a S := rfl
@[simp] theorem exS_ex {α : Type} (e : Exc) (S : Store) (ρ : Env) (k : α → Store → SR) : exS (some (.ex e, S) : Rs α) ρ k = some (.ex e, ρ, S) := rfl
@[simp] theorem exS_none {α : Type} (ρ : Env) (k : α → Store → SR) : exS (none : Rs α) ρ k = none := rfl
def bindS (m : SR) (k : Env → Store → SR) : SR := match m with
  | some (.nx, ρ, S) => k ρ S
  | r => r
@[simp] theorem bindS_nx (ρ : Env) (S : Store) (k : Env → Store → SR) : bindS (some (.nx, ρ, S)) k = k ρ S := rfl
@[simp] theorem bindS_rt (d : D) (ρ : Env) (S : Store) (k : Env → Store → SR) : bindS (some (.rt d, ρ, S)) k = some (.rt d, ρ, S) := rfl
@[simp] theorem bindS_ex (e : Exc) (ρ : Env) (S : Store) (k : Env → Store → SR) : bindS (some (.ex e, ρ, S)) k = some (.ex e, ρ, S) := rfl
@[simp] theorem bindS_bk (ρ : Env) (S : Store) (k : Env → Store → SR) : bindS (some (.bk, ρ, S)) k = some (.bk, ρ, S) := rfl
@[simp] theorem bindS_ct (ρ : Env) (S : Store) (k : Env → Store → SR) : bindS (some (.ct, ρ, S)) k = some (.ct, ρ, S) := rfl
@[simp] theorem bindS_none (k : Env → Store → SR) : bindS none k = none := rfl
/-- a target's store: goes on or raises -/
def nxO (m : SR) : SR := match m with
  | some (.nx, ρ, S) => some (.nx, ρ, S)
  | some (.ex e, ρ, S) => some (.ex e, ρ, S)
  | _ => none
@[simp] theorem nxO_nx (ρ : Env) (S : Store) : nxO (some (.nx, ρ, S)) = some (.nx, ρ, S) := rfl
@[simp] theorem nxO_ex (e : Exc) (ρ : Env) (S : Store) : nxO (some (.ex e, ρ, S)) = some (.ex e, ρ, S) := rfl
@[simp] theorem nxO_none : nxO none = none := rfl
/-! ### meanings -/
def passS : SM := fun ρ _ S => some (.nx, ρ, S)
def seqS (f g : SM) : SM := fun ρ π S => bindS (f ρ (0 :: π) S) fun ρ1 S1 => g ρ1 (1 :: π) S1
def breakS : SM := fun ρ _ S => some (.bk, ρ, S)
def contS : SM := fun ρ _ S => some (.ct, ρ, S)
def exprS (f : EM) : SM := fun ρ π S => exS (f ρ π S) ρ fun _ S1 => some (.nx, ρ, S1)
def retS (f : EM) : SM := fun ρ π S => exS (f ρ π S) ρ fun d S1 => some (.rt d, ρ, S1)
def retN : SM := fun ρ _ S => some (.rt .non, ρ, S)
def ifS (c : BM) (f g : SM) : SM := fun ρ π S => exS (c ρ (0 :: π) S) ρ fun b S1 => if b = true then f ρ (1 :: π) S1 else g ρ (1 :: π) S1
def asgS (f : EM) (g : GM) : SM := fun ρ π S => exS (f ρ (0 :: π) S) ρ fun d S1 => nxO (g d ρ (1 :: π) S1)
def neverS : SM := fun _ _ _ => none
def nameG (i : Nat) : GM := fun d ρ _ S => some (.nx, ρ.set i (some d), S)
def gsNil : GsM := fun ds ρ _ S => match ds with
  | [] => some (.nx, ρ, S)
  | _ => none
def gsCons (g : GM) (gs : GsM) : GsM := fun ds ρ π S => match ds with
  | d :: r => bindS (g d ρ (0 :: π) S) fun ρ1 S1 => gs r ρ1 (1 :: π) S1
  | [] => none
def tupG (n : Nat) (gs : GsM) : GM := fun d ρ π S => match seqD S d with
  | some xs => if xs.length = n then gs xs ρ π S else none
  | none => none
def parS (is : List Nat) (f : AM) : SM := fun ρ π S => exS (f ρ π S) ρ fun ds S1 => if ds.length = is.length then some (.nx, (is.zip ds).foldl (fun r p => r.set p.1 (some p.2)) ρ, S1) else none
/-- dicts as two lists -/
def keyD : D → Option Key
  | .int i => some (.inl i)
  | .str s => some (.inr s)
  | _ => none
def valD : List Key → List D → Key → Option D
  | k :: ks, d :: ds, j => if k = j then some d else valD ks ds j
  | _, _, _ => none
def setV : List Key → List D → Key → D → List D
  | k :: ks, d :: ds, j, x => (if k = j then x else d) :: setV ks ds j x
  | _, _, _, _ => []
/-- o[i] = v -/
def setOb (i v : D) : Ob → Option Ob
  | .lst xs => (match i with
    | .int k => (ixN xs.length k).map fun j => .lst (xs.set j v)
    | _ => none)
  | .dct ks vs => (match keyD i with
    | some k => if ks.length < sizeLine then some (if (valD ks vs k).isSome = true then .dct ks (setV ks vs k v) else .dct (ks ++ [k]) (vs ++ [v])) else none
    | none => none)
  | .ins _ _ _ => none
def setD (S : Store) (o i v : D) : Option Store := match o with
  | .ref a => (match S a with
    | some ob => (setOb i v ob).map (put S a)
    | none => none)
  | _ => none
def subG (f g : EM) : GM := fun v ρ π S => exS (f ρ (0 :: π) S) ρ fun o S1 => exS (g ρ (1 :: π) S1) ρ fun i S2 => match setD S2 o i v with
  | some S3 => some (.nx, ρ, S3)
  | none => none
/-- while, n turns at most -/
def whileN (c : BM) (b : SM) : Nat → SM
  | 0, _, _, _ => none
  | n + 1, ρ, π, S => exS (c ρ (0 :: π) S) ρ fun k S1 => if k = true then (match b ρ (1 :: π) S1 with
      | some (.nx, ρ2, S2) => whileN c b n ρ2 (2 :: π) S2
      | some (.ct, ρ2, S2) => whileN c b n ρ2 (2 :: π) S2
      | some (.bk, ρ2, S2) => some (.nx, ρ2, S2)
      | r => r) else some (.nx, ρ, S1)
open Classical in
noncomputable def whileS (c : BM) (b : SM) : SM := fun ρ π S => if h : ∃ n, (whileN c b n ρ π S).isSome = true then whileN c b (Classical.choose h) ρ π S else none

/-! ### wishes -/
def FinS (K : PySem.W.Frag) (W : WX) (E : Ends) (w : Wd) (π : Id) (r : SR) : Prop := match r with
  | none => False
  | some (f, ρ', S') => ∀ w' σ', w'.st = S' → Le w w' → Rel K w' → Out π w w' → EnvR K w' ρ' σ' → match f with
    | .nx => E.nx σ' w'.hp
    | .rt d => ∀ v, RD K w' d v → E.rt v w'.hp
    | .bk => E.bk σ' w'.hp
    | .ct => E.ct σ' w'.hp
    | .ex e => ∀ c dd, ExR K w' e c dd → W c dd σ' w'.hp
section
variable {K : PySem.W.Frag} {W : WX} {σ : L2.St} {w w1 : Wd} {π : Id} {α : Type} {E : Ends} {ρ : Env}
theorem FinS.move {r : SR} {π' : Id} (h : FinS K W E w π r) (l : Le w w1) (o : Out π w w1) (u : ∀ w', Out π' w1 w' → Out π w1 w') : FinS K W E w1 π' r := by
  unfold FinS at h ⊢
  split at h
  · exact h
  · exact fun w' σ' e l' re o' en => h w' σ' e (l.trans l') re (o.trans (u w' o')) en
theorem FinS.imp {r : SR} {E' : Ends} (h : FinS K W E w π r) (hn : ∀ w' ρ' σ', Le w w' → Rel K w' → Out π w w' → EnvR K w' ρ' σ' → E.nx σ' w'.hp → E'.nx σ' w'.hp) (hr : ∀ v H, E.rt v H → E'.rt v H) (hb : ∀ s H, E.bk s H → E'.bk s H) (hc : ∀ s H, E.ct s H → E'.ct s H) : FinS K W E' w π r := by
  unfold FinS at h ⊢
  split at h
  · exact h
  · rename_i f ρ' S'
    intro w' σ' e l re o en
    have q := h w' σ' e l re o en
    cases f with
    | nx => exact hn w' ρ' σ' l re o en q
    | rt d => exact fun v rv => hr _ _ (q v rv)
    | bk => exact hb _ _ q
    | ct => exact hc _ _ q
    | ex e => exact q
/-- an expression first -/
theorem FinS.exS {r : Rs α} {k : α → Store → SR} {n : Nat} (h : FinS K W E w π (MI.exS r ρ k)) (en : EnvR K w ρ σ) (rw' : Rel K w) : Fin K W σ w (n :: π) r fun a w1 => FinS K W E w1 π (k a w1.st) := by
  cases r with
  | none => exact h
  | some p =>
    obtain ⟨x, S'⟩ := p
    cases x with
    | ok a =>
      intro w1 e l re o
      subst e
      exact FinS.move (show FinS K W E w π (k a w1.st) from h) l o.up fun _ z => z
    | ex e =>
      intro w1 e1 l re o c dd x
      exact h w1 σ e1 l re o.up (en.mono rw' l.toLe0) c dd x
theorem FinS.exS0 {r : Rs α} {k : α → Store → SR} (h : FinS K W E w π (MI.exS r ρ k)) (en : EnvR K w ρ σ) (rw' : Rel K w) : Fin K W σ w π r fun a w1 => FinS K W E w1 π (k a w1.st) := by
  cases r with
  | none => exact h
  | some p =>
    obtain ⟨x, S'⟩ := p
    cases x with
    | ok a =>
      intro w1 e l re o
      subst e
      exact FinS.move (show FinS K W E w π (k a w1.st) from h) l o fun _ z => z
    | ex e =>
      intro w1 e1 l re o c dd x
      exact h w1 σ e1 l re o (en.mono rw' l.toLe0) c dd x
/-- a statement first -/
def nxE (K : PySem.W.Frag) (E : Ends) (w : Wd) (π : Id) (k : Env → Wd → Prop) : Ends := { E with nx := fun σ' H' => ∃ w1 ρ1, w1.hp = H' ∧ EnvR K w1 ρ1 σ' ∧ Rel K w1 ∧ Le w w1 ∧ Out π w w1 ∧ k ρ1 w1 }
theorem FinS.bind {r : SR} {k : Env → Store → SR} {n : Nat} (h : FinS K W E w π (bindS r k)) : FinS K W (nxE K E w (n :: π) fun ρ1 w1 => FinS K W E w1 π (k ρ1 w1.st)) w (n :: π) r := by
  cases r with
  | none => exact h
  | some p =>
    obtain ⟨f, ρ', S'⟩ := p
    intro w1 σ1 e l re o en
    cases f with
    | nx =>
      subst e
      exact ⟨w1, ρ', rfl, en, re, l, o, FinS.move (show FinS K W E w π (k ρ' w1.st) from h) l o.up fun _ z => z⟩
    | rt d => exact h w1 σ1 e l re o.up en
    | bk => exact h w1 σ1 e l re o.up en
    | ct => exact h w1 σ1 e l re o.up en
    | ex x => exact h w1 σ1 e l re o.up en
theorem FinS.nx {S : Store} (h : FinS K W E w π (some (.nx, ρ, S))) (e : w.st = S) (r : Rel K w) (en : EnvR K w ρ σ) : E.nx σ w.hp := h w σ e (Le.refl w) r (Out.refl π w) en
theorem Cf.nextE {H : Hp} {ρ1 : Env} {σ1 : L2.St} {j : Nat} (c : Cf K w ρ σ H π j) (re : Rel K w1) (o : Out (j :: π) w w1) (en : EnvR K w1 ρ1 σ1) : Cf K w1 ρ1 σ1 w1.hp π (j + 1) :=
  ⟨rfl, en, re, fun m hm => (c.fr m (by omega)).out o (by omega)⟩
end
theorem FinS.nxO {K : PySem.W.Frag} {W : WX} {w : Wd} {π : Id} {E : Ends} {r : SR} (h : FinS K W E w π (MI.nxO r)) : FinS K W { nx := E.nx, rt := fun _ _ => False } w π r := by
  cases r with
  | none => exact h
  | some p =>
    obtain ⟨f, ρ', S'⟩ := p
    cases f with
    | nx => exact h
    | ex e => exact h
    | _ => exact h.elim
def TS' (K : PySem.W.Frag) (W : WX) (f : SM) : TS := fun E σ H => ∃ w ρ π, Cfg K w ρ π σ H ∧ FinS K W E w π (f ρ π w.st)
def gE (Q : L2.St → Hp → Prop) : Ends := { nx := Q, rt := fun _ _ => False }
def TG' (K : PySem.W.Frag) (W : WX) (g : GM) : TG := fun v σ H Q => ∃ w ρ π d, Cfg K w ρ π σ H ∧ RD K w d v ∧ FinS K W (gE Q) w π (g d ρ π w.st)
def TGs' (K : PySem.W.Frag) (W : WX) (g : GsM) : TGs := fun vs σ H Q => ∃ w ρ π ds, Cfg K w ρ π σ H ∧ RDs K w ds vs ∧ FinS K W (gE Q) w π (g ds ρ π w.st)
abbrev SS (X : Cx) (W : WX) (st : Stmt) (f : SM) : Prop := PS X st (TS' X.K W f)
abbrev SSs (X : Cx) (W : WX) (sts : List Stmt) (f : SM) : Prop := PSs X sts (TS' X.K W f)
abbrev SG (X : Cx) (W : WX) (t : Expr) (g : GM) : Prop := PG X t (TG' X.K W g)
abbrev SGs (X : Cx) (W : WX) (ts : List Expr) (g : GsM) : Prop := PGs X ts (TGs' X.K W g)
section
variable {X : Cx} {W : WX} {pos : Pos} {st : Stmt} {rest sa sb : List Stmt} {f g : SM} {e : Expr} {fe : EM}
theorem pg_imp {t : Expr} {u u' : TG} (h : PG X t u) (k : ∀ v σ H Q, u' v σ H Q → u v σ H Q) : PG X t u' := ⟨fun pins s σ H v x Q I r q => h.run pins s σ H v x Q I r (k v σ H Q q)⟩
theorem pg_or {t : Expr} {u u' : TG} (h : PG X t u) (h' : PG X t u') : PG X t (fun v σ H Q => u v σ H Q ∨ u' v σ H Q) := ⟨fun pins s σ H v x Q I r q => q.elim (h.run pins s σ H v x Q I r) (h'.run pins s σ H v x Q I r)⟩
theorem pgs_imp {t : List Expr} {u u' : TGs} (h : PGs X t u) (k : ∀ v σ H Q, u' v σ H Q → u v σ H Q) : PGs X t u' := ⟨fun pins s σ H v x Q I r q => h.run pins s σ H v x Q I r (k v σ H Q q)⟩
/-- the end of a statement that leaves the slots as they are -/
theorem Cfg.nx {K : PySem.W.Frag} {w : Wd} {ρ : Env} {π : Id} {σ : L2.St} {H : Hp} {E : Ends} {S : Store} (c : Cfg K w ρ π σ H) (h : FinS K W E w π (some (.nx, ρ, S))) (e : w.st = S) : E.nx σ H := by
  have q := h.nx e c.rel c.env
  rw [c.hp] at q
  exact q
theorem ss_nil : SSs X W [] passS := pss_imp pss_nil fun E σ H ⟨w, ρ, π, c, h⟩ => c.nx h rfl
theorem ss_pass : SS X W (.Pass pos) passS := ps_imp ps_pass fun E σ H ⟨w, ρ, π, c, h⟩ => c.nx h rfl
theorem ss_doc {x j pos'} : SS X W (.Expr (.Constant (.str x) j pos) pos') passS := ps_imp ps_doc fun E σ H ⟨w, ρ, π, c, h⟩ => c.nx h rfl
theorem ss_break : SS X W (.Break pos) breakS := ps_imp ps_break fun E σ H ⟨w, ρ, π, c, h⟩ => by
  have q := h w σ rfl (Le.refl w) c.rel (Out.refl π w) c.env
  rw [c.hp] at q
  exact q
theorem ss_cont : SS X W (.Continue pos) contS := ps_imp ps_continue fun E σ H ⟨w, ρ, π, c, h⟩ => by
  have q := h w σ rfl (Le.refl w) c.rel (Out.refl π w) c.env
  rw [c.hp] at q
  exact q
theorem ss_never : SS X W st neverS := ps_imp ps_never fun E σ H ⟨w, ρ, π, c, h⟩ => h
theorem ss_cons (h1 : SS X W st f) (h2 : SSs X W rest g) : SSs X W (st :: rest) (seqS f g) := by
  refine pss_imp (pss_cons h1 h2) ?_
  intro E σ H ⟨w, ρ, π, c, h⟩
  refine ⟨w, ρ, 0 :: π, c.cf.sub, (FinS.bind h).imp ?_ (fun _ _ z => z) (fun _ _ z => z) (fun _ _ z => z)⟩
  rintro w' ρ' σ' l re o en ⟨w1, ρ1, e1, en1, re1, l1, o1, h1⟩
  have c1 := c.cf.nextE re1 o1 en1
  rw [← e1]
  exact ⟨w1, ρ1, 1 :: π, c1.sub, h1.move (Le.refl _) (Out.refl _ _) fun _ z => z.up⟩
theorem ss_one (h1 : SS X W st f) : SSs X W [st] f := pss_one h1
theorem ss_expr (he : SE X W e fe) (hs : swapsWith e none pos.line X.env = pure false := by rfl) : SS X W (.Expr e pos) (exprS fe) := by
  refine ps_imp (ps_expr he hs) ?_
  intro E σ H ⟨w, ρ, π, c, h⟩
  exact ⟨w, ρ, π, c, (FinS.exS0 h c.env c.rel).mono fun d w1 l1 r1 o1 h1 v rv => h1.nx rfl r1 (c.env.mono c.rel l1.toLe0)⟩
theorem ss_ret (he : SE X W e fe) : SS X W (.Return (some e) pos) (retS fe) := by
  refine ps_imp (ps_ret he) ?_
  intro E σ H ⟨w, ρ, π, c, h⟩
  exact ⟨w, ρ, π, c, (FinS.exS0 h c.env c.rel).mono fun d w1 l1 r1 o1 h1 v rv => h1 w1 σ rfl (Le.refl _) r1 (Out.refl _ _) (c.env.mono c.rel l1.toLe0) v rv⟩
theorem ss_retN : SS X W (.Return none pos) retN := ps_imp ps_retN fun E σ H ⟨w, ρ, π, c, h⟩ => by
  have q := h w σ rfl (Le.refl w) c.rel (Out.refl π w) c.env .non (by simp only [RD])
  rw [c.hp] at q
  exact q
theorem ss_if {c : Expr} {fc : BM} (hc : ST X W c fc) (ha : SSs X W sa f) (hb : SSs X W sb g) : SS X W (.If c sa sb pos) (ifS fc f g) := by
  refine ps_imp (ps_if hc ha hb) ?_
  intro E σ H ⟨w, ρ, π, c, h⟩
  refine ⟨w, ρ, 0 :: π, c.cf.sub, (FinS.exS h c.env c.rel).mono fun k w1 l1 r1 o1 h1 => ?_⟩
  have c1 := (c.cf.next l1 r1 o1).sub
  cases k with
  | true => exact iteT ⟨w1, ρ, 1 :: π, c1, h1.move (Le.refl _) (Out.refl _ _) fun _ z => z.up⟩
  | false => exact iteF ⟨w1, ρ, 1 :: π, c1, h1.move (Le.refl _) (Out.refl _ _) fun _ z => z.up⟩

/-! ### targets -/
variable {t : Expr} {ts : List Expr} {gm : GM} {gs : GsM}
theorem sg_name (i : Nat) {x : Str} (hN : X.N.Nodup) (hi : X.N[i]? = some x) (hx : Loc X.env.scope x) (hf : X.fn x = true ∨ X.env.scope.names.lookup x = some .local := by first | exact .inl rfl | exact .inr rfl | assumption) : SG X W (.Name x pos) (nameG i) := by
  refine pg_imp (pg_name hN hi hx hf) ?_
  intro v σ H Q ⟨w, ρ, π, d, c, rv, h⟩
  have q := h.nx rfl c.rel (c.env.set i rv)
  rw [c.hp] at q
  exact q
theorem sgs_nil : SGs X W [] gsNil := by
  refine pgs_imp pgs_nil ?_
  intro vs σ H Q ⟨w, ρ, π, ds, c, rv, h⟩
  cases ds with
  | nil => exact ⟨rv.of_nil, c.nx h rfl⟩
  | cons d r => exact h.elim
theorem sgs_cons (h1 : SG X W t gm) (h2 : SGs X W ts gs) (hs : (assignEach (t :: ts) X.env).map (·.2) = assign t X.env :: (assignEach ts X.env).map (·.2) := by rfl) : SGs X W (t :: ts) (gsCons gm gs) := by
  refine pgs_imp (pgs_cons h1 h2 hs) ?_
  intro vs σ H Q ⟨w, ρ, π, ds, c, rv, h⟩
  cases ds with
  | nil => exact h.elim
  | cons d r =>
    obtain ⟨v, vr, e, r1, r2⟩ := rv.of_cons
    refine ⟨v, vr, e, w, ρ, 0 :: π, d, c.cf.sub, r1, (FinS.bind h).imp ?_ (fun _ _ z => z) (fun _ _ z => z) (fun _ _ z => z)⟩
    rintro w' ρ' σ' l re o en ⟨w1, ρ1, e1, en1, re1, l1, o1, h1⟩
    have c1 := c.cf.nextE re1 o1 en1
    rw [← e1]
    exact ⟨w1, ρ1, 1 :: π, r, c1.sub, RDs.mono c.rel l1.toLe0 _ _ r2, h1.move (Le.refl _) (Out.refl _ _) fun _ z => z.up⟩
theorem sg_tup {k : Nat} {n : Nat} (hc : X.calm = true) (h : SGs X W ts gs) (hn : (assignEach ts X.env).length = n := by rfl) (hst : (assignEach ts X.env).findIdx? (·.1) = none := by rfl) : SG X W (.Tuple ts k pos) (tupG n gs) := by
  refine pg_imp (pg_or (pg_tup hc h hn hst) (pg_lst hc h hn hst)) ?_
  intro v σ H Q ⟨w, ρ, π, d, c, rv, h⟩
  unfold tupG at h
  cases e : seqD w.st d with
  | none => rw [e] at h; exact h.elim
  | some xs =>
    rw [e] at h
    by_cases hl : xs.length = n
    · simp only [if_pos hl] at h
      obtain ⟨a, vs, ev, hq, rvs⟩ := seqD_ok c.rel rv e
      rw [c.hp] at hq
      rcases hq with hq | hq
      · exact .inl ⟨a, vs, ev, hq, by rw [← rvs.length]; exact hl, w, ρ, π, xs, c, rvs, h⟩
      · exact .inr ⟨a, vs, ev, hq, by rw [← rvs.length]; exact hl, w, ρ, π, xs, c, rvs, h⟩
    · simp only [if_neg hl] at h
      exact h.elim
theorem ss_asg (he : SE X W e fe) (hg : SG X W t gm) (hs : swapsWithSole [t] e pos.line X.env = pure false := by rfl) (hw : swappedStores [t] e X.env = pure none := by rfl)
    (h1 : (assignEach [t] X.env).map (·.2) = [assign t X.env] := by rfl) : SS X W (.Assign [t] e pos) (asgS fe gm) := by
  refine ps_imp (ps_asg he hg hs hw h1) ?_
  intro E σ H ⟨w, ρ, π, c, h⟩
  refine ⟨w, ρ, 0 :: π, c.cf.sub, (FinS.exS h c.env c.rel).mono fun d w1 l1 r1 o1 h1 v rv => ?_⟩
  have c1 := (c.cf.next l1 r1 o1).sub
  refine ⟨w1, ρ, 1 :: π, d, c1, rv, ?_⟩
  exact (h1.move (π' := 1 :: π) (Le.refl _) (Out.refl _ _) fun _ z => z.up).nxO
theorem ss_par2 {i j : Nat} {x y : Str} {a b : Expr} {fa : AM} {px py pt : Pos} {kt k2 pt2} (hc : X.calm = true) (hN : X.N.Nodup) (hi : X.N[i]? = some x) (hj : X.N[j]? = some y) (hij : i ≠ j)
    (hx : X.env.scope.names.lookup x = some .local) (hy : X.env.scope.names.lookup y = some .local) (ha : SA X W [a, b] fa)
    (hw : swappedStores [.Tuple [.Name x px, .Name y py] kt pt] (.Tuple [a, b] k2 pt2) X.env = pure (some [x, y]))
    (hs : swapsWithSole [.Tuple [.Name x px, .Name y py] kt pt] (.Tuple [a, b] k2 pt2) pos.line X.env = pure false := by rfl) :
    SS X W (.Assign [.Tuple [.Name x px, .Name y py] kt pt] (.Tuple [a, b] k2 pt2) pos) (parS [i, j] fa) := by
  refine ps_imp (ps_par hc hN hi hj hij hx hy ha hw hs) ?_
  intro E σ H ⟨w, ρ, π, c, h⟩
  refine ⟨w, ρ, π, c, (FinS.exS0 h c.env c.rel).mono fun ds w1 l1 r1 o1 h1 vs rvs => ?_⟩
  by_cases hl : ds.length = [i, j].length
  · rw [if_pos hl] at h1
    match ds, hl, rvs with
    | [d1, d2], _, rvs =>
      obtain ⟨v1, r, e1, q1, rvs⟩ := rvs.of_cons
      obtain ⟨v2, r, e2, q2, rvs⟩ := rvs.of_cons
      have e3 := rvs.of_nil
      subst e1 e2 e3
      exact ⟨v1, v2, rfl, h1.nx rfl r1 (((c.env.mono c.rel l1.toLe0).set i q1).set j q2)⟩
  · rw [if_neg hl] at h1
    exact h1.elim
theorem ss_par3 {i j l : Nat} {x y z : Str} {a b d : Expr} {fa : AM} {px py pz pt : Pos} {kt k2 pt2} (hc : X.calm = true) (hN : X.N.Nodup) (hi : X.N[i]? = some x) (hj : X.N[j]? = some y) (hl : X.N[l]? = some z) (hij : i ≠ j) (hil : i ≠ l) (hjl : j ≠ l)
    (hx : X.env.scope.names.lookup x = some .local) (hy : X.env.scope.names.lookup y = some .local) (hz : X.env.scope.names.lookup z = some .local) (ha : SA X W [a, b, d] fa)
    (hw : swappedStores [.Tuple [.Name x px, .Name y py, .Name z pz] kt pt] (.Tuple [a, b, d] k2 pt2) X.env = pure (some [x, y, z]))
    (hs : swapsWithSole [.Tuple [.Name x px, .Name y py, .Name z pz] kt pt] (.Tuple [a, b, d] k2 pt2) pos.line X.env = pure false := by rfl) :
    SS X W (.Assign [.Tuple [.Name x px, .Name y py, .Name z pz] kt pt] (.Tuple [a, b, d] k2 pt2) pos) (parS [i, j, l] fa) := by
  refine ps_imp (ps_par3 hc hN hi hj hl hij hil hjl hx hy hz ha hw hs) ?_
  intro E σ H ⟨w, ρ, π, c, h⟩
  refine ⟨w, ρ, π, c, (FinS.exS0 h c.env c.rel).mono fun ds w1 l1 r1 o1 h1 vs rvs => ?_⟩
  by_cases hl : ds.length = [i, j, l].length
  · rw [if_pos hl] at h1
    match ds, hl, rvs with
    | [d1, d2, d3], _, rvs =>
      obtain ⟨v1, r, e1, q1, rvs⟩ := rvs.of_cons
      obtain ⟨v2, r, e2, q2, rvs⟩ := rvs.of_cons
      obtain ⟨v3, r, e3, q3, rvs⟩ := rvs.of_cons
      have e4 := rvs.of_nil
      subst e1 e2 e3 e4
      exact ⟨v1, v2, v3, rfl, h1.nx rfl r1 ((((c.env.mono c.rel l1.toLe0).set i q1).set j q2).set l q3)⟩
  · rw [if_neg hl] at h1
    exact h1.elim
end

/-! ### o[i] = v -/
theorem valD_ok {K : PySem.W.Frag} {w : Wd} : ∀ {ks : List Key} {ds : List D} {kvs : List (Key × V)} (k : Key), kvs.map (·.1) = ks → RDs K w ds (kvs.map (·.2)) → match valD ks ds k with
    | some d => ∃ v, valV kvs k = some v ∧ RD K w d v
    | none => valV kvs k = none
  | ks, ds, [], k, e1, e2 => by
    simp only [List.map_nil] at e1 e2
    subst e1
    simp only [valD]
    rfl
  | ks, ds, (k1, v1) :: kvs, k, e1, e2 => by
    simp only [List.map_cons] at e1 e2
    subst e1
    cases ds with
    | nil => exact absurd e2.of_nil (by simp)
    | cons d ds =>
      obtain ⟨v, r, e, r1, r2⟩ := e2.of_cons
      simp only [List.cons.injEq] at e
      obtain ⟨e3, e4⟩ := e
      subst e3 e4
      simp only [valD]
      by_cases q : k1 = k
      · simp only [if_pos q]
        exact ⟨v1, valV_pos q, r1⟩
      · simp only [if_neg q]
        have ih := valD_ok (w := w) (ks := kvs.map (·.1)) (ds := ds) (kvs := kvs) k rfl r2
        rw [valV_neg q]
        exact ih
theorem setV_ok {K : PySem.W.Frag} {w : Wd} {k : Key} {x : D} {y : V} (rx : RD K w x y) : ∀ {ks : List Key} {ds : List D} {kvs : List (Key × V)}, kvs.map (·.1) = ks → RDs K w ds (kvs.map (·.2)) →
    (kvs.map fun kv => if kv.1 = k then (kv.1, y) else kv).map (·.1) = ks ∧ RDs K w (setV ks ds k x) ((kvs.map fun kv => if kv.1 = k then (kv.1, y) else kv).map (·.2))
  | ks, ds, [], e1, e2 => by
    simp only [List.map_nil] at e1 e2
    subst e1
    refine ⟨rfl, ?_⟩
    show RDs K w (setV [] ds k x) []
    simp only [setV]
    exact .nil
  | ks, ds, (k1, v1) :: kvs, e1, e2 => by
    simp only [List.map_cons] at e1 e2
    subst e1
    cases ds with
    | nil => exact absurd e2.of_nil (by simp)
    | cons d ds =>
      obtain ⟨v, r, e, r1, r2⟩ := e2.of_cons
      simp only [List.cons.injEq] at e
      obtain ⟨e3, e4⟩ := e
      subst e3 e4
      obtain ⟨i1, i2⟩ := setV_ok (k := k) rx (ks := kvs.map (·.1)) (ds := ds) (kvs := kvs) rfl r2
      simp only [setV, List.map_cons]
      by_cases q : k1 = k
      · simp only [if_pos q]
        exact ⟨congrArg (k1 :: ·) i1, .cons rx i2⟩
      · simp only [if_neg q]
        exact ⟨congrArg (k1 :: ·) i1, .cons r1 i2⟩
theorem keyD_ok {K : PySem.W.Frag} {w : Wd} {d : D} {v : V} {k : Key} (h : RD K w d v) (e : keyD d = some k) : v = kV k := by
  cases d with
  | int i => cases e; exact (show v = V.int i by simpa only [RD] using h)
  | str s => cases e; exact (show v = V.str s by simpa only [RD] using h)
  | _ => cases e
/-- a store's wish -/
def sSet (K : PySem.W.Frag) : TSet := fun o i v H Q => ∃ w od id vd S', w.hp = H ∧ Rel K w ∧ RD K w od o ∧ RD K w id i ∧ RD K w vd v ∧ setD w.st od id vd = some S' ∧ ∀ w', w'.st = S' → w'.ph = w.ph → Le w w' → Rel K w' → Q w'.hp
theorem set_dict {X : Cx} (hu : X.A.units + 1 < cLine) : PSet X (fun o i v H Q => ∃ a H', o = .ref a ∧ DPut H a i v H' ∧ Q H') := by
  intro pins s σ H o i v ov iv u Q I ro ri rv ⟨a, H', e, g, q⟩
  subst e
  obtain rfl : ov = Value.ref a := ro
  exact d_setItem hu I g ri rv fun s4 I4 => ⟨H', I4, q⟩
theorem PSet.or {X : Cx} {t u : TSet} (h : PSet X t) (h' : PSet X u) : PSet X (fun o i v H Q => t o i v H Q ∨ u o i v H Q) := fun pins s σ H o i v ov iv x Q I ro ri rv q => q.elim (h pins s σ H o i v ov iv x Q I ro ri rv) (h' pins s σ H o i v ov iv x Q I ro ri rv)
theorem PSet.imp {X : Cx} {t u : TSet} (h : PSet X t) (k : ∀ o i v H Q, u o i v H Q → t o i v H Q) : PSet X u := fun pins s σ H o i v ov iv x Q I ro ri rv q => h pins s σ H o i v ov iv x Q I ro ri rv (k _ _ _ _ _ q)
theorem set_D {X : Cx} (hu : X.A.units + 1 < cLine) : PSet X (sSet X.K) := by
  refine PSet.imp (PSet.or set_list (set_dict hu)) ?_
  intro o i v H Q ⟨w, od, id, vd, S', e, r, ro, ri, rv, es, k⟩
  subst e
  cases od with
  | ref n =>
    simp only [RD] at ro
    obtain ⟨a, e1, ha⟩ := ro
    have es' : (match w.st n with
      | some ob => (setOb id vd ob).map (put w.st n)
      | none => none) = some S' := es
    cases q : w.st n with
    | none => rw [q] at es'; cases es'
    | some ob =>
      rw [q] at es'
      obtain ⟨ob', eo, ep⟩ := Option.map_eq_some_iff.mp es'
      obtain ⟨a', e2, oa⟩ := r.ob n _ q
      rw [ha] at e2
      cases e2
      cases ob with
      | lst xs =>
        cases id with
        | int z =>
          have es2 : (ixN xs.length z).map (fun j => Ob.lst (xs.set j vd)) = some ob' := eo
          obtain ⟨j, ej, ej2⟩ := Option.map_eq_some_iff.mp es2
          subst ej2
          obtain ⟨vs, e3, rvs⟩ := oa
          have ei : i = V.int z := by simpa only [RD] using ri
          refine .inl ⟨a, vs, z, j, e1, ei, e3, by rw [← rvs.length]; exact ej, ?_⟩
          have lc := le_chg (ob' := .lst (xs.set j vd)) (o := .lst (vs.set j v)) r q ha
          exact k (w.chg n a (.lst (xs.set j vd)) (.lst (vs.set j v))) ep rfl lc (rel_chg r q ha ⟨vs.set j v, upd_same, RDs.set (RD.mono r lc.toLe0 _ _ rv) j (RDs.mono r lc.toLe0 _ _ rvs)⟩)
        | _ => cases eo
      | dct ks vs =>
        obtain ⟨kvs, e3, e4, rvs⟩ := oa
        have eo' : (match keyD id with
          | some k => if ks.length < sizeLine then some (if (valD ks vs k).isSome = true then Ob.dct ks (setV ks vs k vd) else .dct (ks ++ [k]) (vs ++ [vd])) else none
          | none => none) = some ob' := eo
        cases ek : keyD id with
        | none => rw [ek] at eo'; cases eo'
        | some kk =>
          rw [ek] at eo'
          have ei := keyD_ok ri ek
          have vo := valD_ok (w := w) kk e4 rvs
          by_cases hl : ks.length < sizeLine
          · have hl' : kvs.length < sizeLine := by rw [← e4, List.length_map] at hl; exact hl
            have eo2 : some (if (valD ks vs kk).isSome = true then Ob.dct ks (setV ks vs kk vd) else .dct (ks ++ [kk]) (vs ++ [vd])) = some ob' := by rw [← eo']; exact (if_pos hl).symm
            have eo3 := Option.some.inj eo2
            refine .inr ⟨a, upd w.hp a (.dK (putK kvs kk v)), e1, .inl ⟨kvs, kk, e3, ei, hl', rfl⟩, ?_⟩
            have lc := le_chg (ob' := ob') (o := .dK (putK kvs kk v)) r q ha
            refine k (w.chg n a ob' (.dK (putK kvs kk v))) ep rfl lc (rel_chg r q ha ?_)
            have rv' := RD.mono r lc.toLe0 _ _ rv
            have rvs' := RDs.mono r lc.toLe0 _ _ rvs
            by_cases hv : (valD ks vs kk).isSome = true
            · rw [if_pos hv] at eo3
              obtain ⟨d0, ed⟩ := Option.isSome_iff_exists.mp hv
              rw [ed] at vo
              obtain ⟨v0, ev0, _⟩ := vo
              have hany : (kvs.any fun kv => decide (kv.1 = kk)) = true := by rw [valV_any, ev0]; rfl
              have hp : putK kvs kk v = kvs.map (fun kv => if kv.1 = kk then (kv.1, v) else kv) := if_pos hany
              obtain ⟨s1, s2⟩ := setV_ok (k := kk) rv' e4 rvs'
              rw [hp] at s2 ⊢
              rw [← eo3] at s2 ⊢
              exact ⟨_, upd_same, s1, s2⟩
            · rw [if_neg hv] at eo3
              have ed : valD ks vs kk = none := by
                cases z : valD ks vs kk with
                | none => rfl
                | some d => rw [z] at hv; exact absurd rfl hv
              rw [ed] at vo
              have hp := putK_new v vo
              rw [hp] at rv' rvs' ⊢
              rw [← eo3] at rv' rvs' ⊢
              refine ⟨_, upd_same, ?_, ?_⟩
              · rw [List.map_append, e4]; rfl
              · rw [List.map_append]
                exact rvs'.append (.one rv')
          · have eo2 : (none : Option Ob) = some ob' := by rw [← eo']; exact (if_neg hl).symm
            cases eo2
      | ins c ns vs => cases eo
  | _ => cases es
section
variable {X : Cx} {W : WX} {pos : Pos} {a b : Expr} {f g : EM} {c : Expr} {p : BM} {body : List Stmt} {sb : SM}
theorem sg_sub (hu : X.A.units + 64 < cLine) (ha : SE X W a f) (hb : SE X W b g)
    (hx : ∀ v, assign (.Subscript a b pos) X.env v = (do
      let ov ← holding [v] (eval a X.env)
      let iv ← holding [v, ov] (eval b X.env)
      standAt pos
      holding [v, ov, iv] (setItem ov iv v)
      release [v, ov, iv] []) := by intro _; rfl) : SG X W (.Subscript a b pos) (subG f g) := by
  refine pg_imp (pg_sub ha hb (set_D (by omega)) hx) ?_
  intro v σ H Q ⟨w, ρ, π, d, c, rv, h⟩
  refine ⟨w, ρ, 0 :: π, c.cf.sub, (FinS.exS h c.env c.rel).mono fun o w1 l1 r1 o1 h1 ov ro => ?_⟩
  have c1 := c.cf.next l1 r1 o1
  refine ⟨w1, ρ, 1 :: π, c1.sub, (FinS.exS h1 c1.env r1).mono fun i w2 l2 r2 o2 h2 iv ri => ?_⟩
  have c2 := c1.next l2 r2 o2
  cases e : setD w2.st o i d with
  | none => rw [e] at h2; exact h2.elim
  | some S' =>
    rw [e] at h2
    exact ⟨w2, o, i, d, S', rfl, r2, RD.mono r1 l2.toLe0 _ _ ro, ri, RD.mono c.rel (l1.trans l2).toLe0 _ _ rv, e, fun w' e1 e2 l r => h2 w' σ e1 l r (Out.same e2) (c2.env.mono r2 l.toLe0)⟩

/-! ### while -/
theorem whileN_up (fc : BM) (fb : SM) : ∀ (n : Nat) (ρ : Env) (π : Id) (S : Store) (r : Fl × Env × Store), whileN fc fb n ρ π S = some r → ∀ m, n ≤ m → whileN fc fb m ρ π S = some r
  | 0, _, _, _, _, h, _, _ => by simp [whileN] at h
  | n + 1, ρ, π, S, r, h, 0, hm => absurd hm (by omega)
  | n + 1, ρ, π, S, r, h, m + 1, hm => by
    unfold whileN at h ⊢
    cases q : fc ρ (0 :: π) S with
    | none => rw [q] at h; cases h
    | some x =>
      obtain ⟨y, S1⟩ := x
      rw [q] at h
      cases y with
      | ex e => exact h
      | ok k =>
        simp only [exS_ok'] at h ⊢
        cases k with
        | false => exact h
        | true =>
          simp only [if_true] at h ⊢
          cases q2 : fb ρ (1 :: π) S1 with
          | none => rw [q2] at h; cases h
          | some z =>
            obtain ⟨f, ρ2, S2⟩ := z
            rw [q2] at h
            cases f with
            | nx => exact whileN_up fc fb n ρ2 _ S2 r h m (by omega)
            | ct => exact whileN_up fc fb n ρ2 _ S2 r h m (by omega)
            | rt d => exact h
            | bk => exact h
            | ex e => exact h
theorem whileS_of {fc : BM} {fb : SM} {n : Nat} {ρ : Env} {π : Id} {S : Store} {r : Fl × Env × Store} (h : whileN fc fb n ρ π S = some r) : whileS fc fb ρ π S = some r := by
  have he : ∃ n, (whileN fc fb n ρ π S).isSome = true := ⟨n, by rw [h]; rfl⟩
  unfold whileS
  rw [dif_pos he]
  have hc := Classical.choose_spec he
  obtain ⟨r', e⟩ := Option.isSome_iff_exists.mp hc
  rw [e]
  rcases Nat.le_total (Classical.choose he) n with z | z
  · have := whileN_up fc fb _ _ _ _ _ e n z
    rw [h] at this
    exact this.symm
  · have := whileN_up fc fb _ _ _ _ _ h _ z
    rw [e] at this
    exact this
theorem whileS_some {fc : BM} {fb : SM} {ρ : Env} {π : Id} {S : Store} {r : Fl × Env × Store} (h : whileS fc fb ρ π S = some r) : ∃ n, whileN fc fb n ρ π S = some r := by
  unfold whileS at h
  split at h
  · exact ⟨_, h⟩
  · cases h
theorem ss_while (hp : PassesOwn (model X.prog X.w) X.A X.env X.xe) (hc : ST X W c p) (hb : SSs X W body sb) : SS X W (.While c body [] pos) (whileS p sb) := by
  refine ps_imp (ps_while hp hc hb) ?_
  intro E σ H ⟨w0, ρ0, π0, c0, h0⟩
  cases e0 : whileS p sb ρ0 π0 w0.st with
  | none => rw [e0] at h0; exact h0.elim
  | some r0 =>
    obtain ⟨n0, e1⟩ := whileS_some e0
    rw [e0, ← e1] at h0
    refine ⟨fun m σ H => ∃ w ρ π, Cfg X.K w ρ π σ H ∧ FinS X.K W E w π (whileN p sb m ρ π w.st), ⟨n0, w0, ρ0, π0, c0, h0⟩, ?_⟩
    intro m σ H ⟨w, ρ, π, c, h⟩
    cases m with
    | zero => exact h.elim
    | succ m =>
      unfold whileN at h
      refine ⟨w, ρ, 0 :: π, c.cf.sub, (FinS.exS h c.env c.rel).mono fun k w1 l1 r1 o1 h1 => ?_⟩
      have c1 := c.cf.next l1 r1 o1
      cases k with
      | false => exact iteF (h1.nx rfl r1 c1.env)
      | true =>
        simp only [if_true] at h1
        refine iteT ⟨fun σ' H' => ∃ w ρ π, Cfg X.K w ρ π σ' H' ∧ FinS X.K W E w π (whileN p sb m ρ π w.st), fun σ' H' hq => ⟨m, by omega, hq⟩, w1, ρ, 1 :: π, c1.sub, ?_⟩
        cases q : sb ρ (1 :: π) w1.st with
        | none => rw [q] at h1; exact h1.elim
        | some z =>
          obtain ⟨f, ρ2, S2⟩ := z
          rw [q] at h1
          intro w2 σ2 e2 l2 r2 o2 en2
          have c2 := c1.nextE r2 o2 en2
          cases f with
          | nx => subst e2; exact ⟨w2, ρ2, 2 :: π, c2.sub, FinS.move h1 l2 o2.up fun _ z => z.up⟩
          | ct => subst e2; exact ⟨w2, ρ2, 2 :: π, c2.sub, FinS.move h1 l2 o2.up fun _ z => z.up⟩
          | bk => exact h1 w2 σ2 e2 l2 r2 o2.up en2
          | rt d => exact h1 w2 σ2 e2 l2 r2 o2.up en2
          | ex e => exact h1 w2 σ2 e2 l2 r2 o2.up en2
end
end MI

set_option Elab.async false
set_option linter.all false
set_option maxRecDepth 100000
set_option maxHeartbeats 2000000
/-! MI, enumerate and zip over lists and tuples. -/
namespace MI
open PySem PySem.Spec PyProof.Rows L2
/-! ### enumerate, zip over a list or a tuple, the pairs known to their objects -/
/-- a list's or a tuple's place -/
inductive Sq1 where
  | l (a : Addr) | t (a : Addr)
namespace Sq1
def ad : Sq1 → Addr
  | l a => a
  | t a => a
def at' (K : PySem.W.Frag) (H : Hp) : Sq1 → List V → Prop
  | l a, xs => SqL K H a xs
  | t a, xs => SqT K H a xs
def ist (h : Heap) (it : Addr) (i : Nat) : Sq1 → Prop
  | l a => h.IsListIter it a i
  | t a => h.IsTupleIter it a i
def cont (h : Heap) (its : Array Value) : Sq1 → Prop
  | l a => h.IsList a its
  | t a => h.IsTuple a its
def itob : Sq1 → Obj
  | l a => { cls := .type "list_iterator", data := .fields #[.ref a, .int 0 0] }
  | t a => { cls := .type "tuple_iterator", data := .fields #[.ref a, .int 0 0] }
theorem begins (q : Sq1) (its : Array Value) : Begins (.ref q.ad) q.itob fun h => q.cont h its := by
  cases q with
  | l a => exact begins_list a its
  | t a => exact begins_tuple a its
theorem ist0 (q : Sq1) {h : Heap} {it : Addr} (e : h.get? it = some q.itob) : q.ist h it 0 := by
  cases q with
  | l a => exact ⟨_, e, rfl, rfl⟩
  | t a => exact ⟨_, e, rfl, rfl⟩
theorem live (q : Sq1) {h : Heap} {it : Addr} {i : Nat} (s : q.ist h it i) : ∃ o, h.get? it = some o ∧ ∃ fs, o.data = .fields fs := by
  cases q with
  | l a => obtain ⟨o, e, _, d⟩ := s; exact ⟨o, e, _, d⟩
  | t a => obtain ⟨o, e, _, d⟩ := s; exact ⟨o, e, _, d⟩
theorem keep (q : Sq1) {h h' : Heap} {it : Addr} {i : Nat} (s : q.ist h it i) (k : ∀ o, h.get? it = some o → h'.get? it = some o) : q.ist h' it i := by
  cases q with
  | l a => exact Heap.IsListIter.at s k
  | t a => exact Heap.IsTupleIter.at s k
theorem ne (q : Sq1) {h : Heap} {it : Addr} {i : Nat} {its : Array Value} (s : q.ist h it i) (c : q.cont h its) : q.ad ≠ it := fun e => by
  obtain ⟨o, e1, fs, d⟩ := q.live s
  have : ∃ o n, h.get? q.ad = some o ∧ o.data = .seq its n := by
    cases q with
    | l a => obtain ⟨o, e, _, n, d⟩ := c; exact ⟨o, n, e, d⟩
    | t a => obtain ⟨o, e, _, n, d⟩ := c; exact ⟨o, n, e, d⟩
  obtain ⟨o', n, e2, d2⟩ := this
  rw [e, e1] at e2
  cases e2
  rw [d] at d2
  cases d2
theorem draws {prog : Program} {w : World} {A : Around} (q : Sq1) (hh : A.handled = none) (it : Addr) (hne : q.ad ≠ it) (items : Array Value) :
    Draws prog w A it [it, q.ad] items.size (fun i v => items[i]? = some v) (fun i h => q.ist h it i ∧ q.cont h items) := by
  cases q with
  | l a => exact Draws.list hh it a hne items
  | t a => exact Draws.tuple hh it a hne items
theorem inv (q : Sq1) {X : Cx} {pins : List (Addr × Obj)} {σ : L2.St} {H : Hp} {s : Shared} {xs : List V} (I : Inv X pins σ H s) (h : q.at' X.K H xs) : ∃ its : List Value, Vals xs its ∧ q.cont s.heap its.toArray ∧ xs.length ≤ sizeLine := by
  cases q with
  | l a =>
    obtain ⟨its, rv, p, hz⟩ := I.list h
    exact ⟨its, rv, p.isList, hz⟩
  | t a =>
    obtain ⟨its, rv, p, hz⟩ := I.tuple h
    exact ⟨its, rv, p, hz⟩
theorem inj (q : Sq1) {X : Cx} {pins : List (Addr × Obj)} {σ : L2.St} {H : Hp} {s : Shared} {xs ys : List V} (I : Inv X pins σ H s) (h : q.at' X.K H xs) (h' : q.at' X.K H ys) : xs = ys := by
  cases q with
  | l a => exact I.list_inj h h'
  | t a => exact I.tuple_inj h h'
end Sq1
/-- a new pair, known to its object -/
def pairO (us : Array Value) : Obj := { cls := .type "tuple", data := .seq us }
def ItE (K : PySem.W.Frag) (q : Sq1) (k0 : Int) : It :=
  ⟨fun i H => ∃ (xs : List V) (x : V), q.at' K H xs ∧ xs[i]? = some x, fun i H v H' => ∃ T o x, v = .ref T ∧ H T = none ∧ o.dict = none ∧ H' = upd H T (.frz o (.tup [.int (k0 + (i : Nat)), x])) ∧ ∀ xs, q.at' K H xs → xs[i]? = some x, fun i H => ∃ xs : List V, q.at' K H xs ∧ xs.length = i⟩
theorem turn_enumE {P : Program} {w : World} {K : PySem.W.Frag} {elts : List Expr} {kk : Nat} {tpos : Pos} (q : Sq1) (k0 : Int) (e it : Addr) :
    Turn P w K (.Tuple elts kk tpos) (ItE K q k0) [e, it] e (fun i h => (∃ old, IsEnum h e it (k0 + ((i : Nat) : Int)) old) ∧ q.ist h it i ∧ e ≠ it) where
  mem := by simp
  obj := fun i h st b hb => by
    obtain ⟨⟨old, he⟩, hi, _⟩ := st
    obtain ⟨o, ho, fs, hd⟩ := q.live hi
    have e' : b = e ∨ b = it := by simpa using hb
    rcases e' with z | z
    · rw [z]; exact ⟨_, he, fun v q => nomatch q⟩
    · rw [z]; exact ⟨o, ho, fun v q => by rw [hd] at q; cases q⟩
  keep := fun i h h' st k => let ⟨⟨old, he⟩, hi, hne⟩ := st; ⟨⟨old, k e (by simp) _ he⟩, q.keep hi fun o q => k it (by simp) o q, hne⟩
  item := by
    intro X hP hw hK hc i pins s σ H E I hf st hg
    subst hP hw hK
    obtain ⟨⟨old, he⟩, hit, hne⟩ := st
    obtain ⟨xs, x, hq, hx⟩ := hg
    obtain ⟨its, rv, p, hz⟩ := q.inv I hq
    obtain ⟨u, hu, ru⟩ := rv.get hx
    have hel : e < s.heap.objs.size := Heap.lt_size he
    have hil : it < s.heap.objs.size := by obtain ⟨_, z, _⟩ := q.live hit; exact Heap.lt_size z
    have hea : e ∉ [it, q.ad] := fun z => by
      have z' : e = it ∨ e = q.ad := by simpa using z
      rcases z' with z | z
      · exact hne z
      · have : ∃ o n, s.heap.get? q.ad = some o ∧ o.data = .seq its.toArray n := by
          cases q with
          | l a => obtain ⟨o, e, _, n, d⟩ := p; exact ⟨o, n, e, d⟩
          | t a => obtain ⟨o, e, _, n, d⟩ := p; exact ⟨o, n, e, d⟩
        obtain ⟨o, n, e1, d1⟩ := this
        rw [← z, he] at e1
        cases e1
        cases d1
    have hlt : i < its.toArray.size := by
      have := (List.getElem?_eq_some_iff.mp hu).1
      simpa using this
    refine wpAny_pyNext_enum_itemC (q.draws (A := X.A.in1) (I.ok.hd hc) it (q.ne hit p) its.toArray) he ⟨hit, p⟩ hlt hne hea fun y h' tk hy ho hit' hT hsz hk => ?_
    have hyu : y = u := by
      have : its.toArray[i]? = some u := by simpa using hu
      rw [this] at hy
      exact (Option.some.inj hy).symm
    subst hyu
    refine ⟨_, rfl, wpAny_letOwnedTupleGo_enum (s := { s with heap := h', toks := tk + 1 }) ho fun h'' he' sb => ?_⟩
    have hT2 : h''.get? s.heap.objs.size = some { cls := .type "tuple", data := .seq #[.int (k0 + i) tk, y] } := (sb.2 _ (Nat.ne_of_gt hel)).trans hT
    have new : ObjOk X.prog X.w (upd H s.heap.objs.size (.frz (pairO #[.int (k0 + i) tk, y]) (.tup [.int (k0 + (i : Nat)), x]))) h'' s.heap.objs.size (.frz (pairO #[.int (k0 + i) tk, y]) (.tup [.int (k0 + (i : Nat)), x])) :=
      ⟨hT2, by show 2 ≤ sizeLine; decide, [.int (k0 + i) tk, y], .cons ⟨_, rfl⟩ (.cons ru .nil), ⟨_, hT2, rfl, _, rfl⟩⟩
    have I1 : Inv X pins σ (upd H s.heap.objs.size (.frz (pairO #[.int (k0 + i) tk, y]) (.tup [.int (k0 + (i : Nat)), x]))) { s with heap := h'', toks := tk + 1 } :=
      I.turnedNew (ch := [e, it]) (fun b ob hb z => (sb.2 b (fun z => hb (by simp [z]))).trans (hk b ob (fun z => hb (by simp [z])) (fun z => hb (by simp [z])) z)) hf (Nat.le_refl _) new
    refine ⟨.ref s.heap.objs.size, _, I1, rfl, ⟨_, _, x, rfl, I.hok.fresh (Nat.le_refl _), rfl, rfl, fun ys hy => by rw [q.inj I hy hq]; exact hx⟩, ⟨⟨y, ?_⟩, q.keep hit'.1 fun o q => (sb.2 it (Ne.symm hne)).trans q, hne⟩, fun b hb => ?_⟩
    · have e1 : k0 + ((i + 1 : Nat) : Int) = k0 + (i : Int) + 1 := by omega
      rw [e1]; exact he'
    · have hb' : b < s.heap.objs.size := by
        have e' : b = e ∨ b = it := by simpa using hb
        rcases e' with z | z
        · rw [z]; exact hel
        · rw [z]; exact hil
      rw [upd_ne (Nat.ne_of_lt hb')]
      exact (hf b hb).1
  done := by
    intro X hP hw hK hc i pins s σ H E I hf st hg
    subst hP hw hK
    obtain ⟨⟨old, he⟩, hit, hne⟩ := st
    obtain ⟨xs, hq, hx⟩ := hg
    obtain ⟨its, rv, p, hz⟩ := q.inv I hq
    obtain ⟨f0, f1, f2, f3, f4, f5⟩ := hf it (by simp)
    have hl := rv.length
    have hi : i = its.toArray.size := by simp; omega
    subst hi
    exact wpAny_pyNext_enum_endD (q.draws (A := X.A.in1) (I.ok.hd hc) it (q.ne hit p) its.toArray) he ⟨hit, p⟩ fun h' eb => ⟨rfl, I.turned (t' := s.toks) (fun b o hb q => eb b o hb q) f0 f1 f3 f4 f5⟩
  self := fun A i s Q E st h => let ⟨⟨_, he⟩, _⟩ := st; wpAny_pyIter_enum he h
/-- enumerate(q, k0) -/
def iEnE (K : PySem.W.Frag) (ta : TA) : TI := fun σ H R => ta σ H fun vs H1 => ∃ q xs, vs = [.ref (Sq1.ad q)] ∧ q.at' K H1 xs ∧ R (ItE K q 0) H1
def iEnE2 (K : PySem.W.Frag) (ta : TA) : TI := fun σ H R => ta σ H fun vs H1 => ∃ q xs k, vs = [.ref (Sq1.ad q), .int k] ∧ q.at' K H1 xs ∧ -(2 ^ 63) ≤ k ∧ k < 2 ^ 63 ∧ R (ItE K q k) H1
theorem pi_enumE2 {X : Cx} {e f : Expr} {ta : TA} {p pos tpos : Pos} {elts : List Expr} {kk : Nat} (hg : Gl X "enumerate") (hm : X.mg "enumerate" = none) (ha : PA X [e, f] ta)
    (hs : starEach [e, f] X.env = [(false, eval e X.env), (false, eval f X.env)] := by rfl) (hs2 : starEach [f] X.env = [(false, eval f X.env)] := by rfl) :
    PI X (.Tuple elts kk tpos) (.Call (.Name "enumerate" p) [e, f] [] pos) (iEnE2 X.K ta) := by
  refine ⟨fun pins s σ H R I h => ?_⟩
  refine Call_ (ld_blt I hg hm boot_enumerate (PyProof.Rows.callWith_type1 (thn (ha.run pos pins s σ H _ I h) fun us s1 ⟨vs, H1, I1, r1, q1⟩ => ?_) (by rw [hs, hs2]) (by rw [hs2]; rfl)))
  obtain ⟨q, xs, k, ex, hq, k0, k1, qr⟩ := q1
  subst ex
  cases r1 with
  | cons r rr =>
    cases rr with
    | cons r' rr =>
      cases rr
      cases r
      obtain ⟨t, rfl⟩ := r'
      obtain ⟨its, rv, p', hz⟩ := q.inv I1 hq
      refine enum_begins (q.begins its.toArray) p' k0 k1 fun h' he hit hsz hk => wpAny_pyIter_enum he ?_
      have I2 : Inv X pins σ H1 { s1 with heap := h' } := I1.kept (t' := s1.toks) hk
      refine ⟨s1.heap.objs.size + 1, [s1.heap.objs.size + 1, s1.heap.objs.size], _, _, H1, rfl, I2, turn_enumE q k (s1.heap.objs.size + 1) s1.heap.objs.size, ⟨⟨.none, by simpa using he⟩, q.ist0 hit, Nat.succ_ne_self _⟩, fun b hb => ?_, qr⟩
      have e' : b = s1.heap.objs.size + 1 ∨ b = s1.heap.objs.size := by simpa using hb
      have hle : s1.heap.objs.size ≤ b := by
        rcases e' with z | z
        · rw [z]; exact Nat.le_add_right _ _
        · rw [z]; exact Nat.le_refl _
      exact I1.fpOk hle (I1.hok.fresh hle)

theorem meets_enumerate_newB1 {v : Value} {o : Obj} {H : Heap → Prop} (B : Begins v o H) :
    Meets (Builtin.«enumerate.__new__» ⟨[.type "enumerate", v], []⟩) (fun _ R s => H s.heap ∧
      R (.ok (.ret (.ref (s.heap.push o).objs.size))) { s with heap := (s.heap.push o).push { cls := .type "enumerate", data := .fields #[.none, .bool false, .ref s.heap.objs.size, rawInt 0, .none, .none] } }) :=
  .of_wp fun prog w A R s h => by
    obtain ⟨hp, g, d, tk, os⟩ := s; obtain ⟨h1, h⟩ := h
    have hsub := sub_enumerate
    have q1 : ∀ {A' : Around} {E : Value → Shared → Prop} {Q : Value → Shared → Prop}, Q (.ref hp.objs.size) ⟨hp.push o, g, d, tk, os⟩ → wpAny (model prog w) A' (pyIter v) Q E ⟨hp, g, d, tk, os⟩ :=
      fun q => B.iter prog w _ _ ⟨hp, g, d, tk, os⟩ _ h1 q
    wp_walk using q1
    refine wpAny_stack_any fun st => wpAny_pure ?_
    split
    · rename_i c _ _ _ _ _
      cases (c == Value.type "enumerate")
      · wp_walk using q1
        exact ⟨_, rfl, h⟩
      · wp_walk using q1
        exact ⟨_, rfl, h⟩
    · wp_walk using q1
      exact ⟨_, rfl, h⟩
theorem enum_begins1 {prog : Program} {w : World} {A : Around} {E : Value → Shared → Prop} {s : Shared} {v : Value} {o : Obj} {H : Heap → Prop} {Q : Value → Shared → Prop} (B : Begins v o H) (h1 : H s.heap)
    (h : ∀ h', IsEnum h' (s.heap.objs.size + 1) s.heap.objs.size 0 .none → h'.get? s.heap.objs.size = some o → h'.objs.size = s.heap.objs.size + 2 →
      (∀ b o, s.heap.get? b = some o → h'.get? b = some o) → Q (.ref (s.heap.objs.size + 1)) { s with heap := h' }) :
    wpAny (model prog w) A (call (.type "enumerate") [v]) Q E s := by
  refine callType_new F.called_enumerate (by decide) (F.typeCall_enumerate_1 _) (F.newCall_enumerate_1 _) (fun obj => F.args_object_init_2 obj _) F.entry_enumerate_new
    (meets_enumerate_newB1 B) ⟨h1, ?_⟩
  have hz : (s.heap.push o).objs.size = s.heap.objs.size + 1 := Heap.size_push ..
  show _ ∧ _
  rw [hz]
  have he : IsEnum ((s.heap.push o).push { cls := .type "enumerate", data := .fields #[.none, .bool false, .ref s.heap.objs.size, rawInt 0, .none, .none] }) (s.heap.objs.size + 1) s.heap.objs.size 0 .none := by
    have := Heap.get?_push_size (s.heap.push o) (o := { cls := .type "enumerate", data := .fields #[.none, .bool false, .ref s.heap.objs.size, rawInt 0, .none, .none] }) rfl
    rw [hz] at this; exact this
  refine ⟨⟨_, he, rfl⟩, h _ he (Heap.get?_push_of_some _ (Heap.get?_push_size _ B.free)) (by rw [Heap.size_push, hz]) fun b o x => Heap.get?_push_of_some _ (Heap.get?_push_of_some _ x)⟩
theorem pi_enumE {X : Cx} {e : Expr} {ta : TA} {p pos tpos : Pos} {elts : List Expr} {kk : Nat} (hg : Gl X "enumerate") (hm : X.mg "enumerate" = none) (ha : PA X [e] ta)
    (hs : starEach [e] X.env = [(false, eval e X.env)] := by rfl) : PI X (.Tuple elts kk tpos) (.Call (.Name "enumerate" p) [e] [] pos) (iEnE X.K ta) := by
  refine ⟨fun pins s σ H R I h => ?_⟩
  refine Call_ (ld_blt I hg hm boot_enumerate (PyProof.Rows.callWith_type1 (thn (ha.run pos pins s σ H _ I h) fun us s1 ⟨vs, H1, I1, r1, q1⟩ => ?_) hs rfl))
  obtain ⟨q, xs, ex, hq, qr⟩ := q1
  subst ex
  cases r1 with
  | cons r rr =>
    cases rr
    cases r
    obtain ⟨its, rv, p', hz⟩ := q.inv I1 hq
    refine enum_begins1 (q.begins its.toArray) p' fun h' he hit hsz hk => wpAny_pyIter_enum he ?_
    have I2 : Inv X pins σ H1 { s1 with heap := h' } := I1.kept (t' := s1.toks) hk
    refine ⟨s1.heap.objs.size + 1, [s1.heap.objs.size + 1, s1.heap.objs.size], _, _, H1, rfl, I2, turn_enumE q 0 (s1.heap.objs.size + 1) s1.heap.objs.size, ⟨⟨.none, by simpa using he⟩, q.ist0 hit, Nat.succ_ne_self _⟩, fun b hb => ?_, qr⟩
    have e' : b = s1.heap.objs.size + 1 ∨ b = s1.heap.objs.size := by simpa using hb
    have hle : s1.heap.objs.size ≤ b := by
      rcases e' with z | z
      · rw [z]; exact Nat.le_add_right _ _
      · rw [z]; exact Nat.le_refl _
    exact I1.fpOk hle (I1.hok.fresh hle)

/-! ### zip of two -/
def ItZ (K : PySem.W.Frag) (q r : Sq1) : It :=
  ⟨fun i H => ∃ (xs ys : List V) (x y : V), q.at' K H xs ∧ r.at' K H ys ∧ xs[i]? = some x ∧ ys[i]? = some y,
    fun i H v H' => ∃ T o x y, v = .ref T ∧ H T = none ∧ o.dict = none ∧ H' = upd H T (.frz o (.tup [x, y])) ∧ (∀ xs, q.at' K H xs → xs[i]? = some x) ∧ ∀ ys, r.at' K H ys → ys[i]? = some y,
    fun i H => ∃ xs ys : List V, q.at' K H xs ∧ r.at' K H ys ∧ min xs.length ys.length = i⟩
structure ZApart (z TI TO i1 i2 qa ra : Addr) : Prop where
  TIz : TI ≠ z
  TOz : TO ≠ z
  TITO : TI ≠ TO
  TIi1 : TI ≠ i1
  TIi2 : TI ≠ i2
  zi1 : z ≠ i1
  zi2 : z ≠ i2
  Ti1 : TO ≠ i1
  Ti2 : TO ≠ i2
  ii : i1 ≠ i2
  Tq : TO ≠ qa
  Tr : TO ≠ ra
theorem Sq1.cont_data (q : Sq1) {h : Heap} {its : Array Value} (c : q.cont h its) : ∃ o n, h.get? q.ad = some o ∧ o.data = .seq its n := by
  cases q with
  | l a => obtain ⟨o, e, _, n, d⟩ := c; exact ⟨o, n, e, d⟩
  | t a => obtain ⟨o, e, _, n, d⟩ := c; exact ⟨o, n, e, d⟩
theorem Sq1.notfields (q : Sq1) {h : Heap} {its : Array Value} (c : q.cont h its) {b : Addr} {o : Obj} {fs : Array Value} (e : h.get? b = some o) (d : o.data = .fields fs) : b ≠ q.ad := fun z => by
  obtain ⟨o', n, e', d'⟩ := q.cont_data c
  rw [← z, e] at e'
  cases e'
  rw [d] at d'
  cases d'
theorem zsep {h : Heap} {z TI TO i1 i2 : Addr} {q r : Sq1} {xs ys : Array Value} {i : Nat} {f0 : Value} (D : ZApart z TI TO i1 i2 q.ad r.ad) (hz : IsZip h z TI TO f0) (h1 : q.ist h i1 i) (h2 : r.ist h i2 i) (c1 : q.cont h xs) (c2 : r.cont h ys) :
    ZipSep2 z TI TO i1 i2 [i1, q.ad] [i2, r.ad] := by
  obtain ⟨o1, e1, f1, d1⟩ := q.live h1
  obtain ⟨o2, e2, f2, d2⟩ := r.live h2
  have zq := q.notfields c1 hz rfl
  have zr := r.notfields c2 hz rfl
  have i1r := r.notfields c2 e1 d1
  have i2q := q.notfields c1 e2 d2
  exact ⟨D.TIz, D.TOz, D.TITO, D.TIi1, by simp, by simp [D.zi1, zq], by simp [D.Ti1, D.Tq], D.TIi2, by simp, by simp [D.zi2, zr], by simp [D.Ti2, D.Tr], by simp [D.ii, i1r], by simp [D.ii.symm, i2q]⟩
theorem turn_zipE {P : Program} {w : World} {K : PySem.W.Frag} {elts : List Expr} {kk : Nat} {tpos : Pos} (q r : Sq1) {z TI TO i1 i2 : Addr} (D : ZApart z TI TO i1 i2 q.ad r.ad) :
    Turn P w K (.Tuple elts kk tpos) (ItZ K q r) [z, TI, TO, i1, i2] z (fun i h => IsZip h z TI TO .none ∧ IsTupOf2 h TI (.ref i1) (.ref i2) ∧ (∃ a b, IsTupOf2 h TO a b) ∧ q.ist h i1 i ∧ r.ist h i2 i) where
  mem := by simp
  obj := fun i h st b hb => by
    obtain ⟨hz, hTI, ⟨a1, a2, hTO⟩, h1, h2⟩ := st
    obtain ⟨o1, e1, f1, d1⟩ := q.live h1
    obtain ⟨o2, e2, f2, d2⟩ := r.live h2
    have e' : b = z ∨ b = TI ∨ b = TO ∨ b = i1 ∨ b = i2 := by simpa using hb
    rcases e' with e | e | e | e | e
    · rw [e]; exact ⟨_, hz, fun v q => nomatch q⟩
    · rw [e]; exact ⟨_, hTI, fun v q => nomatch q⟩
    · rw [e]; exact ⟨_, hTO, fun v q => nomatch q⟩
    · rw [e]; exact ⟨_, e1, fun v q => by rw [d1] at q; cases q⟩
    · rw [e]; exact ⟨_, e2, fun v q => by rw [d2] at q; cases q⟩
  keep := fun i h h' st k => let ⟨hz, hTI, ⟨a1, a2, hTO⟩, h1, h2⟩ := st; ⟨k z (by simp) _ hz, k TI (by simp) _ hTI, ⟨a1, a2, k TO (by simp) _ hTO⟩, q.keep h1 fun o e => k i1 (by simp) o e, r.keep h2 fun o e => k i2 (by simp) o e⟩
  item := by
    intro X hP hw hK hc i pins s σ H E I hf st hg
    subst hP hw hK
    obtain ⟨hz, hTI, ⟨a1, a2, hTO⟩, h1, h2⟩ := st
    obtain ⟨xs, ys, x, y, hq, hr, hx, hy⟩ := hg
    obtain ⟨its, rv, p, hsz⟩ := q.inv I hq
    obtain ⟨its2, rv2, p2, hsz2⟩ := r.inv I hr
    obtain ⟨u, hu, ru⟩ := rv.get hx
    obtain ⟨u2, hu2, ru2⟩ := rv2.get hy
    have S := zsep D hz h1 h2 p p2
    have hlt1 : i < its.toArray.size := by simpa using (List.getElem?_eq_some_iff.mp hu).1
    have hlt2 : i < its2.toArray.size := by simpa using (List.getElem?_eq_some_iff.mp hu2).1
    have l1 : i1 < s.heap.objs.size := by obtain ⟨_, z, _⟩ := q.live h1; exact Heap.lt_size z
    have l2 : i2 < s.heap.objs.size := by obtain ⟨_, z, _⟩ := r.live h2; exact Heap.lt_size z
    have lz : z < s.heap.objs.size := Heap.lt_size hz
    have lI : TI < s.heap.objs.size := Heap.lt_size hTI
    have lO : TO < s.heap.objs.size := Heap.lt_size hTO
    refine wpAny_pyNext_zipD2_item S (q.draws (A := X.A.in1) (I.ok.hd hc) i1 (q.ne h1 p) its.toArray) (r.draws (A := X.A.in1) (I.ok.hd hc) i2 (r.ne h2 p2) its2.toArray) hz hTI hTO ⟨h1, p⟩ ⟨h2, p2⟩ hlt1 hlt2 fun y1 y2 h' tk hy1 hy2 hz' hTO' s1 s2 hT hsize hk => ?_
    have e1 : y1 = u := by
      have : its.toArray[i]? = some u := by simpa using hu
      rw [this] at hy1
      exact (Option.some.inj hy1).symm
    have e2 : y2 = u2 := by
      have : its2.toArray[i]? = some u2 := by simpa using hu2
      rw [this] at hy2
      exact (Option.some.inj hy2).symm
    subst e1 e2
    refine ⟨_, rfl, wpAny_letOwnedTupleGo_zip (s := { s with heap := h', toks := tk }) hz' fun h'' hz2 sb => ?_⟩
    have hT2 : h''.get? s.heap.objs.size = some { cls := .type "tuple", data := .seq #[y1, y2] } := (sb.2 _ (Nat.ne_of_gt lz)).trans hT
    have new : ObjOk X.prog X.w (upd H s.heap.objs.size (.frz (pairO #[y1, y2]) (.tup [x, y]))) h'' s.heap.objs.size (.frz (pairO #[y1, y2]) (.tup [x, y])) :=
      ⟨hT2, by show 2 ≤ sizeLine; decide, [y1, y2], .cons ru (.cons ru2 .nil), ⟨_, hT2, rfl, _, rfl⟩⟩
    have I1 : Inv X pins σ (upd H s.heap.objs.size (.frz (pairO #[y1, y2]) (.tup [x, y]))) { s with heap := h'', toks := tk } :=
      I.turnedNew (ch := [z, TI, TO, i1, i2]) (fun b ob hb e => (sb.2 b (fun z => hb (by simp [z]))).trans (hk b ob (fun z => hb (by simp [z])) (fun z => hb (by simp [z])) (fun z => hb (by simp [z])) (fun z => hb (by simp [z])) e)) hf (Nat.le_refl _) new
    refine ⟨.ref s.heap.objs.size, _, I1, rfl, ⟨_, _, x, y, rfl, I.hok.fresh (Nat.le_refl _), rfl, rfl, fun zs hzs => by rw [q.inj I hzs hq]; exact hx, fun zs hzs => by rw [r.inj I hzs hr]; exact hy⟩,
      ⟨hz2, (sb.2 TI D.TIz).trans (hk TI _ D.TIz D.TITO D.TIi1 D.TIi2 hTI), ⟨_, _, (sb.2 TO D.TOz).trans hTO'⟩, q.keep s1.1 fun o e => (sb.2 i1 D.zi1.symm).trans e, r.keep s2.1 fun o e => (sb.2 i2 D.zi2.symm).trans e⟩, fun b hb => ?_⟩
    have hb' : b < s.heap.objs.size := by
      have e' : b = z ∨ b = TI ∨ b = TO ∨ b = i1 ∨ b = i2 := by simpa using hb
      rcases e' with e | e | e | e | e <;> rw [e] <;> assumption
    rw [upd_ne (Nat.ne_of_lt hb')]
    exact (hf b hb).1
  done := by
    intro X hP hw hK hc i pins s σ H E I hf st hg
    subst hP hw hK
    obtain ⟨hz, hTI, ⟨a1, a2, hTO⟩, h1, h2⟩ := st
    obtain ⟨xs, ys, hq, hr, hx⟩ := hg
    obtain ⟨its, rv, p, hsz⟩ := q.inv I hq
    obtain ⟨its2, rv2, p2, hsz2⟩ := r.inv I hr
    have S := zsep D hz h1 h2 p p2
    have hl := rv.length
    have hl2 := rv2.length
    refine wpAny_pyNext_zipD2_end S (q.draws (A := X.A.in1) (I.ok.hd hc) i1 (q.ne h1 p) its.toArray) (r.draws (A := X.A.in1) (I.ok.hd hc) i2 (r.ne h2 p2) its2.toArray) hz hTI hTO ⟨h1, p⟩ ⟨h2, p2⟩ (by simp; omega) (by simp; omega) (by simp; omega) fun h' tk hk => ⟨rfl, ?_⟩
    exact I.turnedL (t' := tk) (ch := [z, TI, TO, i1, i2]) (fun b o hb e => hk b o (fun z => hb (by simp [z])) (fun z => hb (by simp [z])) (fun z => hb (by simp [z])) (fun z => hb (by simp [z])) e) hf
  self := fun A i s Q E st h => wpAny_pyIter_zip st.1 h
theorem zapart {N qa ra : Nat} (lq : qa < N) (lr : ra < N) : ZApart (N + 4) (N + 2) (N + 3) N (N + 1) qa ra :=
  ⟨show (N + 2 : Nat) ≠ N + 4 by omega, show (N + 3 : Nat) ≠ N + 4 by omega, show (N + 2 : Nat) ≠ N + 3 by omega, show (N + 2 : Nat) ≠ N by omega, show (N + 2 : Nat) ≠ N + 1 by omega, show (N + 4 : Nat) ≠ N by omega,
    show (N + 4 : Nat) ≠ N + 1 by omega, show (N + 3 : Nat) ≠ N by omega, show (N + 3 : Nat) ≠ N + 1 by omega, show (N : Nat) ≠ N + 1 by omega, show (N + 3 : Nat) ≠ qa by omega, show (N + 3 : Nat) ≠ ra by omega⟩
def iZipE (K : PySem.W.Frag) (ta : TA) : TI := fun σ H R => ta σ H fun vs H1 => ∃ q r xs ys, vs = [.ref (Sq1.ad q), .ref (Sq1.ad r)] ∧ q.at' K H1 xs ∧ r.at' K H1 ys ∧ R (ItZ K q r) H1
theorem pi_zipE {X : Cx} {e f : Expr} {ta : TA} {p pos tpos : Pos} {elts : List Expr} {kk : Nat} (hg : Gl X "zip") (hm : X.mg "zip" = none) (ha : PA X [e, f] ta)
    (hs : starEach [e, f] X.env = [(false, eval e X.env), (false, eval f X.env)] := by rfl) (hs2 : starEach [f] X.env = [(false, eval f X.env)] := by rfl) :
    PI X (.Tuple elts kk tpos) (.Call (.Name "zip" p) [e, f] [] pos) (iZipE X.K ta) := by
  refine ⟨fun pins s σ H R I h => ?_⟩
  refine Call_ (ld_blt I hg hm boot_zip (PyProof.Rows.callWith_type1 (thn (ha.run pos pins s σ H _ I h) fun us s1 ⟨vs, H1, I1, r1, q1⟩ => ?_) (by rw [hs, hs2]) (by rw [hs2]; rfl)))
  obtain ⟨q, r, xs, ys, ex, hq, hr, qr⟩ := q1
  subst ex
  cases r1 with
  | cons k1 rr =>
    cases rr with
    | cons k2 rr =>
      cases rr
      cases k1
      cases k2
      obtain ⟨its, rv, p', hz⟩ := q.inv I1 hq
      obtain ⟨its2, rv2, p2, hz2⟩ := r.inv I1 hr
      obtain ⟨oq, nq, eq, _⟩ := q.cont_data p'
      obtain ⟨or, nr, er, _⟩ := r.cont_data p2
      have lq := Heap.lt_size eq
      have lr := Heap.lt_size er
      refine zip_begins2 (q.begins its.toArray) (r.begins its2.toArray) p' p2 fun h' hz hTI hTO e1 e2 hsz hk => wpAny_pyIter_zip hz ?_
      have I2 : Inv X pins σ H1 { s1 with heap := h' } := I1.kept (t' := s1.toks) hk
      generalize hN : s1.heap.objs.size = N at *
      have D : ZApart (N + 4) (N + 2) (N + 3) N (N + 1) q.ad r.ad := zapart lq lr
      refine ⟨N + 4, [N + 4, N + 2, N + 3, N, N + 1], _, _, H1, rfl, I2, turn_zipE q r D, ⟨hz, hTI, ⟨_, _, hTO⟩, q.ist0 e1, r.ist0 e2⟩, fun b hb => ?_, qr⟩
      have e' : b = N + 4 ∨ b = N + 2 ∨ b = N + 3 ∨ b = N ∨ b = N + 1 := by simpa using hb
      have hle : N ≤ b := by rcases e' with e | e | e | e | e <;> rw [e] <;> first | exact Nat.le_refl _ | exact Nat.le_add_right _ _
      rw [← hN] at hle
      exact I1.fpOk hle (I1.hok.fresh hle)
end MI

set_option Elab.async false
set_option linter.all false
set_option maxRecDepth 100000
set_option maxHeartbeats 2000000
/-! MI, what loops walk; for. -/
namespace MI
open PySem PySem.Spec PyProof.Rows L2
/-- the items a loop walks; the object of the store that holds them, if one does -/
abbrev Lives := List (Id × List D)
abbrev IM := Env → Id → Store → Rs (List D × Lives)
/-- the objects hold them still -/
def Still : Lives → Store → Prop
  | [], _ => True
  | (i, xs) :: r, S => S i = some (.lst xs) ∧ Still r S
@[simp] theorem still_none (S : Store) : Still [] S = True := rfl
@[simp] theorem still_some (i : Id) (xs : List D) (r : Lives) (S : Store) : Still ((i, xs) :: r) S = (S i = some (.lst xs) ∧ Still r S) := rfl
theorem still_app : ∀ {c c' : Lives} {S : Store}, Still (c ++ c') S ↔ Still c S ∧ Still c' S
  | [], _, _ => by simp
  | (i, xs) :: r, c', S => by simp only [List.cons_append, still_some, still_app, and_assoc]
structure SrcOk (K : PySem.W.Frag) (w0 : Wd) (xs : List D) (c : Lives) (J : It) : Prop where
  go : ∀ w i, Le1 w0 w → Rel K w → Still c w.st → i < xs.length → J.go i w.hp
  stop : ∀ w, Le1 w0 w → Rel K w → Still c w.st → J.stop xs.length w.hp
  yld : ∀ w i v H' d, Le1 w0 w → Rel K w → Still c w.st → J.yld i w.hp v H' → xs[i]? = some d → ∃ w', w'.hp = H' ∧ w'.st = w.st ∧ w'.ph = w.ph ∧ Le w w' ∧ Rel K w' ∧ RD K w' d v
def TI' (K : PySem.W.Frag) (W : WX) (f : IM) : TI := fun σ H R => ∃ w ρ π, Cfg K w ρ π σ H ∧ Fin K W σ w π (f ρ π w.st) fun p w' => ∀ J, SrcOk K w' p.1 p.2 J → R J w'.hp
abbrev SI (X : Cx) (W : WX) (tg e : Expr) (f : IM) : Prop := PI X tg e (TI' X.K W f)
/-- a list that stands, or a tuple: its items, its object -/
def srcD (S : Store) : D → Option (List D × Lives)
  | .tup xs => some (xs, [])
  | .lst xs => some (xs, [])
  | .ref i => (match S i with
    | some (.lst xs) => some (xs, [(i, xs)])
    | _ => none)
  | _ => none
def seqI (f : EM) : IM := fun ρ π S => bindR (f ρ π S) fun d S1 => liftR (srcD S1 d) S1
def rngI1 (f : AM) : IM := fun ρ π S => bindR (f ρ π S) fun ds S1 => match ds with
  | [.int j] => if -(2 ^ 62) ≤ j ∧ j < 2 ^ 62 then okR ((List.range j.toNat).map fun (k : Nat) => D.int k, []) S1 else none
  | _ => none
def rngI2 (f : AM) : IM := fun ρ π S => bindR (f ρ π S) fun ds S1 => match ds with
  | [.int i, .int j] => if -(2 ^ 62) ≤ i ∧ i < 2 ^ 62 ∧ -(2 ^ 62) ≤ j ∧ j < 2 ^ 62 then okR ((List.range (j - i).toNat).map fun (k : Nat) => D.int (i + k), []) S1 else none
  | _ => none
def strI (f : EM) : IM := fun ρ π S => bindR (f ρ π S) fun d S1 => match d with
  | .str x => okR (x.cps.toList.map fun c => D.str ⟨#[c]⟩, []) S1
  | _ => none
def enumL : Nat → Int → List D → List D
  | _, _, [] => []
  | i, k, x :: xs => .tup [.int (k + i), x] :: enumL (i + 1) k xs
theorem enumL_get (k : Int) : ∀ (xs : List D) (j i : Nat), (enumL j k xs)[i]? = (xs[i]?).map fun x => D.tup [.int (k + (j + i : Nat)), x]
  | [], _, _ => by simp [enumL]
  | x :: xs, j, 0 => by simp [enumL]
  | x :: xs, j, i + 1 => by
    simp only [enumL, List.getElem?_cons_succ]
    rw [enumL_get k xs (j + 1) i]
    congr 1
    funext y
    have : ((j + 1 + i : Nat) : Int) = ((j + (i + 1) : Nat) : Int) := by omega
    rw [this]
theorem enumL_length (k : Int) : ∀ (xs : List D) (j : Nat), (enumL j k xs).length = xs.length
  | [], _ => rfl
  | x :: xs, j => by simp [enumL, enumL_length k xs (j + 1)]
def enumI (f : AM) : IM := fun ρ π S => bindR (f ρ π S) fun ds S1 => match ds with
  | [d] => liftR ((srcD S1 d).map fun p => (enumL 0 0 p.1, p.2)) S1
  | _ => none
def enumI2 (f : AM) : IM := fun ρ π S => bindR (f ρ π S) fun ds S1 => match ds with
  | [d, .int k] => if -(2 ^ 63) ≤ k ∧ k < 2 ^ 63 then liftR ((srcD S1 d).map fun p => (enumL 0 k p.1, p.2)) S1 else none
  | _ => none
def zipL : List D → List D → List D
  | x :: xs, y :: ys => .tup [x, y] :: zipL xs ys
  | _, _ => []
theorem zipL_get : ∀ (xs ys : List D) (i : Nat), (zipL xs ys)[i]? = (xs[i]?).bind fun x => (ys[i]?).map fun y => D.tup [x, y]
  | [], _, _ => by simp [zipL]
  | x :: xs, [], i => by cases h : (x :: xs)[i]? <;> simp [zipL]
  | x :: xs, y :: ys, 0 => by simp [zipL]
  | x :: xs, y :: ys, i + 1 => by simp only [zipL, List.getElem?_cons_succ]; exact zipL_get xs ys i
theorem zipL_length : ∀ (xs ys : List D), (zipL xs ys).length = min xs.length ys.length
  | [], _ => by simp [zipL]
  | x :: xs, [] => by simp [zipL]
  | x :: xs, y :: ys => by simp [zipL, zipL_length xs ys]
def zipI (f : AM) : IM := fun ρ π S => bindR (f ρ π S) fun ds S1 => match ds with
  | [d, e] => liftR ((srcD S1 d).bind fun p => (srcD S1 e).map fun q => (zipL p.1 q.1, p.2 ++ q.2)) S1
  | _ => none
/-- a sequence that is walked -/
def SrcQ (K : PySem.W.Frag) (w : Wd) (q : Sq1) (xs : List D) (c : Lives) : Prop := ∀ w', Le1 w w' → Rel K w' → Still c w'.st → ∃ vs, q.at' K w'.hp vs ∧ RDs K w' xs vs
theorem srcD_ok {K : PySem.W.Frag} {w : Wd} (r : Rel K w) {d : D} {v : V} {p : List D × Lives} (h : RD K w d v) (e : srcD w.st d = some p) : ∃ q : Sq1, v = .ref q.ad ∧ SrcQ K w q p.1 p.2 ∧ Still p.2 w.st := by
  cases d with
  | tup xs =>
    cases e
    simp only [RD] at h
    obtain ⟨a, vs, e1, h1, h2⟩ := h
    exact ⟨.t a, e1, fun w' l r' _ => ⟨vs, (TupN.mono1 r l h1).sq, RDs.mono1 r l _ _ h2⟩, trivial⟩
  | lst xs =>
    cases e
    have h' := h
    simp only [RD] at h
    obtain ⟨a, vs, e1, h1, h2⟩ := h
    refine ⟨.l a, e1, fun w' l r' _ => ⟨vs, ?_, RDs.mono1 r l _ _ h2⟩, trivial⟩
    rcases h1 with ⟨h1, h3⟩ | h1
    · exact .inl (Rd.monoL1 l h1 h3).1
    · exact .inr h1
  | ref i =>
    have e' : (match w.st i with
      | some (.lst xs) => some (xs, [(i, xs)])
      | _ => none) = some p := e
    split at e'
    · rename_i xs q
      cases e'
      simp only [RD] at h
      obtain ⟨a, e1, h1⟩ := h
      refine ⟨.l a, e1, fun w' l r' s => ?_, q, trivial⟩
      obtain ⟨b, e2, vs, e3, h2⟩ := r'.ob i _ s.1
      rw [l.ph i a h1] at e2
      cases e2
      exact ⟨vs, SqL.of e3, h2⟩
    · cases e'
  | _ => cases e
section
variable {K : PySem.W.Frag} {w : Wd} {xs ys : List D} {c c' : Lives}
theorem Sq1.at_inj {q : Sq1} {H : Hp} {K : PySem.W.Frag} : True := trivial
theorem srcok_l {a : Addr} (h : SrcQ K w (.l a) xs c) : SrcOk K w xs c (Itl K a) where
  go := fun w' i l r s hi => by
    obtain ⟨vs, h1, h2⟩ := h w' l r s
    have := h2.length
    exact ⟨vs, vs[i], h1, by simp⟩
  stop := fun w' l r s => by
    obtain ⟨vs, h1, h2⟩ := h w' l r s
    exact ⟨vs, h1, by rw [h2.length]; exact Nat.le_refl _⟩
  yld := fun w' i v H' d l r s y e => by
    obtain ⟨vs, h1, h2⟩ := h w' l r s
    obtain ⟨e1, y⟩ := y
    obtain ⟨u, e2, h3⟩ := h2.get e
    rw [y vs h1] at e2
    cases e2
    exact ⟨w', e1.symm, rfl, rfl, Le.refl _, r, h3⟩
theorem srcok_t {a : Addr} (h : SrcQ K w (.t a) xs c) : SrcOk K w xs c (Itt K a) where
  go := fun w' i l r s hi => by
    obtain ⟨vs, h1, h2⟩ := h w' l r s
    have := h2.length
    exact ⟨vs, vs[i], h1, by simp⟩
  stop := fun w' l r s => by
    obtain ⟨vs, h1, h2⟩ := h w' l r s
    exact ⟨vs, h1, by rw [h2.length]; exact Nat.le_refl _⟩
  yld := fun w' i v H' d l r s y e => by
    obtain ⟨vs, h1, h2⟩ := h w' l r s
    obtain ⟨e1, y⟩ := y
    obtain ⟨u, e2, h3⟩ := h2.get e
    rw [y vs h1] at e2
    cases e2
    exact ⟨w', e1.symm, rfl, rfl, Le.refl _, r, h3⟩
theorem srcok_e {q : Sq1} {k : Int} (h : SrcQ K w q xs c) : SrcOk K w (enumL 0 k xs) c (ItE K q k) where
  go := fun w' i l r s hi => by
    obtain ⟨vs, h1, h2⟩ := h w' l r s
    rw [enumL_length] at hi
    have := h2.length
    exact ⟨vs, vs[i], h1, by simp⟩
  stop := fun w' l r s => by
    obtain ⟨vs, h1, h2⟩ := h w' l r s
    exact ⟨vs, h1, by rw [enumL_length, h2.length]⟩
  yld := fun w' i v H' d l r s y e => by
    obtain ⟨vs, h1, h2⟩ := h w' l r s
    obtain ⟨T, o, x, e1, hT, ho, e2, y⟩ := y
    rw [enumL_get] at e
    obtain ⟨x', ex, ed⟩ := Option.map_eq_some_iff.mp e
    obtain ⟨u, e3, h3⟩ := h2.get ex
    rw [y vs h1] at e3
    cases e3
    subst ed e1 e2
    refine ⟨w'.lay T _, rfl, rfl, rfl, le_lay r hT, rel_lay r hT, ?_⟩
    simp only [RD, Nat.zero_add]
    exact ⟨T, _, rfl, .inl ⟨o, upd_same, ho⟩, .cons (by simp only [RD]) (.one (RD.mono r (le_lay r hT).toLe0 _ _ h3))⟩
theorem srcok_z {q q' : Sq1} (h : SrcQ K w q xs c) (h' : SrcQ K w q' ys c') : SrcOk K w (zipL xs ys) (c ++ c') (ItZ K q q') where
  go := fun w' i l r s hi => by
    obtain ⟨s1, s2⟩ := still_app.mp s
    obtain ⟨vs, h1, h2⟩ := h w' l r s1
    obtain ⟨us, h3, h4⟩ := h' w' l r s2
    rw [zipL_length] at hi
    have := h2.length
    have := h4.length
    exact ⟨vs, us, vs[i]'(by omega), us[i]'(by omega), h1, h3, by simp, by simp⟩
  stop := fun w' l r s => by
    obtain ⟨s1, s2⟩ := still_app.mp s
    obtain ⟨vs, h1, h2⟩ := h w' l r s1
    obtain ⟨us, h3, h4⟩ := h' w' l r s2
    exact ⟨vs, us, h1, h3, by rw [zipL_length, h2.length, h4.length]⟩
  yld := fun w' i v H' d l r s y e => by
    obtain ⟨s1, s2⟩ := still_app.mp s
    obtain ⟨vs, h1, h2⟩ := h w' l r s1
    obtain ⟨us, h3, h4⟩ := h' w' l r s2
    obtain ⟨T, o, x, x2, e1, hT, ho, e2, y, y2⟩ := y
    rw [zipL_get] at e
    obtain ⟨x', ex, ed⟩ := Option.bind_eq_some_iff.mp e
    obtain ⟨x2', ex2, ed⟩ := Option.map_eq_some_iff.mp ed
    obtain ⟨u, e3, h5⟩ := h2.get ex
    obtain ⟨u2, e4, h6⟩ := h4.get ex2
    rw [y vs h1] at e3
    rw [y2 us h3] at e4
    cases e3
    cases e4
    subst ed e1 e2
    refine ⟨w'.lay T _, rfl, rfl, rfl, le_lay r hT, rel_lay r hT, ?_⟩
    simp only [RD]
    exact ⟨T, _, rfl, .inl ⟨o, upd_same, ho⟩, .cons (RD.mono r (le_lay r hT).toLe0 _ _ h5) (.one (RD.mono r (le_lay r hT).toLe0 _ _ h6))⟩
theorem srcok_r {lo : Int} {n : Nat} : SrcOk K w ((List.range n).map fun (k : Nat) => D.int (lo + k)) [] (Itr lo n) where
  go := fun w' i l r s hi => by
    simp at hi
    exact hi
  stop := fun w' l r s => by
    show n ≤ _
    simp
  yld := fun w' i v H' d l r s y e => by
    obtain ⟨e1, e2⟩ := y
    subst e1 e2
    rw [List.getElem?_map] at e
    obtain ⟨k, ek, ed⟩ := Option.map_eq_some_iff.mp e
    have : k = i := by
      have hk := (List.getElem?_eq_some_iff.mp ek).2
      rw [List.getElem_range] at hk
      exact hk.symm
    subst this ed
    exact ⟨w', rfl, rfl, rfl, Le.refl _, r, by simp only [RD]⟩
theorem srcok_s {x : Str} : SrcOk K w (x.cps.toList.map fun c => D.str ⟨#[c]⟩) [] (Its x) where
  go := fun w' i l r s hi => by
    simp at hi
    exact hi
  stop := fun w' l r s => by
    show _ ≤ _
    simp
  yld := fun w' i v H' d l r s y e => by
    obtain ⟨e1, c, e2, e3⟩ := y
    subst e1 e3
    rw [List.getElem?_map] at e
    obtain ⟨k, ek, ed⟩ := Option.map_eq_some_iff.mp e
    have e2' : x.cps.toList[i]? = some c := by simpa using e2
    rw [e2'] at ek
    cases ek
    subst ed
    exact ⟨w', rfl, rfl, rfl, Le.refl _, r, by simp only [RD]⟩
end
section
variable {X : Cx} {W : WX} {tg e a b : Expr} {f g : EM} {fa : AM} {p pos : Pos}
theorem pi_imp {t t' : TI} (h : PI X tg e t) (k : ∀ σ H R, t' σ H R → t σ H R) : PI X tg e t' := ⟨fun pins s σ H R I q => h.run pins s σ H R I (k σ H R q)⟩
/-- over a list or a tuple -/
def iSeq (K : PySem.W.Frag) (tl : TE) : TI := fun σ H R => tl σ H fun x H1 => ∃ q : Sq1, x = .ref q.ad ∧ (∃ xs, q.at' K H1 xs) ∧ ∀ J, (J = match q with
  | .l a => Itl K a
  | .t a => Itt K a) → R J H1
theorem pi_seq {l : Expr} {tl : TE} (hl : PE X l tl) : PI X tg l (iSeq X.K tl) := by
  refine ⟨fun pins s σ H R I h => ?_⟩
  refine thn (hl.run pins s σ H _ I h) fun v s1 ⟨x, H1, I1, r1, q1⟩ => ?_
  obtain ⟨q, e, ⟨xs, hq⟩, k⟩ := q1
  subst e
  cases r1
  cases q with
  | l a =>
    obtain ⟨its, rv, p, hz⟩ := I1.list hq
    refine wpAny_pyIter_list p.isList ?_
    exact pi_one (tk := s1.toks) I1 _ (turn_list a _) ⟨_, Heap.get?_push_size _ rfl, rfl, rfl⟩ (k _ rfl)
  | t a =>
    obtain ⟨its, rv, p, hz⟩ := I1.tuple hq
    refine wpAny_pyIter_tuple (show s1.heap.IsTuple a its.toArray from p) ?_
    exact pi_one (tk := s1.toks) I1 _ (turn_tuple a _) ⟨_, Heap.get?_push_size _ rfl, rfl, rfl⟩ (k _ rfl)
theorem si_seq (he : SE X W e f) : SI X W tg e (seqI f) := by
  refine pi_imp (pi_seq he) ?_
  intro σ H R ⟨w, ρ, π, c, h⟩
  refine ⟨w, ρ, π, c, h.stepS.mono fun d w1 l1 r1 o1 h1 v rv => ?_⟩
  obtain ⟨p, ep, k⟩ := h1.lift
  obtain ⟨q, ev, hq, st⟩ := srcD_ok r1 rv ep
  obtain ⟨vs, h2, _⟩ := hq w1 (Le.refl _).toLe1 r1 st
  refine ⟨q, ev, ⟨vs, h2⟩, fun J eJ => k w1 rfl (Le.refl _) r1 (Out.refl _ _) J ?_⟩
  subst eJ
  cases q with
  | l a => exact srcok_l hq
  | t a => exact srcok_t hq
theorem si_str (he : SE X W e f) : SI X W tg e (strI f) := by
  refine pi_imp (pi_str he) ?_
  intro σ H R ⟨w, ρ, π, c, h⟩
  refine ⟨w, ρ, π, c, h.stepS.mono fun d w1 l1 r1 o1 h1 v rv => ?_⟩
  cases d with
  | str x =>
    have e : v = V.str x := by simpa only [RD] using rv
    exact ⟨x, e, Fin.okd h1 w1 rfl (Le.refl _) r1 (Out.refl _ _) _ srcok_s⟩
  | _ => exact h1.elim
theorem RDs.one_of {K : PySem.W.Frag} {w : Wd} {d : D} {vs : List V} (h : RDs K w [d] vs) : ∃ v, vs = [v] ∧ RD K w d v := by
  obtain ⟨v, r, e, h1, h2⟩ := h.of_cons
  have := h2.of_nil
  subst this
  exact ⟨v, e, h1⟩
theorem RDs.two_of {K : PySem.W.Frag} {w : Wd} {d d' : D} {vs : List V} (h : RDs K w [d, d'] vs) : ∃ v v', vs = [v, v'] ∧ RD K w d v ∧ RD K w d' v' := by
  obtain ⟨v, r, e, h1, h2⟩ := h.of_cons
  obtain ⟨v', e', h3⟩ := h2.one_of
  subst e'
  exact ⟨v, v', e, h1, h3⟩
theorem RDs.three_of {K : PySem.W.Frag} {w : Wd} {d d' d'' : D} {vs : List V} (h : RDs K w [d, d', d''] vs) : ∃ v v' v'', vs = [v, v', v''] ∧ RD K w d v ∧ RD K w d' v' ∧ RD K w d'' v'' := by
  obtain ⟨v, r, e, h1, h2⟩ := h.of_cons
  obtain ⟨v', v'', e', h3, h4⟩ := h2.two_of
  subst e'
  exact ⟨v, v', v'', e, h1, h3, h4⟩
theorem si_range1 (hg : Gl X "range") (hm : X.mg "range" = none) (ha : SA X W [a] fa) (hs : starEach [a] X.env = [(false, eval a X.env)] := by rfl) : SI X W tg (.Call (.Name "range" p) [a] [] pos) (rngI1 fa) := by
  refine pi_imp (pi_range1 hg hm ha hs) ?_
  intro σ H R ⟨w, ρ, π, c, h⟩
  refine ⟨w, ρ, π, c, h.stepS.mono fun ds w1 l1 r1 o1 h1 vs rvs => ?_⟩
  match ds, h1, rvs with
  | [.int j], h1, rvs =>
    obtain ⟨v, e, rv⟩ := rvs.one_of
    have e2 : v = V.int j := by simpa only [RD] using rv
    subst e e2
    have h1' : Fin X.K W σ w1 π (if -(2 ^ 62) ≤ j ∧ j < 2 ^ 62 then okR ((List.range j.toNat).map fun (k : Nat) => D.int k, ([] : Lives)) w1.st else none) _ := h1
    by_cases q : -(2 ^ 62) ≤ j ∧ j < 2 ^ 62
    · rw [if_pos q] at h1'
      have z := srcok_r (K := X.K) (w := w1) (lo := 0) (n := j.toNat)
      simp only [Int.zero_add] at z
      exact ⟨j, rfl, q.1, q.2, Fin.okd h1' w1 rfl (Le.refl _) r1 (Out.refl _ _) _ z⟩
    · rw [if_neg q] at h1'
      exact h1'.elim
theorem si_range2 (hg : Gl X "range") (hm : X.mg "range" = none) (ha : SA X W [a, b] fa) (hs : starEach [a, b] X.env = [(false, eval a X.env), (false, eval b X.env)] := by rfl) (hs2 : starEach [b] X.env = [(false, eval b X.env)] := by rfl) :
    SI X W tg (.Call (.Name "range" p) [a, b] [] pos) (rngI2 fa) := by
  refine pi_imp (pi_range2 hg hm ha hs hs2) ?_
  intro σ H R ⟨w, ρ, π, c, h⟩
  refine ⟨w, ρ, π, c, h.stepS.mono fun ds w1 l1 r1 o1 h1 vs rvs => ?_⟩
  match ds, h1, rvs with
  | [.int i, .int j], h1, rvs =>
    obtain ⟨v, v', e, rv, rv'⟩ := rvs.two_of
    have e2 : v = V.int i := by simpa only [RD] using rv
    have e3 : v' = V.int j := by simpa only [RD] using rv'
    subst e e2 e3
    have h1' : Fin X.K W σ w1 π (if -(2 ^ 62) ≤ i ∧ i < 2 ^ 62 ∧ -(2 ^ 62) ≤ j ∧ j < 2 ^ 62 then okR ((List.range (j - i).toNat).map fun (k : Nat) => D.int (i + k), ([] : Lives)) w1.st else none) _ := h1
    by_cases q : -(2 ^ 62) ≤ i ∧ i < 2 ^ 62 ∧ -(2 ^ 62) ≤ j ∧ j < 2 ^ 62
    · rw [if_pos q] at h1'
      exact ⟨i, j, rfl, q, Fin.okd h1' w1 rfl (Le.refl _) r1 (Out.refl _ _) _ srcok_r⟩
    · rw [if_neg q] at h1'
      exact h1'.elim
theorem si_enum {elts : List Expr} {kk : Nat} {tpos : Pos} (hg : Gl X "enumerate") (hm : X.mg "enumerate" = none) (ha : SA X W [a] fa) (hs : starEach [a] X.env = [(false, eval a X.env)] := by rfl) : SI X W (.Tuple elts kk tpos) (.Call (.Name "enumerate" p) [a] [] pos) (enumI fa) := by
  refine pi_imp (pi_enumE hg hm ha hs) ?_
  intro σ H R ⟨w, ρ, π, c, h⟩
  refine ⟨w, ρ, π, c, h.stepS.mono fun ds w1 l1 r1 o1 h1 vs rvs => ?_⟩
  match ds, h1, rvs with
  | [d], h1, rvs =>
    obtain ⟨v, e, rv⟩ := rvs.one_of
    subst e
    have h1' : Fin X.K W σ w1 π (liftR ((srcD w1.st d).map fun p => (enumL 0 0 p.1, p.2)) w1.st) _ := h1
    obtain ⟨p, ep, k⟩ := h1'.lift
    obtain ⟨p', ep', e2⟩ := Option.map_eq_some_iff.mp ep
    subst e2
    obtain ⟨q, ev, hq, st⟩ := srcD_ok r1 rv ep'
    obtain ⟨vs, h2, _⟩ := hq w1 (Le.refl _).toLe1 r1 st
    exact ⟨q, vs, by rw [ev], h2, k w1 rfl (Le.refl _) r1 (Out.refl _ _) _ (srcok_e hq)⟩
theorem si_enum2 {elts : List Expr} {kk : Nat} {tpos : Pos} (hg : Gl X "enumerate") (hm : X.mg "enumerate" = none) (ha : SA X W [a, b] fa) (hs : starEach [a, b] X.env = [(false, eval a X.env), (false, eval b X.env)] := by rfl) (hs2 : starEach [b] X.env = [(false, eval b X.env)] := by rfl) :
    SI X W (.Tuple elts kk tpos) (.Call (.Name "enumerate" p) [a, b] [] pos) (enumI2 fa) := by
  refine pi_imp (pi_enumE2 hg hm ha hs hs2) ?_
  intro σ H R ⟨w, ρ, π, c, h⟩
  refine ⟨w, ρ, π, c, h.stepS.mono fun ds w1 l1 r1 o1 h1 vs rvs => ?_⟩
  match ds, h1, rvs with
  | [d, .int k], h1, rvs =>
    obtain ⟨v, v', e, rv, rv'⟩ := rvs.two_of
    have e3 : v' = V.int k := by simpa only [RD] using rv'
    subst e e3
    have h1' : Fin X.K W σ w1 π (if -(2 ^ 63) ≤ k ∧ k < 2 ^ 63 then liftR ((srcD w1.st d).map fun p => (enumL 0 k p.1, p.2)) w1.st else none) _ := h1
    by_cases z : -(2 ^ 63) ≤ k ∧ k < 2 ^ 63
    · rw [if_pos z] at h1'
      obtain ⟨p, ep, kk⟩ := h1'.lift
      obtain ⟨p', ep', e2⟩ := Option.map_eq_some_iff.mp ep
      subst e2
      obtain ⟨q, ev, hq, st⟩ := srcD_ok r1 rv ep'
      obtain ⟨vs, h2, _⟩ := hq w1 (Le.refl _).toLe1 r1 st
      exact ⟨q, vs, k, by rw [ev], h2, z.1, z.2, kk w1 rfl (Le.refl _) r1 (Out.refl _ _) _ (srcok_e hq)⟩
    · rw [if_neg z] at h1'
      exact h1'.elim
theorem si_zip {elts : List Expr} {kk : Nat} {tpos : Pos} (hg : Gl X "zip") (hm : X.mg "zip" = none) (ha : SA X W [a, b] fa) (hs : starEach [a, b] X.env = [(false, eval a X.env), (false, eval b X.env)] := by rfl) (hs2 : starEach [b] X.env = [(false, eval b X.env)] := by rfl) :
    SI X W (.Tuple elts kk tpos) (.Call (.Name "zip" p) [a, b] [] pos) (zipI fa) := by
  refine pi_imp (pi_zipE hg hm ha hs hs2) ?_
  intro σ H R ⟨w, ρ, π, c, h⟩
  refine ⟨w, ρ, π, c, h.stepS.mono fun ds w1 l1 r1 o1 h1 vs rvs => ?_⟩
  match ds, h1, rvs with
  | [d, d2], h1, rvs =>
    obtain ⟨v, v', e, rv, rv'⟩ := rvs.two_of
    subst e
    have h1' : Fin X.K W σ w1 π (liftR ((srcD w1.st d).bind fun p => (srcD w1.st d2).map fun q => (zipL p.1 q.1, p.2 ++ q.2)) w1.st) _ := h1
    obtain ⟨p, ep, kk⟩ := h1'.lift
    obtain ⟨p', ep', e2⟩ := Option.bind_eq_some_iff.mp ep
    obtain ⟨p2, ep2, e2⟩ := Option.map_eq_some_iff.mp e2
    subst e2
    obtain ⟨q, ev, hq, st⟩ := srcD_ok r1 rv ep'
    obtain ⟨q2, ev2, hq2, st2⟩ := srcD_ok r1 rv' ep2
    obtain ⟨vs, h2, _⟩ := hq w1 (Le.refl _).toLe1 r1 st
    obtain ⟨us, h3, _⟩ := hq2 w1 (Le.refl _).toLe1 r1 st2
    exact ⟨q, q2, vs, us, by rw [ev, ev2], h2, h3, kk w1 rfl (Le.refl _) r1 (Out.refl _ _) _ (srcok_z hq hq2)⟩
end

/-! ### for -/
def loopB (r : SR) (k : Env → Store → SR) : SR := match r with
  | some (.nx, ρ, S) => k ρ S
  | some (.ct, ρ, S) => k ρ S
  | some (.bk, ρ, S) => some (.nx, ρ, S)
  | r => r
@[simp] theorem loopB_nx (ρ : Env) (S : Store) (k : Env → Store → SR) : loopB (some (.nx, ρ, S)) k = k ρ S := rfl
@[simp] theorem loopB_ct (ρ : Env) (S : Store) (k : Env → Store → SR) : loopB (some (.ct, ρ, S)) k = k ρ S := rfl
@[simp] theorem loopB_bk (ρ : Env) (S : Store) (k : Env → Store → SR) : loopB (some (.bk, ρ, S)) k = some (.nx, ρ, S) := rfl
@[simp] theorem loopB_rt (d : D) (ρ : Env) (S : Store) (k : Env → Store → SR) : loopB (some (.rt d, ρ, S)) k = some (.rt d, ρ, S) := rfl
@[simp] theorem loopB_ex (e : Exc) (ρ : Env) (S : Store) (k : Env → Store → SR) : loopB (some (.ex e, ρ, S)) k = some (.ex e, ρ, S) := rfl
@[simp] theorem loopB_none (k : Env → Store → SR) : loopB none k = none := rfl
open Classical in
noncomputable def forIts (g : GM) (b : SM) (c : Lives) : List D → SM
  | [], ρ, _, S => if Still c S then some (.nx, ρ, S) else none
  | x :: xs, ρ, π, S => if Still c S then bindS (nxO (g x ρ (0 :: π) S)) fun ρ1 S1 => loopB (b ρ1 (1 :: π) S1) fun ρ2 S2 => forIts g b c xs ρ2 (2 :: π) S2 else none
noncomputable def forS (f : IM) (g : GM) (b : SM) : SM := fun ρ π S => exS (f ρ (0 :: π) S) ρ fun p S1 => forIts g b p.2 p.1 ρ (1 :: π) S1
section
variable {K : PySem.W.Frag} {W : WX} {w : Wd} {π : Id} {E : Ends}
theorem FinS.loopB {r : SR} {k : Env → Store → SR} {n : Nat} (h : FinS K W E w π (MI.loopB r k)) :
    FinS K W { nx := (nxE K E w (n :: π) fun ρ1 w1 => FinS K W E w1 π (k ρ1 w1.st)).nx, ct := (nxE K E w (n :: π) fun ρ1 w1 => FinS K W E w1 π (k ρ1 w1.st)).nx, bk := E.nx, rt := E.rt } w (n :: π) r := by
  cases r with
  | none => exact h
  | some p =>
    obtain ⟨f, ρ', S'⟩ := p
    intro w1 σ1 e l re o en
    cases f with
    | nx =>
      subst e
      exact ⟨w1, ρ', rfl, en, re, l, o, FinS.move (show FinS K W E w π (k ρ' w1.st) from h) l o.up fun _ z => z⟩
    | ct =>
      subst e
      exact ⟨w1, ρ', rfl, en, re, l, o, FinS.move (show FinS K W E w π (k ρ' w1.st) from h) l o.up fun _ z => z⟩
    | rt d => exact h w1 σ1 e l re o.up en
    | bk => exact h w1 σ1 e l re o.up en
    | ex x => exact h w1 σ1 e l re o.up en
end
theorem ss_for {X : Cx} {W : WX} {pos : Pos} {tg iter : Expr} {body : List Stmt} {f : IM} {g : GM} {b : SM} (hp : PassesOwn (model X.prog X.w) X.A X.env X.xe) (hc : X.calm = true) (hi : SI X W tg iter f) (hg : SG X W tg g) (hb : SSs X W body b)
    (hs : ∀ x, foldedSetIterable iter X.env x = pure x := by intro _; rfl) : SS X W (.For tg iter body [] pos) (forS f g b) := by
  refine ps_imp (ps_for hp hc hi hg hb hs) ?_
  intro E σ H ⟨w0, ρ0, π0, c0, h0⟩
  refine ⟨w0, ρ0, 0 :: π0, c0.cf.sub, (FinS.exS h0 c0.env c0.rel).mono fun p w1 l1 r1 o1 h1 J SJ => ?_⟩
  obtain ⟨xs, cs⟩ := p
  have c1 := (c0.cf.next l1 r1 o1).sub
  refine ⟨fun i m σ H => ∃ w ρ π, Cfg X.K w ρ π σ H ∧ Le0 w1 w ∧ i ≤ xs.length ∧ m = xs.length - i ∧ FinS X.K W E w π (forIts g b cs (xs.drop i) ρ π w.st),
    ⟨xs.length, w1, ρ0, 1 :: π0, c1, (Le.refl w1).toLe0, Nat.zero_le _, rfl, h1.move (Le.refl _) (Out.refl _ _) fun _ z => z.up⟩, ?_⟩
  rintro i m σ H ⟨w, ρ, π, c, l, hi, rfl, h⟩
  by_cases hlt : i < xs.length
  · right
    rw [List.drop_eq_getElem_cons hlt] at h
    by_cases st : Still cs w.st
    · simp only [forIts, if_pos st] at h
      refine ⟨by rw [← c.hp]; exact SJ.go w i l.toLe1 c.rel st hlt, fun σ' H' => ∃ w ρ π, Cfg X.K w ρ π σ' H' ∧ Le0 w1 w ∧ FinS X.K W E w π (forIts g b cs (xs.drop (i + 1)) ρ π w.st), ?_, ?_⟩
      · rintro σ' H' ⟨w', ρ', π', c', l', h'⟩
        exact ⟨xs.length - (i + 1), by omega, w', ρ', π', c', l', hlt, rfl, h'⟩
      · intro v H' y
        rw [← c.hp] at y
        obtain ⟨w', e1, e2, e3, l', r', rv⟩ := SJ.yld w i v H' _ l.toLe1 c.rel st y (List.getElem?_eq_getElem hlt)
        have c' : Cfg X.K w' ρ π σ H' := ⟨e1, c.env.mono c.rel l'.toLe0, r', fun q => by rw [e3]; exact c.fr q⟩
        have h2 := (FinS.bind (n := 0) h).nxO.move (w1 := w') (π' := 0 :: π) l' (Out.same e3) fun _ z => z
        refine ⟨w', ρ, 0 :: π, _, c'.cf.sub, rv, ?_⟩
        rw [e2]
        refine FinS.imp h2 ?_ (fun _ _ z => z) (fun _ _ z => z) (fun _ _ z => z)
        rintro w'' ρ' σ' l2 re o2 en ⟨w2, ρ2, e4, en2, re2, l2', o2', h3⟩
        have c2 := c'.cf.nextE (w1 := w2) (ρ1 := ρ2) (σ1 := σ') re2 (fun i hi => (o2' i hi).trans (by rw [e3])) en2
        rw [← e4]
        refine ⟨w2, ρ2, 1 :: π, c2.sub, FinS.imp (FinS.loopB (n := 1) h3) ?_ (fun _ _ z => z) (fun _ _ z => z) ?_⟩
        · rintro w3 ρ3 σ3 l3 re3 o3 en3 ⟨w4, ρ4, e5, en4, re4, l4, o4, h4⟩
          have c4 := c2.nextE re4 o4 en4
          rw [← e5]
          exact ⟨w4, ρ4, 2 :: π, c4.sub, l.trans (l2'.trans l4).toLe0, h4.move (Le.refl _) (Out.refl _ _) fun _ z => z.up⟩
        · rintro s H3 ⟨w4, ρ4, e5, en4, re4, l4, o4, h4⟩
          have c4 := c2.nextE re4 o4 en4
          rw [← e5]
          exact ⟨w4, ρ4, 2 :: π, c4.sub, l.trans (l2'.trans l4).toLe0, h4.move (Le.refl _) (Out.refl _ _) fun _ z => z.up⟩
    · simp only [forIts, if_neg st] at h
      exact h.elim
  · have e : i = xs.length := by omega
    subst e
    left
    rw [List.drop_length] at h
    by_cases st : Still cs w.st
    · simp only [forIts, if_pos st] at h
      exact ⟨by rw [← c.hp]; exact SJ.stop w l.toLe1 c.rel st, c.nx h rfl⟩
    · simp only [forIts, if_neg st] at h
      exact h.elim
end MI

set_option Elab.async false
set_option linter.all false
set_option maxRecDepth 100000
set_option maxHeartbeats 2000000
/-! MI, calls of built-in functions and types by name. -/
namespace MI
open PySem PySem.Spec PyProof.Rows L2
section
variable {K : PySem.W.Frag} {w : Wd} {v : V}
theorem rd_non : RD K w .non v ↔ v = .non := by simp only [RD]
theorem rd_bl {b : Bool} : RD K w (.bl b) v ↔ v = .bl b := by simp only [RD]
theorem rd_int {i : Int} : RD K w (.int i) v ↔ v = .int i := by simp only [RD]
theorem rd_str {x : Str} : RD K w (.str x) v ↔ v = .str x := by simp only [RD]
theorem rd_ty {n : String} : RD K w (.ty n) v ↔ v = .ty n := by simp only [RD]
theorem rd_cls {n : Str} : RD K w (.cls n) v ↔ v = .ref (He.ga K n) := by simp only [RD]
/-- a dict's keys and values -/
def dctD (S : Store) : D → Option (List Key × List D)
  | .dct ks ds => some (ks, ds)
  | .ref i => (match S i with
    | some (.dct ks ds) => some (ks, ds)
    | _ => none)
  | _ => none
theorem dctD_ok (r : Rel K w) {d : D} {p : List Key × List D} (h : RD K w d v) (e : dctD w.st d = some p) : ∃ a kvs, v = .ref a ∧ Rd w.hp a (.dK kvs) ∧ kvs.map (·.1) = p.1 ∧ RDs K w p.2 (kvs.map (·.2)) := by
  cases d with
  | dct ks ds =>
    cases e
    simp only [RD] at h
    obtain ⟨a, kvs, e1, h1, _, h3, h4⟩ := h
    exact ⟨a, kvs, e1, h1, h3, h4⟩
  | ref i =>
    have e' : (match w.st i with
      | some (.dct ks ds) => some (ks, ds)
      | _ => none) = some p := e
    split at e'
    · cases e'
      rename_i q
      simp only [RD] at h
      obtain ⟨a, e1, h1⟩ := h
      obtain ⟨a', e2, kvs, e3, e4, h2⟩ := r.ob i _ q
      rw [h1] at e2
      cases e2
      exact ⟨a, kvs, e1, .inl e3, e4, h2⟩
    · cases e'
  | _ => cases e
end
/-- a built-in's answer by data -/
def CRel (K : PySem.W.Frag) (g : Store → List D → Option D) : List V → Hp → VK → Prop := fun xs H Q => ∃ w ds d, w.hp = H ∧ Rel K w ∧ RDs K w ds xs ∧ g w.st ds = some d ∧
  ∀ w', w'.st = w.st → w'.ph = w.ph → Le w w' → Rel K w' → ∀ v, RD K w' d v → Q v w'.hp
def CRelL (K : PySem.W.Frag) (g : Store → List D → Option (List D)) : List V → Hp → VK → Prop := fun xs H Q => ∃ w ds d, w.hp = H ∧ Rel K w ∧ RDs K w ds xs ∧ g w.st ds = some d ∧
  ∀ p vs, w.hp p = none → RDs K w d vs → Q (.ref p) (upd w.hp p (.lst vs))
def CallD (X : Cx) (f : Value) (g : Store → List D → Option D) : Prop := CallR X f (CRel X.K g)
def CallL (X : Cx) (f : Value) (g : Store → List D → Option (List D)) : Prop := CallR X f (CRelL X.K g)
def callM (g : Store → List D → Option D) (f : AM) : EM := fun ρ π S => bindR (f ρ π S) fun ds S1 => liftR (g S1 ds) S1
def callA (g : Store → List D → Option (List D)) (f : AM) : AM := fun ρ π S => bindR (f ρ π S) fun ds S1 => liftR (g S1 ds) S1
theorem CallR.imp {X : Cx} {f : Value} {r r' : List V → Hp → VK → Prop} (h : CallR X f r) (k : ∀ xs H Q, r' xs H Q → r xs H Q) : CallR X f r' := fun pins s σ H xs us Q I rv q => h pins s σ H xs us Q I rv (k xs H Q q)
def orG {α : Type} (g h : Store → List D → Option α) : Store → List D → Option α := fun S ds => match g S ds with
  | some d => some d
  | none => h S ds
theorem CallD.or {X : Cx} {f : Value} {g h : Store → List D → Option D} (a : CallD X f g) (b : CallD X f h) : CallD X f (orG g h) := by
  refine CallR.imp (CallR.or a b) ?_
  intro xs H Q ⟨w, ds, d, e, r, rv, eg, k⟩
  unfold orG at eg
  cases q : g w.st ds with
  | some d' => rw [q] at eg; cases eg; exact .inl ⟨w, ds, d, e, r, rv, q, k⟩
  | none => rw [q] at eg; exact .inr ⟨w, ds, d, e, r, rv, eg, k⟩
theorem CallL.or {X : Cx} {f : Value} {g h : Store → List D → Option (List D)} (a : CallL X f g) (b : CallL X f h) : CallL X f (orG g h) := by
  refine CallR.imp (CallR.or a b) ?_
  intro xs H Q ⟨w, ds, d, e, r, rv, eg, k⟩
  unfold orG at eg
  cases q : g w.st ds with
  | some d' => rw [q] at eg; cases eg; exact .inl ⟨w, ds, d, e, r, rv, q, k⟩
  | none => rw [q] at eg; exact .inr ⟨w, ds, d, e, r, rv, eg, k⟩
/-- a pure end of a built-in -/
theorem CRel.fin {K : PySem.W.Frag} {w : Wd} {d : D} {H : Hp} {Q : VK} (e : w.hp = H) (r : Rel K w) (k : ∀ w', w'.st = w.st → w'.ph = w.ph → Le w w' → Rel K w' → ∀ v, RD K w' d v → Q v w'.hp) {v : V} (h : RD K w d v) : Q v H := by
  have q := k w rfl rfl (Le.refl w) r v h
  rw [e] at q
  exact q
section
variable {X : Cx} {W : WX} {x : Str} {p pos : Pos} {e : Expr} {es : List Expr} {id T : String} {fa : AM} {g : Store → List D → Option D} {gl : Store → List D → Option (List D)}
theorem te_call {K : PySem.W.Frag} : ∀ σ H Q, TE' K W (callM g fa) σ H Q → tCB (CRel K g) (TA' K W fa) σ H Q := by
  intro σ H Q ⟨w, ρ, π, c, h⟩
  refine ⟨w, ρ, π, c, h.stepS.mono fun ds w1 l1 r1 o1 h1 vs rvs => ?_⟩
  obtain ⟨d, ed, k⟩ := h1.lift
  exact ⟨w1, ds, d, rfl, r1, rvs, ed, fun w' e1 e2 l r v rv => k w' e1 l r (Out.same e2) v rv⟩
theorem tn_call {K : PySem.W.Frag} : ∀ σ H Q, TN' K W (callA gl fa) σ H Q → tCB (CRelL K gl) (TA' K W fa) σ H Q := by
  intro σ H Q ⟨w, ρ, π, c, h⟩
  refine ⟨w, ρ, π, c, h.stepS.mono fun ds w1 l1 r1 o1 h1 vs rvs => ?_⟩
  obtain ⟨d, ed, k⟩ := h1.lift
  exact ⟨w1, ds, d, rfl, r1, rvs, ed, fun p vs hp rv => k w1 rfl (Le.refl _) r1 (Out.refl _ _) p vs hp rv⟩
theorem se_call (hc : CallD X (.builtin id) g) (hv : bootBuiltins x = some (.builtin id)) (hg : Gl X x) (hm : X.mg x = none) (ha : SA X W (e :: es) fa) (hn : x ≠ "__name__" := by decide) (hdb : (x == ("__debug__" : Str)) = false := by decide)
    (he : starEach (e :: es) X.env = (false, eval e X.env) :: starEach es X.env := by rfl) (hpl : (backTo pos (starEach es X.env)).any (·.1) = false := by rfl) : SE X W (.Call (.Name x p) (e :: es) [] pos) (callM g fa) :=
  pe_imp (pe_callB hc hg hm hv ha hn hdb he hpl) te_call
theorem sn_call (hc : CallL X (.builtin id) gl) (hv : bootBuiltins x = some (.builtin id)) (hg : Gl X x) (hm : X.mg x = none) (ha : SA X W (e :: es) fa) (hn : x ≠ "__name__" := by decide) (hdb : (x == ("__debug__" : Str)) = false := by decide)
    (he : starEach (e :: es) X.env = (false, eval e X.env) :: starEach es X.env := by rfl) (hpl : (backTo pos (starEach es X.env)).any (·.1) = false := by rfl) : SN X W (.Call (.Name x p) (e :: es) [] pos) (callA gl fa) :=
  pe_imp (pe_callB hc hg hm hv ha hn hdb he hpl) tn_call
theorem se_callT (hc : CallD X (.type T) g) (hv : bootBuiltins x = some (.type T)) (hg : Gl X x) (hm : X.mg x = none) (ha : SA X W (e :: es) fa) (hn : x ≠ "__name__" := by decide) (hdb : (x == ("__debug__" : Str)) = false := by decide)
    (he : starEach (e :: es) X.env = (false, eval e X.env) :: starEach es X.env := by rfl) (hpl : (backTo pos (starEach es X.env)).any (·.1) = false := by rfl) : SE X W (.Call (.Name x p) (e :: es) [] pos) (callM g fa) :=
  pe_imp (pe_callTy hc hg hm hv ha hn hdb he hpl) te_call
theorem sn_callT (hc : CallL X (.type T) gl) (hv : bootBuiltins x = some (.type T)) (hg : Gl X x) (hm : X.mg x = none) (ha : SA X W (e :: es) fa) (hn : x ≠ "__name__" := by decide) (hdb : (x == ("__debug__" : Str)) = false := by decide)
    (he : starEach (e :: es) X.env = (false, eval e X.env) :: starEach es X.env := by rfl) (hpl : (backTo pos (starEach es X.env)).any (·.1) = false := by rfl) : SN X W (.Call (.Name x p) (e :: es) [] pos) (callA gl fa) :=
  pe_imp (pe_callTy hc hg hm hv ha hn hdb he hpl) tn_call
/-- a built-in type by its name -/
theorem se_bty (hv : bootBuiltins x = some (.type T)) (hg : Gl X x) (hm : X.mg x = none) (hn : x ≠ "__name__" := by decide) (hd : (x == ("__debug__" : Str)) = false := by decide) : SE X W (.Name x p) (litM (.ty T)) :=
  pe_imp (pe_bltn (v := .ty T) hg hm hv rfl hn hd) (te_lit fun w => by simp only [RD])
/-- an own class by its name -/
theorem se_cls (hg : Gl X x) (hm : X.mg x = some (.ref (He.ga X.K x))) (hd : (x == ("__debug__" : Str)) = false := by decide) : SE X W (.Name x p) (litM (.cls x)) :=
  pe_imp (pe_glob (v := .ref (He.ga X.K x)) hg hm rfl hd) (te_lit fun w => by simp only [RD])
end

/-! ### len, abs, int, str, max, min, sum -/
def lenD (S : Store) : List D → Option D
  | [.str x] => if x.length ≤ sizeLine then some (.int x.length) else none
  | [.tup xs] => some (.int xs.length)
  | [.lst xs] => some (.int xs.length)
  | [.dct ks _] => some (.int ks.length)
  | [.ref i] => (match S i with
    | some (.lst xs) => some (.int xs.length)
    | some (.dct ks _) => some (.int ks.length)
    | _ => none)
  | _ => none
def lenSeqD (S : Store) : List D → Option D
  | [d] => (seqD S d).map fun xs => .int xs.length
  | _ => none
def lenStrD (_ : Store) : List D → Option D
  | [.str x] => if x.length ≤ sizeLine then some (.int x.length) else none
  | _ => none
def lenDctD (S : Store) : List D → Option D
  | [d] => (dctD S d).map fun p => .int p.1.length
  | _ => none
section
variable {X : Cx}
theorem callR_dlen : CallR X (.builtin "len") (fun xs H Q => ∃ a kvs, xs = [V.ref a] ∧ Rd H a (.dK kvs) ∧ Q (.int kvs.length) H) := by
  intro pins s σ H xs us Q I r h
  obtain ⟨a, kvs, rfl, ha, q⟩ := h
  obtain ⟨u, rfl, ru⟩ := vals1 r
  cases ru
  exact d_len I ha fun t s' I' => ⟨.int kvs.length, H, I', ⟨t, rfl⟩, q⟩
theorem lenD_cases {S : Store} {ds : List D} {d : D} (eg : lenD S ds = some d) : (∃ y ys, ds = [y] ∧ seqD S y = some ys ∧ d = .int ys.length) ∨ (∃ x, ds = [.str x] ∧ x.length ≤ sizeLine ∧ d = .int x.length) ∨ ∃ y ks vs, ds = [y] ∧ dctD S y = some (ks, vs) ∧ d = .int ks.length := by
  match ds, eg with
  | [.str x], eg =>
    have eg' : (if x.length ≤ sizeLine then some (D.int x.length) else none) = some d := eg
    split at eg'
    · rename_i z
      cases eg'
      exact .inr (.inl ⟨x, rfl, z, rfl⟩)
    · cases eg'
  | [.tup ys], eg => cases eg; exact .inl ⟨_, ys, rfl, rfl, rfl⟩
  | [.lst ys], eg => cases eg; exact .inl ⟨_, ys, rfl, rfl, rfl⟩
  | [.dct ks vs], eg => cases eg; exact .inr (.inr ⟨_, ks, vs, rfl, rfl, rfl⟩)
  | [.ref i], eg =>
    have eg' : (match S i with
      | some (.lst xs) => some (D.int xs.length)
      | some (.dct ks _) => some (.int ks.length)
      | _ => none) = some d := eg
    split at eg'
    · rename_i ys q
      cases eg'
      exact .inl ⟨_, ys, rfl, by simp only [seqD, q], rfl⟩
    · rename_i ks vs q
      cases eg'
      exact .inr (.inr ⟨_, ks, vs, rfl, by simp only [dctD, q], rfl⟩)
    · cases eg'
theorem call_lenD' : CallD X (.builtin "len") lenD := by
  refine CallR.imp (CallR.or (call_len_seq (X := X)) (CallR.or call_len_str callR_dlen)) ?_
  intro xs H Q ⟨w, ds, d, e, r, rv, eg, k⟩
  subst e
  rcases lenD_cases eg with ⟨y, ys, e1, e2, e3⟩ | ⟨x, e1, e2, e3⟩ | ⟨y, ks, vs, e1, e2, e3⟩
  · subst e1 e3
    obtain ⟨v, e4, rv'⟩ := rv.one_of
    obtain ⟨a, vs, e5, hq, rvs⟩ := seqD_ok r rv' e2
    subst e4 e5
    refine Or.inl ⟨a, vs, rfl, hq.symm, CRel.fin rfl r k ?_⟩
    rw [rd_int, rvs.length]
  · subst e1 e3
    obtain ⟨v, e4, rv'⟩ := rv.one_of
    rw [rd_str] at rv'
    subst e4 rv'
    exact .inr (.inl ⟨x, rfl, e2, CRel.fin rfl r k (by rw [rd_int])⟩)
  · subst e1 e3
    obtain ⟨v, e4, rv'⟩ := rv.one_of
    obtain ⟨a, kvs, e5, hq, e6, rvs⟩ := dctD_ok r rv' e2
    subst e4 e5
    refine Or.inr (.inr ⟨a, kvs, rfl, hq, CRel.fin rfl r k ?_⟩)
    have e6' : kvs.map (·.1) = ks := e6
    rw [rd_int, ← e6', List.length_map]
def absD (_ : Store) : List D → Option D
  | [.int i] => some (.int (if i < 0 then -i else i))
  | _ => none
theorem call_absD : CallD X (.builtin "abs") absD := by
  refine CallR.imp (call_abs (X := X)) ?_
  intro xs H Q ⟨w, ds, d, e, r, rv, eg, k⟩
  match ds, eg with
  | [.int i], eg =>
    cases eg
    obtain ⟨v, e4, rv'⟩ := rv.one_of
    rw [rd_int] at rv'
    subst e4 rv'
    exact ⟨i, rfl, CRel.fin e r k (by rw [rd_int])⟩
def max2D (_ : Store) : List D → Option D
  | [.int i, .int j] => some (.int (if j > i then j else i))
  | _ => none
theorem call_max2D (hc : X.calm = true) : CallD X (.builtin "max") max2D := by
  refine CallR.imp (call_max2 hc) ?_
  intro xs H Q ⟨w, ds, d, e, r, rv, eg, k⟩
  match ds, eg with
  | [.int i, .int j], eg =>
    cases eg
    obtain ⟨v, v', e4, rv', rv2⟩ := rv.two_of
    rw [rd_int] at rv' rv2
    subst e4 rv' rv2
    exact ⟨i, j, rfl, CRel.fin e r k (by rw [rd_int])⟩
def min2D (_ : Store) : List D → Option D
  | [.int i, .int j] => some (.int (if j < i then j else i))
  | _ => none
theorem call_min2D (hc : X.calm = true) : CallD X (.builtin "min") min2D := by
  refine CallR.imp (call_min2 hc) ?_
  intro xs H Q ⟨w, ds, d, e, r, rv, eg, k⟩
  match ds, eg with
  | [.int i, .int j], eg =>
    cases eg
    obtain ⟨v, v', e4, rv', rv2⟩ := rv.two_of
    rw [rd_int] at rv' rv2
    subst e4 rv' rv2
    exact ⟨i, j, rfl, CRel.fin e r k (by rw [rd_int])⟩
/-- int of an int, a bool, a text of figures -/
def intD (_ : Store) : List D → Option D
  | [.int i] => some (.int i)
  | [.bl b] => some (.int (if b then 1 else 0))
  | [.str a] => (match PySem.intText? a with
    | some n => if a.length ≤ 640 then some (.int n) else none
    | none => none)
  | _ => none
theorem call_intD : CallD X (.type "int") intD := by
  refine CallR.imp (CallR.or (call_int1 (X := X)) call_int_str) ?_
  intro xs H Q ⟨w, ds, d, e, r, rv, eg, k⟩
  match ds, eg with
  | [.int i], eg =>
    cases eg
    obtain ⟨v, e4, rv'⟩ := rv.one_of
    rw [rd_int] at rv'
    subst e4 rv'
    exact .inl (.inl ⟨i, rfl, CRel.fin e r k (by rw [rd_int])⟩)
  | [.bl b], eg =>
    cases eg
    obtain ⟨v, e4, rv'⟩ := rv.one_of
    rw [rd_bl] at rv'
    subst e4 rv'
    exact .inl (.inr ⟨b, rfl, CRel.fin e r k (by rw [rd_int])⟩)
  | [.str a], eg =>
    have eg' : (match PySem.intText? a with
      | some n => if a.length ≤ 640 then some (D.int n) else none
      | none => none) = some d := eg
    obtain ⟨v, e4, rv'⟩ := rv.one_of
    rw [rd_str] at rv'
    subst e4 rv'
    cases q : PySem.intText? a with
    | none => rw [q] at eg'; cases eg'
    | some n =>
      rw [q] at eg'
      have eg2 : (if a.length ≤ 640 then some (D.int n) else none) = some d := eg'
      split at eg2
      · rename_i z
        cases eg2
        exact .inr ⟨a, n, rfl, q, z, CRel.fin e r k (by rw [rd_int])⟩
      · cases eg2
/-- str of an int, of a text -/
def strD (_ : Store) : List D → Option D
  | [.int i] => if i.natAbs.log2 < 1920 then some (.str (toString i)) else none
  | [.str a] => some (.str a)
  | _ => none
theorem call_strD : CallD X (.type "str") strD := by
  refine CallR.imp (CallR.or (call_str_int (X := X)) SkE.call_str_str) ?_
  intro xs H Q ⟨w, ds, d, e, r, rv, eg, k⟩
  match ds, eg with
  | [.int i], eg =>
    have eg2 : (if i.natAbs.log2 < 1920 then some (D.str (toString i)) else none) = some d := eg
    obtain ⟨v, e4, rv'⟩ := rv.one_of
    rw [rd_int] at rv'
    subst e4 rv'
    split at eg2
    · rename_i z
      cases eg2
      exact .inl ⟨i, rfl, z, CRel.fin e r k (by rw [rd_str])⟩
    · cases eg2
  | [.str a], eg =>
    cases eg
    obtain ⟨v, e4, rv'⟩ := rv.one_of
    rw [rd_str] at rv'
    subst e4 rv'
    exact .inr ⟨a, rfl, CRel.fin e r k (by rw [rd_str])⟩
/-- a list of ints -/
def intsD : List D → Option (List Int)
  | [] => some []
  | .int i :: r => (intsD r).map (i :: ·)
  | _ => none
theorem intsD_eq : ∀ {ds : List D} {ns : List Int}, intsD ds = some ns → ds = ns.map D.int
  | [], ns, h => by cases h; rfl
  | .int i :: r, ns, h => by
    have h' : (intsD r).map (i :: ·) = some ns := h
    obtain ⟨m, e1, e2⟩ := Option.map_eq_some_iff.mp h'
    subst e2
    rw [intsD_eq e1]
    rfl
theorem intsD_map (ns : List Int) : intsD (ns.map D.int) = some ns := by
  induction ns with
  | nil => rfl
  | cons n ns ih =>
    show (intsD (ns.map D.int)).map (n :: ·) = _
    rw [ih]
    rfl
/-- a list that is no tuple -/
def lstD (S : Store) : D → Option (List D)
  | .lst xs => some xs
  | .ref i => (match S i with
    | some (.lst xs) => some xs
    | _ => none)
  | _ => none
theorem lstD_ok {K : PySem.W.Frag} {w : Wd} (r : Rel K w) {d : D} {v : V} {ds : List D} (h : RD K w d v) (e : lstD w.st d = some ds) : ∃ a vs, v = .ref a ∧ SqL K w.hp a vs ∧ RDs K w ds vs := by
  cases d with
  | lst xs => exact seqL_ok r h e fun _ z => by cases z
  | ref i => exact seqL_ok r h e fun _ z => by cases z
  | _ => cases e
/-- sum of a list of ints -/
def sumD (S : Store) : List D → Option D
  | [d] => (match lstD S d with
    | some xs => (intsD xs).map fun ns => .int ns.sum
    | none => none)
  | _ => none
theorem call_sumD (hc : X.calm = true) : CallD X (.builtin "sum") sumD := by
  refine CallR.imp (cr_sum hc) ?_
  intro xs H Q ⟨w, ds, d, e, r, rv, eg, k⟩
  match ds, eg with
  | [y], eg =>
    have eg' : (match lstD w.st y with
      | some xs => (intsD xs).map fun ns => D.int ns.sum
      | none => none) = some d := eg
    obtain ⟨v, e4, rv'⟩ := rv.one_of
    cases q : lstD w.st y with
    | none => rw [q] at eg'; cases eg'
    | some ys =>
      rw [q] at eg'
      have eg2 : (intsD ys).map (fun ns => D.int ns.sum) = some d := eg'
      obtain ⟨ns, e5, e6⟩ := Option.map_eq_some_iff.mp eg2
      obtain ⟨a, vs, e7, hq, rvs⟩ := lstD_ok r rv' q
      rw [intsD_eq e5] at rvs
      have e8 := rvs.ints
      subst e e4 e6 e7 e8
      exact ⟨a, ns, rfl, hq, CRel.fin rfl r k (by rw [rd_int])⟩
/-- list(..), tuple(..) of a list or a tuple -/
def listD (S : Store) : List D → Option (List D)
  | [d] => seqD S d
  | _ => none
theorem call_listD' : CallL X (.type "list") listD := by
  refine CallR.imp (call_list_of (X := X)) ?_
  intro xs H Q ⟨w, ds, d, e, r, rv, eg, k⟩
  match ds, eg with
  | [y], eg =>
    obtain ⟨v, e4, rv'⟩ := rv.one_of
    obtain ⟨a, vs, e5, hq, rvs⟩ := seqD_ok r rv' eg
    subst e e4 e5
    exact ⟨a, vs, rfl, hq.symm, fun l hl => k l vs hl rvs⟩
def tupleD (S : Store) : List D → Option D
  | [d] => (seqD S d).map .tup
  | _ => none
theorem call_tupleD : CallD X (.type "tuple") tupleD := by
  refine CallR.imp (call_tupleN (X := X)) ?_
  intro xs H Q ⟨w, ds, d, e, r, rv, eg, k⟩
  match ds, eg with
  | [y], eg =>
    have eg' : (seqD w.st y).map D.tup = some d := eg
    obtain ⟨ys, e2, e3⟩ := Option.map_eq_some_iff.mp eg'
    obtain ⟨v, e4, rv'⟩ := rv.one_of
    subst e
    by_cases ht : ∃ zs, y = .tup zs
    · obtain ⟨zs, rfl⟩ := ht
      cases e2
      simp only [RD] at rv'
      obtain ⟨a, vs, e5, h1, rvs⟩ := rv'
      subst e3 e4 e5
      exact ⟨a, vs, rfl, .inr ⟨h1.sq, CRel.fin rfl r k (by simp only [RD]; exact ⟨a, vs, rfl, h1, rvs⟩)⟩⟩
    · obtain ⟨a, vs, e5, hq, rvs⟩ := seqL_ok r rv' e2 fun zs z => ht ⟨zs, z⟩
      subst e3 e4 e5
      refine ⟨a, vs, rfl, .inl ⟨hq, fun p o ho hp => ?_⟩⟩
      refine k (w.lay p _) rfl rfl (le_lay r hp) (rel_lay r hp) _ ?_
      simp only [RD]
      exact ⟨p, vs, rfl, .inl ⟨o, upd_same, ho⟩, RDs.mono r (le_lay r hp).toLe0 _ _ rvs⟩
end
end MI

set_option Elab.async false
set_option linter.all false
set_option maxRecDepth 100000
set_option maxHeartbeats 2000000
/-! MI: subscripts, slices, in, isinstance. -/
namespace MI
open PySem PySem.Spec PyProof.Rows L2
/-! ### a[b] -/
def ixD (S : Store) (x y : D) : Option D := match x, y with
  | .str z, .int i => if z.length ≤ sizeLine then (atI z.cps.toList i).map fun c => .str ⟨#[c]⟩ else none
  | .tup xs, .int i => atI xs i
  | .lst xs, .int i => atI xs i
  | .dct ks vs, k => (keyD k).bind fun k => valD ks vs k
  | .ref n, k => (match S n with
    | some (.lst xs) => (match k with
      | .int i => atI xs i
      | _ => none)
    | some (.dct ks vs) => (keyD k).bind fun k => valD ks vs k
    | _ => none)
  | _, _ => none
theorem ixD_cases {S : Store} {x y d : D} (e : ixD S x y = some d) : (∃ z i c, x = .str z ∧ y = .int i ∧ z.length ≤ sizeLine ∧ atI z.cps.toList i = some c ∧ d = .str ⟨#[c]⟩) ∨ (∃ xs i, seqD S x = some xs ∧ y = .int i ∧ atI xs i = some d) ∨
    ∃ ks vs k, dctD S x = some (ks, vs) ∧ keyD y = some k ∧ valD ks vs k = some d := by
  cases x with
  | str z =>
    cases y with
    | int i =>
      have e' : (if z.length ≤ sizeLine then (atI z.cps.toList i).map (fun c => D.str ⟨#[c]⟩) else none) = some d := e
      split at e'
      · rename_i hz
        obtain ⟨c, e1, e2⟩ := Option.map_eq_some_iff.mp e'
        exact .inl ⟨z, i, c, rfl, rfl, hz, e1, e2.symm⟩
      · cases e'
    | _ => cases e
  | tup xs =>
    cases y with
    | int i => exact .inr (.inl ⟨xs, i, rfl, rfl, e⟩)
    | _ => cases e
  | lst xs =>
    cases y with
    | int i => exact .inr (.inl ⟨xs, i, rfl, rfl, e⟩)
    | _ => cases e
  | dct ks vs =>
    have e' : (keyD y).bind (fun k => valD ks vs k) = some d := by cases y <;> exact e
    obtain ⟨k, e1, e2⟩ := Option.bind_eq_some_iff.mp e'
    exact .inr (.inr ⟨ks, vs, k, rfl, e1, e2⟩)
  | ref n =>
    have e' : (match S n with
      | some (.lst xs) => (match y with
        | .int i => atI xs i
        | _ => none)
      | some (.dct ks vs) => (keyD y).bind fun k => valD ks vs k
      | _ => none) = some d := by cases y <;> exact e
    split at e'
    · rename_i xs q
      cases y with
      | int i => exact .inr (.inl ⟨xs, i, by simp only [seqD, q], rfl, e'⟩)
      | _ => cases e'
    · rename_i ks vs q
      obtain ⟨k, e1, e2⟩ := Option.bind_eq_some_iff.mp e'
      exact .inr (.inr ⟨ks, vs, k, by simp only [dctD, q], e1, e2⟩)
    · cases e'
  | _ => cases y <;> cases e
theorem RDs.atI {K : PySem.W.Frag} {w : Wd} {ds : List D} {vs : List V} {i : Int} {d : D} (h : RDs K w ds vs) (e : L2.atI ds i = some d) : ∃ v, L2.atI vs i = some v ∧ RD K w d v := by
  unfold L2.atI at e ⊢
  rw [← h.length]
  cases q : ixN ds.length i with
  | none => rw [q] at e; cases e
  | some j =>
    rw [q] at e
    exact h.get e
section
variable {X : Cx}
theorem ix_dict (hu : X.A.units + 1 < cLine) : IxR X (fun x y H Q => ∃ a v, x = .ref a ∧ DGet H a y (some v) ∧ Q v H) := by
  intro value slice pins s σ H x y v u Q I rx ry h hs
  obtain ⟨a, z, e, g, q⟩ := h
  subst e
  obtain rfl : v = Value.ref a := rx
  exact tail_any (dict_typeIs I g) PySem.F.slot_dict_getitem.lookup (d_getItem hu I g ry fun w' s3 I3 rw' => ⟨z, H, I3, rw', q⟩) hs
theorem ix_D (hu : X.A.units + 1 < cLine) : IxR X (Rr X.K ixD) := by
  have base : IxR X (fun x y H Q => rIx X.K x y H Q ∨ ∃ a v, x = .ref a ∧ DGet H a y (some v) ∧ Q v H) := IxR.or ix_seq (ix_dict hu)
  intro value slice pins s σ H x y v u Q I rx ry h hs
  refine base value slice pins s σ H x y v u Q I rx ry ?_ hs
  obtain ⟨w, dx, dy, d, hp, r, h1, h2, e, k⟩ := h
  rcases ixD_cases e with ⟨z, i, c, e1, e2, hz, e3, e4⟩ | ⟨xs, i, e1, e2, e3⟩ | ⟨ks, vs, kk, e1, e2, e3⟩
  · subst e1 e2 e4
    rw [rd_str] at h1
    rw [rd_int] at h2
    exact .inl (.inr (.inr ⟨z, i, c, h1, h2, hz, e3, rr_end hp r k (by rw [rd_str])⟩))
  · subst e2
    rw [rd_int] at h2
    obtain ⟨a, vs, e4, hq, rvs⟩ := seqD_ok r h1 e1
    obtain ⟨z, e5, rz⟩ := rvs.atI e3
    have fin := rr_end hp r k rz
    rw [hp] at hq
    rcases hq with hq | hq
    · exact .inl (.inr (.inl ⟨a, vs, i, z, e4, h2, hq, e5, fin⟩))
    · exact .inl (.inl ⟨a, vs, i, z, e4, h2, hq, e5, fin⟩)
  · obtain ⟨a, kvs, e4, hq, e5, rvs⟩ := dctD_ok r h1 e1
    have e5' : kvs.map (·.1) = ks := e5
    have vo := valD_ok (w := w) kk e5' rvs
    rw [e3] at vo
    obtain ⟨z, ez, rz⟩ := vo
    have fin := rr_end hp r k rz
    rw [hp] at hq
    exact .inr ⟨a, z, e4, .inl ⟨kvs, kk, hq, keyD_ok h2 e2, ez.symm⟩, fin⟩
variable {W : WX} {pos p2 : Pos} {a b : Expr} {f g : EM}
theorem se_ix (hu : X.A.units + 64 < cLine) (ha : SE X W a f) (hb : SE X W b g) (hs : PlainIx b := by intro _ _; rfl) : SE X W (.Subscript a b pos) (opM ixD f g) := pe_imp (pe_ix (ix_D (by omega)) ha hb hs) te_op

/-! ### a[lo:hi] -/
abbrev PM := Env → Id → Store → Rs (Option Int)
def noP : PM := fun _ _ S => okR none S
def someP (f : EM) : PM := fun ρ π S => bindR (f ρ π S) fun d S1 => match d with
  | .int i => okR (some i) S1
  | _ => none
def TO' (K : PySem.W.Frag) (W : WX) (f : PM) : TO := fun σ H Q => ∃ w ρ π, Cfg K w ρ π σ H ∧ Fin K W σ w π (f ρ π w.st) fun o w' => Q o w'.hp
abbrev SO (X : Cx) (W : WX) (e : Option Expr) (f : PM) : Prop := PO X e (TO' X.K W f)
theorem po_imp {e : Option Expr} {t t' : TO} (h : PO X e t) (k : ∀ σ H Q, t' σ H Q → t σ H Q) : PO X e t' := ⟨fun pins s σ H Q I q => h.run pins s σ H Q I (k σ H Q q)⟩
theorem so_none : SO X W none noP := by
  refine po_imp po_none ?_
  intro σ H Q ⟨w, ρ, π, c, h⟩
  have q := Fin.here h rfl c.rel
  rw [c.hp] at q
  exact q
theorem so_some (ha : SE X W a f) : SO X W (some a) (someP f) := by
  refine po_imp (po_some ha) ?_
  intro σ H Q ⟨w, ρ, π, c, h⟩
  refine ⟨w, ρ, π, c, h.stepS.mono fun d w1 l1 r1 o1 h1 v rv => ?_⟩
  cases d with
  | int i =>
    rw [rd_int] at rv
    exact ⟨i, rv, Fin.here h1 rfl r1⟩
  | _ => exact h1.elim
def cutL (xs : List D) (lo hi : Option Int) : List D := (xs.drop (HT.sIx xs.length 0 lo)).take (HT.sIx xs.length xs.length hi - HT.sIx xs.length 0 lo)
def slD (S : Store) (lo hi : Option Int) : D → Option D
  | .str z => if z.length ≤ sizeLine then some (.str (cutS z lo hi)) else none
  | .tup xs => some (.tup (cutL xs lo hi))
  | d => (lstD S d).map fun xs => .lst (cutL xs lo hi)
def sliceM (f : EM) (l h : PM) : EM := fun ρ π S => bindR (f ρ (0 :: π) S) fun d S1 => bindR (l ρ (1 :: π) S1) fun lo S2 => bindR (h ρ (2 :: π) S2) fun hi S3 => liftR (slD S3 lo hi d) S3
theorem RDs.cut {K : PySem.W.Frag} {w : Wd} {ds : List D} {vs : List V} (h : RDs K w ds vs) (lo hi : Option Int) : RDs K w (cutL ds lo hi) (cutV vs lo hi) := by
  unfold cutL cutV
  rw [h.length]
  exact (h.drop _).take _
theorem se_slice {lo hi : Option Expr} {fl fh : PM} (ha : SE X W a f) (hl : SO X W lo fl) (hh : SO X W hi fh) : SE X W (.Subscript a (.Slice lo hi none p2) pos) (sliceM f fl fh) := by
  refine pe_imp (pe_slice (SlR.or sl_list (SlR.or sl_tupN sl_str)) ha hl hh) ?_
  intro σ H Q ⟨w, ρ, π, c, h⟩
  refine ⟨w, ρ, 0 :: π, c.cf.sub, (Fin.stepL h).mono fun d w1 l1 r1 o1 h1 v rv => ?_⟩
  have c1 := c.cf.next l1 r1 o1
  refine ⟨w1, ρ, 1 :: π, c1.sub, (Fin.stepL h1).mono fun l w2 l2 r2 o2 h2 => ?_⟩
  have c2 := c1.next l2 r2 o2
  refine ⟨w2, ρ, 2 :: π, c2.sub, (Fin.stepL h2).mono fun hh w3 l3 r3 o3 h3 => ?_⟩
  have rv3 := RD.mono r1 (l2.trans l3).toLe0 _ _ rv
  obtain ⟨dd, e, k⟩ := h3.lift
  have lcase : ∀ xs, lstD w3.st d = some xs → dd = .lst (cutL xs l hh) → rSlL X.K v l hh w3.hp Q := fun xs e1 e2 => by
    obtain ⟨p, vs, e3, hq, rvs⟩ := lstD_ok r3 rv3 e1
    refine ⟨p, vs, e3, hq, fun q hq' => ?_⟩
    subst e2
    refine k (w3.lay q (.lst (cutV vs l hh))) rfl (le_lay r3 hq') (rel_lay r3 hq') (Out.same rfl) _ ?_
    simp only [RD]
    exact ⟨q, _, rfl, .inl ⟨.inl upd_same, dead_lay r3 hq'⟩, RDs.mono r3 (le_lay r3 hq').toLe0 _ _ (rvs.cut l hh)⟩
  cases d with
  | str z =>
    have e' : (if z.length ≤ sizeLine then some (D.str (cutS z l hh)) else none) = some dd := e
    split at e'
    · rename_i hz
      cases e'
      rw [rd_str] at rv3
      exact .inr (.inr ⟨z, rv3, hz, k w3 rfl (Le.refl _) r3 (Out.refl _ _) _ (by rw [rd_str])⟩)
    · cases e'
  | tup xs =>
    cases e
    simp only [RD] at rv3
    obtain ⟨p, vs, e3, ht, rvs⟩ := rv3
    refine .inr (.inl ⟨p, vs, e3, ht.sq, fun z => ?_, fun q o ho hq' => ?_⟩)
    · refine k w3 rfl (Le.refl _) r3 (Out.refl _ _) _ ?_
      simp only [RD]
      have hc := rvs.cut l hh
      rw [z] at hc
      exact ⟨p, vs, rfl, ht, hc⟩
    · refine k (w3.lay q _) rfl (le_lay r3 hq') (rel_lay r3 hq') (Out.same rfl) _ ?_
      simp only [RD]
      exact ⟨q, _, rfl, .inl ⟨o, upd_same, ho⟩, RDs.mono r3 (le_lay r3 hq').toLe0 _ _ (rvs.cut l hh)⟩
  | lst xs =>
    have e' : (lstD w3.st (.lst xs)).map (fun xs => D.lst (cutL xs l hh)) = some dd := e
    obtain ⟨ys, e1, e2⟩ := Option.map_eq_some_iff.mp e'
    exact .inl (lcase ys e1 e2.symm)
  | ref n =>
    have e' : (lstD w3.st (.ref n)).map (fun xs => D.lst (cutL xs l hh)) = some dd := e
    obtain ⟨ys, e1, e2⟩ := Option.map_eq_some_iff.mp e'
    exact .inl (lcase ys e1 e2.symm)
  | _ => cases e

/-! ### in -/
def inGen (neg : Bool) (S : Store) (x y : D) : Option D := match y with
  | .str z => (match x with
    | .str c => if c.cps.size = 1 then some (.bl (let b := decide (c.cps.getD 0 0 ∈ z.cps.toList); if neg then !b else b)) else none
    | _ => none)
  | y => (match dctD S y with
    | some (ks, vs) => (keyD x).map fun k => .bl (let b := (valD ks vs k).isSome; if neg then !b else b)
    | none => (match seqD S y with
      | some ys => (match toP S 8 x, ys.mapM (toP S 8) with
        | some a, some bs => if SeqAt.shaped a && SeqAt.shaped (.list bs) && SeqAt.shaped (.tuple bs) then some (.bl (let b := bs.any fun z => PyData.eqv z a; if neg then !b else b)) else none
        | _, _ => none)
      | none => none))
abbrev inD := inGen false
abbrev notInD := inGen true

theorem op_in_dct (hu : X.A.units + 1 < cLine) : OpR X (compareOp .In) (fun x y H Q => ∃ a o, y = .ref a ∧ DGet H a x o ∧ Q (.bl o.isSome) H) := by
  intro pins s σ H x y v u Q I rx ry h
  obtain ⟨a, o, e, g, q⟩ := h
  subst e
  obtain rfl : u = Value.ref a := ry
  exact d_in hu I g rx fun s3 I3 => ⟨.bl o.isSome, H, I3, rfl, q⟩
theorem op_notIn_dct (hu : X.A.units + 1 < cLine) : OpR X (compareOp .NotIn) (fun x y H Q => ∃ a o, y = .ref a ∧ DGet H a x o ∧ Q (.bl (!o.isSome)) H) := by
  intro pins s σ H x y v u Q I rx ry h
  obtain ⟨a, o, e, g, q⟩ := h
  subst e
  obtain rfl : u = Value.ref a := ry
  exact d_notIn hu I g rx fun s3 I3 => ⟨.bl (!o.isSome), H, I3, rfl, q⟩
theorem op_in_tupD (hu : X.A.units + 65 < cLine) : OpR X (compareOp .In) (fun x y H Q => ∃ d ds, Dp X.K H x d ∧ Dp X.K H y (.tuple ds) ∧ SeqAt.shaped d = true ∧ SeqAt.shaped (.tuple ds) = true ∧ Q (.bl (ds.any fun z => PyData.eqv z d)) H) := by
  intro pins s σ H x y v u Q I rx ry h
  obtain ⟨d, ds, hd, he, sd, se, q⟩ := h
  obtain ⟨as, r1⟩ := Dp.reads I d x v hd rx
  obtain ⟨bs, r2⟩ := Dp.reads I (.tuple ds) y u he ry
  exact SeqAt.in_tuple_reads r2 r1 (SeqAt.canLay_of_shaped se) (SeqAt.canLay_of_shaped sd) (room_in_shaped sd hu) ⟨.bl _, H, I, rfl, q⟩
theorem op_notIn_tupD (hu : X.A.units + 65 < cLine) : OpR X (compareOp .NotIn) (fun x y H Q => ∃ d ds, Dp X.K H x d ∧ Dp X.K H y (.tuple ds) ∧ SeqAt.shaped d = true ∧ SeqAt.shaped (.tuple ds) = true ∧ Q (.bl (!ds.any fun z => PyData.eqv z d)) H) := by
  intro pins s σ H x y v u Q I rx ry h
  obtain ⟨d, ds, hd, he, sd, se, q⟩ := h
  obtain ⟨as, r1⟩ := Dp.reads I d x v hd rx
  obtain ⟨bs, r2⟩ := Dp.reads I (.tuple ds) y u he ry
  exact SeqAt.notIn_tuple_reads r2 r1 (SeqAt.canLay_of_shaped se) (SeqAt.canLay_of_shaped sd) (room_in_shaped sd hu) ⟨.bl _, H, I, rfl, q⟩
theorem inGen_cases {neg : Bool} {S : Store} {x y d : D} (e : inGen neg S x y = some d) :
    (∃ z c, y = .str z ∧ x = .str c ∧ c.cps.size = 1 ∧ d = .bl (let b := decide (c.cps.getD 0 0 ∈ z.cps.toList); if neg then !b else b)) ∨
    (∃ ks vs k, dctD S y = some (ks, vs) ∧ keyD x = some k ∧ d = .bl (let b := (valD ks vs k).isSome; if neg then !b else b)) ∨
    ∃ ys a bs, seqD S y = some ys ∧ toP S 8 x = some a ∧ ys.mapM (toP S 8) = some bs ∧ SeqAt.shaped a = true ∧ SeqAt.shaped (.list bs) = true ∧ SeqAt.shaped (.tuple bs) = true ∧ d = .bl (let b := bs.any fun z => PyData.eqv z a; if neg then !b else b) := by
  have rest : ∀ y : D, (match dctD S y with
      | some (ks, vs) => (keyD x).map fun k => D.bl (let b := (valD ks vs k).isSome; if neg then !b else b)
      | none => (match seqD S y with
        | some ys => (match toP S 8 x, ys.mapM (toP S 8) with
          | some a, some bs => if SeqAt.shaped a && SeqAt.shaped (.list bs) && SeqAt.shaped (.tuple bs) then some (.bl (let b := bs.any fun z => PyData.eqv z a; if neg then !b else b)) else none
          | _, _ => none)
        | none => none)) = some d →
      (∃ ks vs k, dctD S y = some (ks, vs) ∧ keyD x = some k ∧ d = .bl (let b := (valD ks vs k).isSome; if neg then !b else b)) ∨
      ∃ ys a bs, seqD S y = some ys ∧ toP S 8 x = some a ∧ ys.mapM (toP S 8) = some bs ∧ SeqAt.shaped a = true ∧ SeqAt.shaped (.list bs) = true ∧ SeqAt.shaped (.tuple bs) = true ∧ d = .bl (let b := bs.any fun z => PyData.eqv z a; if neg then !b else b) := by
    intro y e
    cases q : dctD S y with
    | some p =>
      obtain ⟨ks, vs⟩ := p
      rw [q] at e
      obtain ⟨k, e1, e2⟩ := Option.map_eq_some_iff.mp e
      exact .inl ⟨ks, vs, k, rfl, e1, e2.symm⟩
    | none =>
      rw [q] at e
      simp only at e
      cases q2 : seqD S y with
      | none => rw [q2] at e; cases e
      | some ys =>
        rw [q2] at e
        simp only at e
        cases q3 : toP S 8 x with
        | none => rw [q3] at e; cases e
        | some a =>
          rw [q3] at e
          cases q4 : ys.mapM (toP S 8) with
          | none => rw [q4] at e; cases e
          | some bs =>
            rw [q4] at e
            simp only at e
            split at e
            · rename_i hs
              simp only [Bool.and_eq_true] at hs
              cases e
              exact .inr ⟨ys, a, bs, rfl, rfl, q4, hs.1.1, hs.1.2, hs.2, rfl⟩
            · cases e
  cases y with
  | str z =>
    cases x with
    | str c =>
      have e' : (if c.cps.size = 1 then some (D.bl (let b := decide (c.cps.getD 0 0 ∈ z.cps.toList); if neg then !b else b)) else none) = some d := e
      split at e'
      · rename_i hc
        cases e'
        exact .inl ⟨z, c, rfl, rfl, hc, rfl⟩
      · cases e'
    | _ => cases e
  | _ => exact .inr (rest _ e)
theorem dp_of {K : PySem.W.Frag} {w : Wd} (r : Rel K w) {d : D} {v : V} {ds : List D} {bs : List PyData} (h : RD K w d v) (e : seqD w.st d = some ds) (m : ds.mapM (toP w.st 8) = some bs) : Dp K w.hp v (.list bs) ∨ Dp K w.hp v (.tuple bs) := by
  obtain ⟨a, vs, ev, hq, rvs⟩ := seqD_ok r h e
  subst ev
  have all := dpAll_of (K := K) (w := w) (S := w.st) (n := 8) (fun d v p => toP_ok r 8 d v p) ds vs bs rvs m
  rcases hq with hq | hq
  · exact .inr (.tup hq all)
  · exact .inl (.lst hq all)
theorem one_sign {c : Str} (h : c.cps.size = 1) : c = ⟨#[c.cps.getD 0 0]⟩ := by
  obtain ⟨l⟩ := c
  congr 1
  apply Array.ext
  · simpa using h
  · intro i h1 h2
    have hi : i = 0 := by simp at h2; omega
    subst hi
    simp [Array.getD, h]
theorem op_inGen (hu : X.A.units + 65 < cLine) : OpD X (compareOp .In) (inGen false) := by
  refine OpR.imp (OpR.alt op_in_sign (OpR.alt (op_in_dct (by omega)) (OpR.alt (op_inD hu) (op_in_tupD hu)))) ?_
  rintro x y H Q ⟨w, dx, dy, d, hp, r, h1, h2, e, k⟩
  rcases inGen_cases e with ⟨z, c, e1, e2, hc, e3⟩ | ⟨ks, vs, kk, e1, e2, e3⟩ | ⟨ys, a, bs, e1, e2, e3, s1, s2, s3, e4⟩
  · subst e1 e2 e3
    rw [rd_str] at h1 h2
    refine .inl ⟨c.cps.getD 0 0, z, by rw [h1]; congr 1; exact one_sign hc, h2, rr_end hp r k (by rw [rd_bl]; rfl)⟩
  · obtain ⟨b, kvs, e4, hq, e5, rvs⟩ := dctD_ok r h2 e1
    have vo := valD_ok (w := w) kk (show kvs.map (·.1) = ks from e5) rvs
    rw [hp] at hq
    refine .inr (.inl ⟨b, valV kvs kk, e4, .inl ⟨kvs, kk, hq, keyD_ok h1 e2, rfl⟩, rr_end hp r k ?_⟩)
    subst e3
    rw [rd_bl]
    cases q : valD ks vs kk with
    | none => rw [q] at vo; rw [vo]; rfl
    | some d => rw [q] at vo; obtain ⟨v, ev, _⟩ := vo; rw [ev]; rfl
  · subst e4
    have d1 := toP_ok r 8 _ _ _ h1 e2
    have fin := rr_end hp r k (v := .bl (bs.any fun z => PyData.eqv z a)) (by rw [rd_bl]; rfl)
    rcases dp_of r h2 e1 e3 with d2 | d2
    · rw [hp] at d1 d2
      exact .inr (.inr (.inl ⟨a, bs, d1, d2, s1, s2, fin⟩))
    · rw [hp] at d1 d2
      exact .inr (.inr (.inr ⟨a, bs, d1, d2, s1, s3, fin⟩))
theorem op_notInGen (hu : X.A.units + 65 < cLine) : OpD X (compareOp .NotIn) (inGen true) := by
  refine OpR.imp (OpR.alt op_notIn_sign (OpR.alt (op_notIn_dct (by omega)) (OpR.alt (op_notInD hu) (op_notIn_tupD hu)))) ?_
  rintro x y H Q ⟨w, dx, dy, d, hp, r, h1, h2, e, k⟩
  rcases inGen_cases e with ⟨z, c, e1, e2, hc, e3⟩ | ⟨ks, vs, kk, e1, e2, e3⟩ | ⟨ys, a, bs, e1, e2, e3, s1, s2, s3, e4⟩
  · subst e1 e2 e3
    rw [rd_str] at h1 h2
    refine .inl ⟨c.cps.getD 0 0, z, by rw [h1]; congr 1; exact one_sign hc, h2, rr_end hp r k (by rw [rd_bl]; rfl)⟩
  · obtain ⟨b, kvs, e4, hq, e5, rvs⟩ := dctD_ok r h2 e1
    have vo := valD_ok (w := w) kk (show kvs.map (·.1) = ks from e5) rvs
    rw [hp] at hq
    refine .inr (.inl ⟨b, valV kvs kk, e4, .inl ⟨kvs, kk, hq, keyD_ok h1 e2, rfl⟩, rr_end hp r k ?_⟩)
    subst e3
    rw [rd_bl]
    cases q : valD ks vs kk with
    | none => rw [q] at vo; rw [vo]; rfl
    | some d => rw [q] at vo; obtain ⟨v, ev, _⟩ := vo; rw [ev]; rfl
  · subst e4
    have d1 := toP_ok r 8 _ _ _ h1 e2
    have fin := rr_end hp r k (v := .bl (!bs.any fun z => PyData.eqv z a)) (by rw [rd_bl]; rfl)
    rcases dp_of r h2 e1 e3 with d2 | d2
    · rw [hp] at d1 d2
      exact .inr (.inr (.inl ⟨a, bs, d1, d2, s1, s2, fin⟩))
    · rw [hp] at d1 d2
      exact .inr (.inr (.inr ⟨a, bs, d1, d2, s1, s3, fin⟩))
end
end MI

set_option Elab.async false
set_option linter.all false
set_option maxRecDepth 100000
set_option maxHeartbeats 2000000
/-! MI: isinstance of built-in types. -/
namespace MI
open PySem PySem.Spec PyProof.Rows L2
def tyN (S : Store) : D → Option String
  | .non => some "NoneType"
  | .bl _ => some "bool"
  | .int _ => some "int"
  | .str _ => some "str"
  | .tup _ => some "tuple"
  | .lst _ => some "list"
  | .dct _ _ => some "dict"
  | .ref i => (match S i with
    | some (.lst _) => some "list"
    | some (.dct _ _) => some "dict"
    | _ => none)
  | _ => none
/-- what is asked for -/
def askT (b : String) : Bool := b == "int" || b == "bool" || b == "str" || b == "tuple" || b == "list" || b == "dict"
def subB (a b : String) : Bool := a == b || (a == "bool" && b == "int")
def valT (a : String) : Bool := a == "NoneType" || a == "bool" || a == "int" || a == "str" || a == "tuple" || a == "list" || a == "dict"
theorem kit_all : (["NoneType", "bool", "int", "str", "tuple", "list", "dict"].all fun a => ["int", "bool", "str", "tuple", "list", "dict"].all fun b => kitB a b == some (subB a b)) = true := by decide +kernel
theorem kit_sub {a b : String} (ha : valT a = true) (hb : askT b = true) : kitB a b = some (subB a b) := by
  have h1 : a ∈ ["NoneType", "bool", "int", "str", "tuple", "list", "dict"] := by
    unfold valT at ha
    simp only [Bool.or_eq_true, beq_iff_eq] at ha
    simp only [List.mem_cons, List.not_mem_nil, or_false]
    rcases ha with (((((h | h) | h) | h) | h) | h) | h <;> simp [h]
  have h2 : b ∈ ["int", "bool", "str", "tuple", "list", "dict"] := by
    unfold askT at hb
    simp only [Bool.or_eq_true, beq_iff_eq] at hb
    simp only [List.mem_cons, List.not_mem_nil, or_false]
    rcases hb with ((((h | h) | h) | h) | h) | h <;> simp [h]
  have q := List.all_eq_true.mp (List.all_eq_true.mp kit_all a h1) b h2
  exact beq_iff_eq.mp q
theorem tyN_val {S : Store} {d : D} {a : String} (h : tyN S d = some a) : valT a = true := by
  cases d with
  | ref i =>
    have h' : (match S i with
      | some (.lst _) => some "list"
      | some (.dct _ _) => some "dict"
      | _ => none) = some a := h
    split at h' <;> first | (cases h'; rfl) | cases h'
  | ty n => cases h
  | cls n => cases h
  | exc c ns ds => cases h
  | _ => cases h; rfl
theorem tyN_ok {K : PySem.W.Frag} {w : Wd} (r : Rel K w) {d : D} {v : V} {a : String} (h : RD K w d v) (e : tyN w.st d = some a) : TyX K w.hp v (.type a) := by
  have lstC : ∀ xs p, (Rd w.hp p (.lst xs) ∨ KLst K p xs) → TyX K w.hp (.ref p) (.type "list") := fun xs p h => by
    rcases h with (h | ⟨o, h⟩) | ⟨o, its, n, h1, h2, _⟩
    · exact .base (.lst h)
    · exact .base (.frz h)
    · exact .kList h1 h2
  have dctC : ∀ kvs p, Rd w.hp p (.dK kvs) → TyX K w.hp (.ref p) (.type "dict") := fun kvs p h => by
    rcases h with h | ⟨o, h⟩
    · exact .base (.dK h)
    · exact .fDict h
  cases d with
  | non => cases e; rw [rd_non] at h; subst h; exact .base .non
  | bl b => cases e; rw [rd_bl] at h; subst h; exact .base (.bl b)
  | int i => cases e; rw [rd_int] at h; subst h; exact .base (.int i)
  | str x => cases e; rw [rd_str] at h; subst h; exact .base (.str x)
  | tup xs =>
    cases e
    simp only [RD] at h
    obtain ⟨p, vs, ev, h1, _⟩ := h
    subst ev
    rcases h1 with ⟨o, h1, _⟩ | ⟨o, its, n, h1, h2, _⟩
    · exact .fTuple h1
    · exact .kTuple h1 h2
  | lst xs =>
    cases e
    simp only [RD] at h
    obtain ⟨p, vs, ev, h1, _⟩ := h
    subst ev
    exact lstC vs p (h1.elim (fun z => .inl z.1) .inr)
  | dct ks ds =>
    cases e
    simp only [RD] at h
    obtain ⟨p, kvs, ev, h1, _⟩ := h
    subst ev
    exact dctC kvs p h1
  | ref i =>
    have e' : (match w.st i with
      | some (.lst _) => some "list"
      | some (.dct _ _) => some "dict"
      | _ => none) = some a := e
    simp only [RD] at h
    obtain ⟨p, ev, h1⟩ := h
    subst ev
    split at e'
    · rename_i q
      cases e'
      obtain ⟨p', e2, vs, e3, _⟩ := r.ob i _ q
      rw [h1] at e2
      cases e2
      exact lstC vs p (.inl (.inl e3))
    · rename_i q
      cases e'
      obtain ⟨p', e2, kvs, e3, _⟩ := r.ob i _ q
      rw [h1] at e2
      cases e2
      exact dctC kvs p (.inl e3)
    · cases e'
  | ty n => cases e
  | cls n => cases e
  | exc c ns ds => cases e
def tysD : List D → Option (List String)
  | [] => some []
  | .ty b :: r => if askT b = true then (tysD r).map (b :: ·) else none
  | _ => none
def isiD (S : Store) : List D → Option D
  | [x, .ty b] => if askT b = true then (tyN S x).map fun a => .bl (subB a b) else none
  | [x, .tup cs] => (tyN S x).bind fun a => (tysD cs).map fun bs => .bl (bs.any (subB a))
  | _ => none
section
variable {X : Cx}
/-- isinstance(x, (c1, ..)), the tuple known to its object -/
theorem call_isiN : CallR X (.builtin "isinstance") (fun xs H Q => ∃ (x : V) (tp : Addr) (o : Obj) (cs : List V) (t : Value) (us : List Value) (b : Bool), xs = [x, .ref tp] ∧ H tp = some (.frz o (.tup cs)) ∧ Paired ClsV cs us ∧ TyX X.K H x t ∧ PySem.W.kitAny X.K t us = some b ∧ Q (.bl b) H) := by
  intro pins s σ H xs us Q I r h
  obtain ⟨x, tp, ob, cs, t, ws, b, rfl, hT, k, ty, e, q⟩ := h
  obtain ⟨u1, u2, rfl, r1, r2⟩ := vals2 r
  cases (show u2 = Value.ref tp from r2)
  obtain ⟨P, Z, p, hx⟩ := kit_of I r1 ty
  obtain ⟨_, _, its, rv, o, h1, h2, n, h3⟩ := (show ObjOk X.prog X.w H s.heap tp (.frz ob (.tup cs)) from I.hok tp _ hT)
  have e3 := ClsV.all k rv
  subst e3
  obtain ⟨oc, od, dt, sl⟩ := o
  simp only at h2 h3
  subst h2 h3
  exact PySem.W.kia_tup Z I.kIn p h1 e hx fun tk => ⟨.bl b, H, I.tok tk, rfl, q⟩
theorem kit_any {K : PySem.W.Frag} {a : String} (ha : valT a = true) : ∀ {bs : List String}, (∀ b ∈ bs, askT b = true) → PySem.W.kitAny K (.type a) (bs.map Value.type) = some (bs.any (subB a))
  | [], _ => rfl
  | b :: bs, h => by
    have h1 := kit_ty (K := K) (kit_sub ha (h b List.mem_cons_self))
    refine kitAny_cons h1 (fun e => ?_) (fun e => ?_)
    · rw [List.any_cons, e, Bool.false_or]
      exact kit_any ha fun b hb => h b (List.mem_cons_of_mem _ hb)
    · rw [List.any_cons, e, Bool.true_or]
theorem tysD_ok : ∀ {cs : List D} {bs : List String}, tysD cs = some bs → (∀ b ∈ bs, askT b = true) ∧ cs = bs.map D.ty
  | [], bs, h => by cases h; exact ⟨by simp, rfl⟩
  | .ty b :: r, bs, h => by
    have h' : (if askT b = true then (tysD r).map (b :: ·) else none) = some bs := h
    split at h'
    · rename_i hb
      obtain ⟨m, e1, e2⟩ := Option.map_eq_some_iff.mp h'
      subst e2
      obtain ⟨i1, i2⟩ := tysD_ok e1
      refine ⟨fun c hc => ?_, by rw [i2]; rfl⟩
      rcases List.mem_cons.mp hc with z | z
      · rw [z]; exact hb
      · exact i1 c z
    · cases h'
theorem RDs.tys {K : PySem.W.Frag} {w : Wd} : ∀ {bs : List String} {vs : List V}, RDs K w (bs.map D.ty) vs → Paired ClsV vs (bs.map Value.type)
  | [], vs, h => by rw [h.of_nil]; exact .nil
  | b :: bs, vs, h => by
    obtain ⟨v, r, e, h1, h2⟩ := RDs.of_cons (d := D.ty b) (ds := bs.map D.ty) h
    rw [rd_ty] at h1
    subst e h1
    exact .cons (.ty b) (RDs.tys h2)
theorem call_isiD : CallD X (.builtin "isinstance") isiD := by
  refine CallR.imp (CallR.or (call_isi (X := X)) (CallR.or call_isiN call_isiK)) ?_
  intro xs H Q ⟨w, ds, d, e, r, rv, eg, k⟩
  subst e
  match ds, eg with
  | [x, .ty b], eg =>
    have eg' : (if askT b = true then (tyN w.st x).map (fun a => D.bl (subB a b)) else none) = some d := eg
    split at eg'
    · rename_i hb
      obtain ⟨a, e1, e2⟩ := Option.map_eq_some_iff.mp eg'
      obtain ⟨v, v', e4, rv1, rv2⟩ := rv.two_of
      rw [rd_ty] at rv2
      subst e2 e4 rv2
      exact .inl ⟨v, .ty b, .type a, .type b, subB a b, rfl, .ty b, tyN_ok r rv1 e1, kit_ty (kit_sub (tyN_val e1) hb), CRel.fin rfl r k (by rw [rd_bl])⟩
    · cases eg'
  | [x, .tup cs], eg =>
    have eg' : ((tyN w.st x).bind fun a => (tysD cs).map fun bs => D.bl (bs.any (subB a))) = some d := eg
    obtain ⟨a, e1, e2⟩ := Option.bind_eq_some_iff.mp eg'
    obtain ⟨bs, e3, e5⟩ := Option.map_eq_some_iff.mp e2
    obtain ⟨v, v', e4, rv1, rv2⟩ := rv.two_of
    obtain ⟨hb, ec⟩ := tysD_ok e3
    simp only [RD] at rv2
    obtain ⟨p, vs, ev, ht, rvs⟩ := rv2
    subst e4 ev e5 ec
    have fin := CRel.fin rfl r k (v := .bl (bs.any (subB a))) (by rw [rd_bl])
    have ks := kit_any (K := X.K) (tyN_val e1) hb
    rcases ht with ⟨o, h1, _⟩ | ⟨o, its, n, h1, h2, hd, h3, h4, h5⟩
    · exact .inr (.inl ⟨v, p, o, vs, .type a, bs.map .type, _, rfl, h1, rvs.tys, tyN_ok r rv1 e1, ks, fin⟩)
    · obtain ⟨oc, od, dt, sl⟩ := o
      simp only at h2 hd h3
      subst h2 hd h3
      have e6 := ClsV.all rvs.tys h5
      refine .inr (.inr ⟨v, p, none, bs.map .type, n, sl, .type a, _, rfl, ?_, tyN_ok r rv1 e1, ks, fin⟩)
      rw [h1, ← e6]
end
end MI

set_option Elab.async false
set_option linter.all false
set_option maxRecDepth 100000
set_option maxHeartbeats 2000000
/-! MI: methods of built-in types. -/
namespace MI
open PySem PySem.Spec PyProof.Rows L2
/-- a method's answer by data, and the store behind it -/
abbrev MG := Store → D → List D → Option (D × Store)
def MRel (K : PySem.W.Frag) (g : MG) : V → List V → Hp → VK → Prop := fun x xs H Q => ∃ w dx ds d S', w.hp = H ∧ Rel K w ∧ RD K w dx x ∧ RDs K w ds xs ∧ g w.st dx ds = some (d, S') ∧
  ∀ w', w'.st = S' → w'.ph = w.ph → Le w w' → Rel K w' → ∀ v, RD K w' d v → Q v w'.hp
def MRelL (K : PySem.W.Frag) (g : Store → D → List D → Option (List D)) : V → List V → Hp → VK → Prop := fun x xs H Q => ∃ w dx ds d, w.hp = H ∧ Rel K w ∧ RD K w dx x ∧ RDs K w ds xs ∧ g w.st dx ds = some d ∧
  ∀ p vs, w.hp p = none → RDs K w d vs → Q (.ref p) (upd w.hp p (.lst vs))
def MethD (X : Cx) (id : String) (g : MG) : Prop := MtR X id (MRel X.K g)
def MethL (X : Cx) (id : String) (g : Store → D → List D → Option (List D)) : Prop := MtR X id (MRelL X.K g)
theorem MtR.imp {X : Cx} {id : String} {r r' : V → List V → Hp → VK → Prop} (h : MtR X id r) (k : ∀ x xs H Q, r' x xs H Q → r x xs H Q) : MtR X id r' := fun pins s σ H x xs v us Q I rx rs q => h pins s σ H x xs v us Q I rx rs (k x xs H Q q)
def methM (T : String) (g : MG) (f : EM) (fa : AM) : EM := fun ρ π S => bindR (f ρ (0 :: π) S) fun d S1 => if tyN S1 d = some T then bindR (fa ρ (1 :: π) S1) fun ds S2 => (match g S2 d ds with
  | some (r, S3) => okR r S3
  | none => none) else none
def methA (T : String) (g : Store → D → List D → Option (List D)) (f : EM) (fa : AM) : AM := fun ρ π S => bindR (f ρ (0 :: π) S) fun d S1 => if tyN S1 d = some T then bindR (fa ρ (1 :: π) S1) fun ds S2 => liftR (g S2 d ds) S2 else none
/-- of two types -/
def methM2 (T T' : String) (g g' : MG) (f : EM) (fa : AM) : EM := fun ρ π S => bindR (f ρ (0 :: π) S) fun d S1 => if tyN S1 d = some T then bindR (fa ρ (1 :: π) S1) fun ds S2 => (match g S2 d ds with
  | some (r, S3) => okR r S3
  | none => none) else if tyN S1 d = some T' then bindR (fa ρ (1 :: π) S1) fun ds S2 => (match g' S2 d ds with
  | some (r, S3) => okR r S3
  | none => none) else none
/-- the value is of the type, its object without a dict -/
def TyM (K : PySem.W.Frag) (H : Hp) (T : String) : V → Prop
  | .str _ => T = "str"
  | .int _ => T = "int"
  | .ref p => (T = "list" ∧ ∃ xs, SqL K H p xs) ∨ (T = "tuple" ∧ ∃ xs, TupN K H p xs) ∨ (T = "dict" ∧ ∃ kvs, Rd H p (.dK kvs))
  | _ => False
section
variable {X : Cx} {W : WX}
theorem tyM_is {pins : List (Addr × Obj)} {σ : L2.St} {H : Hp} {s : Shared} {T : String} {x : V} {v : Value} (I : Inv X pins σ H s) (r : RelV x v) (ty : TyM X.K H T x) : s.TypeIs v T ∧ ∀ a, v = .ref a → ∃ ob, s.heap.get? a = some ob ∧ ob.dict = none := by
  cases x with
  | str z =>
    obtain ⟨t, rfl⟩ := r
    cases (show T = "str" from ty)
    exact ⟨typeIs_str s z t, fun _ e => nomatch e⟩
  | int i =>
    obtain ⟨t, rfl⟩ := r
    cases (show T = "int" from ty)
    exact ⟨typeIs_int s i t, fun _ e => nomatch e⟩
  | ref p =>
    cases r
    rcases ty with ⟨rfl, xs, hq⟩ | ⟨rfl, xs, hq⟩ | ⟨rfl, kvs, hk⟩
    · obtain ⟨its, _, pl, _⟩ := I.list hq
      refine ⟨pl.isList.typeIs, fun a e => ?_⟩
      cases e
      obtain ⟨o, n, e, c, hd, _⟩ := pl
      exact ⟨o, e, hd⟩
    · exact TupN.ty I hq
    · obtain ⟨_, _, vs, _, o, es, ep, e, ex, _⟩ := dk_rd I.hok hk
      refine ⟨⟨o, e, ex.1⟩, fun a e2 => ?_⟩
      cases e2
      exact ⟨o, e, ex.2.1⟩
  | _ => exact False.elim ty
theorem tyN_M {K : PySem.W.Frag} {w : Wd} (r : Rel K w) {d : D} {v : V} {T : String} (h : RD K w d v) (e : tyN w.st d = some T) (hT : T = "str" ∨ T = "list" ∨ T = "tuple" ∨ T = "dict") : TyM K w.hp T v := by
  cases d with
  | non => cases e; simp at hT
  | bl b => cases e; simp at hT
  | int i => cases e; simp at hT
  | str x => cases e; rw [rd_str] at h; subst h; rfl
  | tup xs =>
    cases e
    simp only [RD] at h
    obtain ⟨p, vs, ev, h1, _⟩ := h
    subst ev
    exact .inr (.inl ⟨rfl, vs, h1⟩)
  | lst xs =>
    cases e
    simp only [RD] at h
    obtain ⟨p, vs, ev, h1, _⟩ := h
    subst ev
    exact .inl ⟨rfl, vs, h1.elim (fun z => .inl z.1) .inr⟩
  | dct ks ds =>
    cases e
    simp only [RD] at h
    obtain ⟨p, kvs, ev, h1, _⟩ := h
    subst ev
    exact .inr (.inr ⟨rfl, kvs, h1⟩)
  | ref i =>
    have e' : (match w.st i with
      | some (.lst _) => some "list"
      | some (.dct _ _) => some "dict"
      | _ => none) = some T := e
    simp only [RD] at h
    obtain ⟨p, ev, h1⟩ := h
    subst ev
    split at e'
    · rename_i q
      cases e'
      obtain ⟨p', e2, vs, e3, _⟩ := r.ob i _ q
      rw [h1] at e2
      cases e2
      exact .inl ⟨rfl, vs, .inl (.inl e3)⟩
    · rename_i q
      cases e'
      obtain ⟨p', e2, kvs, e3, _⟩ := r.ob i _ q
      rw [h1] at e2
      cases e2
      exact .inr (.inr ⟨rfl, kvs, .inl e3⟩)
    · cases e'
  | ty n => cases e
  | cls n => cases e
  | exc c ns ds => cases e
def tM0 (K : PySem.W.Frag) (T : String) (r : V → List V → Hp → VK → Prop) (to : TE) : TE := fun σ H Q => to σ H fun x H1 => TyM K H1 T x ∧ r x [] H1 Q
def tM (K : PySem.W.Frag) (T : String) (r : V → List V → Hp → VK → Prop) (to : TE) (t : TA) : TE := fun σ H Q => to σ H fun x H1 => TyM K H1 T x ∧ t σ H1 fun xs H2 => r x xs H2 Q
def tM2 (K : PySem.W.Frag) (T T' : String) (r r' : V → List V → Hp → VK → Prop) (to : TE) (t : TA) : TE := fun σ H Q => to σ H fun x H1 => (TyM K H1 T x ∧ t σ H1 fun xs H2 => r x xs H2 Q) ∨ (TyM K H1 T' x ∧ t σ H1 fun xs H2 => r' x xs H2 Q)
variable {o e : Expr} {es : List Expr} {to : TE} {t : TA} {name : Str} {apos cpos : Pos} {T T' id id' : String} {r r' : V → List V → Hp → VK → Prop}
theorem pe_m0 (pa : PlainAttrs T) (slot : Slot T name id) (hty : typeOf (.builtin id) = pure (.type "method_descriptor")) (hm : MtR X id r) (ho : PE X o to)
    (hbase : attributeBase o name X.env (eval o X.env) = eval o X.env := by rfl) (hline : (apos.endLine == cpos.line) = true := by rfl) : PE X (.Call (.Attribute o name apos) [] [] cpos) (tM0 X.K T r to) := by
  refine ⟨fun pins s σ H Q I h => ?_⟩
  refine wpAny_Call_method0_late hbase hline (thn (ho.run pins s σ H _ I h) fun v s1 ⟨x, H1, I1, r1, ty, q1⟩ => ?_)
  obtain ⟨h1, h2⟩ := tyM_is I1 r1 ty
  exact ⟨T, id, pa, slot, hty, h1, h2, Calls.callWith_builtin rfl (PySem.evalArgs_none (hm pins s1 σ H1 x [] v [] Q I1 r1 .nil q1))⟩
theorem pe_m2 (pa : PlainAttrs T) (slot : Slot T name id) (hty : typeOf (.builtin id) = pure (.type "method_descriptor")) (pa' : PlainAttrs T') (slot' : Slot T' name id') (hty' : typeOf (.builtin id') = pure (.type "method_descriptor"))
    (hm : MtR X id r) (hm' : MtR X id' r') (ho : PE X o to) (ha : PA X (e :: es) t)
    (hbase : attributeBase o name X.env (eval o X.env) = eval o X.env := by rfl)
    (hfew : ((backTo cpos (starEach (e :: es) X.env)).all (fun x => !x.1) && (backToKw cpos (keywordEach [] X.env)).all (fun x => x.1.isSome)
      && decide ((e :: es).length + ([] : List Keyword).length + (if ([] : List Keyword).isEmpty then 0 else 1) < 30)) = true := by rfl)
    (hline : (apos.endLine == cpos.line) = true := by rfl) (hs : starEach (e :: es) X.env = (false, eval e X.env) :: starEach es X.env := by rfl) (hplain : (backTo cpos (starEach es X.env)).any (·.1) = false := by rfl) :
    PE X (.Call (.Attribute o name apos) (e :: es) [] cpos) (tM2 X.K T T' r r' to t) := by
  refine ⟨fun pins s σ H Q I h => ?_⟩
  refine wpAny_Call_method_late hbase hfew hline rfl (thn (ho.run pins s σ H _ I h) fun v s1 ⟨x, H1, I1, r1, q⟩ => ?_)
  rcases q with ⟨ty, q1⟩ | ⟨ty, q1⟩
  · obtain ⟨h1, h2⟩ := tyM_is I1 r1 ty
    refine ⟨T, id, pa, slot, hty, h1, h2, ?_⟩
    have hA := ha.run cpos pins s1 σ H1 _ I1 q1
    rw [hs] at hA ⊢
    refine Calls.callWith_builtin (by show (false || (backTo cpos (starEach es X.env)).any (·.1)) = false; rw [hplain] <;> rfl) (Calls.evalArgs_plain ?_)
    exact thn hA fun us s2 ⟨vs, H2, I2, r2, q2⟩ => hm pins s2 σ H2 x vs v us Q I2 r1 r2 q2
  · obtain ⟨h1, h2⟩ := tyM_is I1 r1 ty
    refine ⟨T', id', pa', slot', hty', h1, h2, ?_⟩
    have hA := ha.run cpos pins s1 σ H1 _ I1 q1
    rw [hs] at hA ⊢
    refine Calls.callWith_builtin (by show (false || (backTo cpos (starEach es X.env)).any (·.1)) = false; rw [hplain] <;> rfl) (Calls.evalArgs_plain ?_)
    exact thn hA fun us s2 ⟨vs, H2, I2, r2, q2⟩ => hm' pins s2 σ H2 x vs v us Q I2 r1 r2 q2
variable {f : EM} {fa : AM} {g g' : MG} {gl : Store → D → List D → Option (List D)}
theorem se_m0 (pa : PlainAttrs T) (slot : Slot T name id) (hty : typeOf (.builtin id) = pure (.type "method_descriptor")) (hT : T = "str" ∨ T = "list" ∨ T = "tuple" ∨ T = "dict") (hm : MethD X id g) (ho : SE X W o f)
    (hbase : attributeBase o name X.env (eval o X.env) = eval o X.env := by rfl) (hline : (apos.endLine == cpos.line) = true := by rfl) : SE X W (.Call (.Attribute o name apos) [] [] cpos) (methM T g f nilM) := by
  refine pe_imp (pe_m0 pa slot hty hm ho hbase hline) ?_
  intro σ H Q ⟨w, ρ, π, c, h⟩
  refine ⟨w, ρ, 0 :: π, c.cf.sub, (Fin.stepL h).mono fun d w1 l1 r1 o1 h1 v rv => ?_⟩
  by_cases z : tyN w1.st d = some T
  · simp only [if_pos z] at h1
    have h2 : Fin X.K W σ w1 π (match g w1.st d [] with
      | some (r, S3) => okR r S3
      | none => none) _ := h1
    refine ⟨tyN_M r1 rv z hT, ?_⟩
    cases q : g w1.st d [] with
    | none => rw [q] at h2; exact h2.elim
    | some p =>
      obtain ⟨dd, S3⟩ := p
      rw [q] at h2
      exact ⟨w1, d, [], dd, S3, rfl, r1, rv, .nil, q, fun w' e1 e2 l rl v rv => h2.okd w' e1 l rl (Out.same e2) v rv⟩
  · simp only [if_neg z] at h1
    exact h1.elim
theorem mrel_end {K : PySem.W.Frag} {σ : L2.St} {Q : VK} {π : Id} {d : D} {v : V} {w1 : Wd} {g : MG} (rv : RD K w1 d v) (r1 : Rel K w1) {ρ : Env} {H : Hp} (c1 : Cf K w1 ρ σ w1.hp π 1)
    (h : Fin K W σ w1 π (bindR (fa ρ (1 :: π) w1.st) fun ds S2 => (match g S2 d ds with
      | some (r, S3) => okR r S3
      | none => none)) fun d w' => ∀ v, RD K w' d v → Q v w'.hp) : TA' K W fa σ w1.hp fun xs H2 => MRel K g v xs H2 Q := by
  refine ⟨w1, ρ, 1 :: π, c1.sub, (Fin.stepL h).mono fun ds w2 l2 r2 o2 h2 us rus => ?_⟩
  cases q : g w2.st d ds with
  | none => simp only [q] at h2; exact h2.elim
  | some p =>
    obtain ⟨dd, S3⟩ := p
    simp only [q] at h2
    exact ⟨w2, d, ds, dd, S3, rfl, r2, RD.mono r1 l2.toLe0 _ _ rv, rus, q, fun w' e1 e2 l rl v rv => h2.okd w' e1 l rl (Out.same e2) v rv⟩
theorem se_meth2 (pa : PlainAttrs T) (slot : Slot T name id) (hty : typeOf (.builtin id) = pure (.type "method_descriptor")) (hT : T = "str" ∨ T = "list" ∨ T = "tuple" ∨ T = "dict") (hm : MethD X id g)
    (pa' : PlainAttrs T') (slot' : Slot T' name id') (hty' : typeOf (.builtin id') = pure (.type "method_descriptor")) (hT' : T' = "str" ∨ T' = "list" ∨ T' = "tuple" ∨ T' = "dict") (hm' : MethD X id' g') (ho : SE X W o f) (ha : SA X W (e :: es) fa)
    (hbase : attributeBase o name X.env (eval o X.env) = eval o X.env := by rfl)
    (hfew : ((backTo cpos (starEach (e :: es) X.env)).all (fun x => !x.1) && (backToKw cpos (keywordEach [] X.env)).all (fun x => x.1.isSome)
      && decide ((e :: es).length + ([] : List Keyword).length + (if ([] : List Keyword).isEmpty then 0 else 1) < 30)) = true := by rfl)
    (hline : (apos.endLine == cpos.line) = true := by rfl) (hs : starEach (e :: es) X.env = (false, eval e X.env) :: starEach es X.env := by rfl) (hplain : (backTo cpos (starEach es X.env)).any (·.1) = false := by rfl) :
    SE X W (.Call (.Attribute o name apos) (e :: es) [] cpos) (methM2 T T' g g' f fa) := by
  refine pe_imp (pe_m2 pa slot hty pa' slot' hty' hm hm' ho ha hbase hfew hline hs hplain) ?_
  intro σ H Q ⟨w, ρ, π, c, h⟩
  refine ⟨w, ρ, 0 :: π, c.cf.sub, (Fin.stepL h).mono fun d w1 l1 r1 o1 h1 v rv => ?_⟩
  have c1 := c.cf.next l1 r1 o1
  by_cases z : tyN w1.st d = some T
  · simp only [if_pos z] at h1
    exact .inl ⟨tyN_M r1 rv z hT, mrel_end (H := w1.hp) rv r1 c1 h1⟩
  · simp only [if_neg z] at h1
    by_cases z' : tyN w1.st d = some T'
    · simp only [if_pos z'] at h1
      exact .inr ⟨tyN_M r1 rv z' hT', mrel_end (H := w1.hp) rv r1 c1 h1⟩
    · simp only [if_neg z'] at h1
      exact h1.elim
theorem se_meth (pa : PlainAttrs T) (slot : Slot T name id) (hty : typeOf (.builtin id) = pure (.type "method_descriptor")) (hT : T = "str" ∨ T = "list" ∨ T = "tuple" ∨ T = "dict") (hm : MethD X id g) (ho : SE X W o f) (ha : SA X W (e :: es) fa)
    (hbase : attributeBase o name X.env (eval o X.env) = eval o X.env := by rfl)
    (hfew : ((backTo cpos (starEach (e :: es) X.env)).all (fun x => !x.1) && (backToKw cpos (keywordEach [] X.env)).all (fun x => x.1.isSome)
      && decide ((e :: es).length + ([] : List Keyword).length + (if ([] : List Keyword).isEmpty then 0 else 1) < 30)) = true := by rfl)
    (hline : (apos.endLine == cpos.line) = true := by rfl) (hs : starEach (e :: es) X.env = (false, eval e X.env) :: starEach es X.env := by rfl) (hplain : (backTo cpos (starEach es X.env)).any (·.1) = false := by rfl) :
    SE X W (.Call (.Attribute o name apos) (e :: es) [] cpos) (methM T g f fa) := by
  refine pe_imp (pe_m2 pa slot hty pa slot hty hm hm ho ha hbase hfew hline hs hplain) ?_
  intro σ H Q ⟨w, ρ, π, c, h⟩
  refine ⟨w, ρ, 0 :: π, c.cf.sub, (Fin.stepL h).mono fun d w1 l1 r1 o1 h1 v rv => ?_⟩
  have c1 := c.cf.next l1 r1 o1
  by_cases z : tyN w1.st d = some T
  · simp only [if_pos z] at h1
    exact .inl ⟨tyN_M r1 rv z hT, mrel_end (H := w1.hp) rv r1 c1 h1⟩
  · simp only [if_neg z] at h1
    exact h1.elim
theorem sn_meth (pa : PlainAttrs T) (slot : Slot T name id) (hty : typeOf (.builtin id) = pure (.type "method_descriptor")) (hT : T = "str" ∨ T = "list" ∨ T = "tuple" ∨ T = "dict") (hm : MethL X id gl) (ho : SE X W o f) (ha : SA X W (e :: es) fa)
    (hbase : attributeBase o name X.env (eval o X.env) = eval o X.env := by rfl)
    (hfew : ((backTo cpos (starEach (e :: es) X.env)).all (fun x => !x.1) && (backToKw cpos (keywordEach [] X.env)).all (fun x => x.1.isSome)
      && decide ((e :: es).length + ([] : List Keyword).length + (if ([] : List Keyword).isEmpty then 0 else 1) < 30)) = true := by rfl)
    (hline : (apos.endLine == cpos.line) = true := by rfl) (hs : starEach (e :: es) X.env = (false, eval e X.env) :: starEach es X.env := by rfl) (hplain : (backTo cpos (starEach es X.env)).any (·.1) = false := by rfl) :
    SN X W (.Call (.Attribute o name apos) (e :: es) [] cpos) (methA T gl f fa) := by
  refine pe_imp (pe_m2 pa slot hty pa slot hty hm hm ho ha hbase hfew hline hs hplain) ?_
  intro σ H Q ⟨w, ρ, π, c, h⟩
  refine ⟨w, ρ, 0 :: π, c.cf.sub, (Fin.stepL h).mono fun d w1 l1 r1 o1 h1 v rv => ?_⟩
  have c1 := c.cf.next l1 r1 o1
  by_cases z : tyN w1.st d = some T
  · simp only [if_pos z] at h1
    refine .inl ⟨tyN_M r1 rv z hT, w1, ρ, 1 :: π, c1.sub, (Fin.stepL h1).mono fun ds w2 l2 r2 o2 h2 us rus => ?_⟩
    obtain ⟨dd, q, k⟩ := h2.lift
    exact ⟨w2, d, ds, dd, rfl, r2, RD.mono r1 l2.toLe0 _ _ rv, rus, q, fun p vs hp rv => k w2 rfl (Le.refl _) r2 (Out.refl _ _) p vs hp rv⟩
  · simp only [if_neg z] at h1
    exact h1.elim
end
end MI

set_option Elab.async false
set_option linter.all false
set_option maxRecDepth 100000
set_option maxHeartbeats 2000000
/-! MI: the methods of lists, tuples, texts, dicts. -/
namespace MI
open PySem PySem.Spec PyProof.Rows L2
def appendG : MG := fun S d ds => match d, ds with
  | .ref i, [x] => (match S i with
    | some (.lst xs) => if xs.length < sizeLine then some (.non, put S i (.lst (xs ++ [x]))) else none
    | _ => none)
  | _, _ => none
def popG : MG := fun S d ds => match d, ds with
  | .ref i, [] => (match S i with
    | some (.lst xs) => (xs[xs.length - 1]?).map fun y => (y, put S i (.lst xs.dropLast))
    | _ => none)
  | .ref i, [.int k] => (match S i with
    | some (.lst xs) => if -(2 ^ 63) ≤ k ∧ k < 2 ^ 63 then (ixN xs.length k).bind fun j => (xs[j]?).map fun y => (y, put S i (.lst (xs.eraseIdx j))) else none
    | _ => none)
  | _, _ => none
/-- how many items are equal -/
def countP (S : Store) (xs : List D) (x : D) : Option Nat := match toP S 8 x, xs.mapM (toP S 8) with
  | some a, some bs => if SeqAt.shaped a && SeqAt.shaped (.list bs) && SeqAt.shaped (.tuple bs) then some (bs.countP fun z => PyData.eqv z a) else none
  | _, _ => none
def tupD : D → Option (List D)
  | .tup xs => some xs
  | _ => none
def countW (sel : Store → D → Option (List D)) : MG := fun S d ds => match ds with
  | [x] => (sel S d).bind fun xs => (countP S xs x).map fun (n : Nat) => (.int (n : Int), S)
  | _ => none
abbrev lcountG := countW lstD
abbrev tcountG := countW fun _ => tupD
def strsD : List D → Option (List Str)
  | [] => some []
  | .str i :: r => (strsD r).map (i :: ·)
  | _ => none
theorem strsD_eq : ∀ {ds : List D} {ns : List Str}, strsD ds = some ns → ds = ns.map D.str
  | [], ns, h => by cases h; rfl
  | .str i :: r, ns, h => by
    have h' : (strsD r).map (i :: ·) = some ns := h
    obtain ⟨m, e1, e2⟩ := Option.map_eq_some_iff.mp h'
    subst e2
    rw [strsD_eq e1]
    rfl
theorem strsD_map (ns : List Str) : strsD (ns.map D.str) = some ns := by
  induction ns with
  | nil => rfl
  | cons n ns ih =>
    show (strsD (ns.map D.str)).map (n :: ·) = _
    rw [ih]
    rfl
def joinG : MG := fun S d ds => match d, ds with
  | .str a, [x] => (seqD S x).bind fun xs => (strsD xs).bind fun ys => if (ys.map (·.length)).sum + ys.length * a.length ≤ 16777216 then some (.str (Txt.join a ys), S) else none
  | _, _ => none
def splitA (_ : Store) (d : D) (ds : List D) : Option (List D) := match d, ds with
  | .str a, [.str b] => if (b.length == 0) = false ∧ a.length + 2 ≤ sizeLine then some ((Txt.split a b).map .str) else none
  | _, _ => none
def startsG : MG := fun S d ds => match d, ds with
  | .str a, [.str b] => some (.bl (Txt.startswith a b), S)
  | _, _ => none
def endsG : MG := fun S d ds => match d, ds with
  | .str a, [.str b] => some (.bl (Txt.endswith a b), S)
  | _, _ => none
def getG : MG := fun S d ds => match ds with
  | [k] => (dctD S d).bind fun p => (keyD k).map fun k => ((valD p.1 p.2 k).getD .non, S)
  | [k, x] => (dctD S d).bind fun p => (keyD k).map fun k => ((valD p.1 p.2 k).getD x, S)
  | _ => none
theorem MRel.fin {K : PySem.W.Frag} {w : Wd} {d : D} {S' : Store} {H : Hp} {Q : VK} (e : w.hp = H) (eS : w.st = S') (r : Rel K w) (k : ∀ w', w'.st = S' → w'.ph = w.ph → Le w w' → Rel K w' → ∀ v, RD K w' d v → Q v w'.hp) {v : V} (h : RD K w d v) : Q v H := by
  have q := k w eS rfl (Le.refl w) r v h
  rw [e] at q
  exact q
/-- a list of the store -/
theorem RD.lstOb {K : PySem.W.Frag} {w : Wd} (r : Rel K w) {i : Id} {xs : List D} {v : V} (h : RD K w (.ref i) v) (e : w.st i = some (.lst xs)) : ∃ a vs, v = .ref a ∧ w.ph i = some a ∧ w.hp a = some (.lst vs) ∧ RDs K w xs vs := by
  simp only [RD] at h
  obtain ⟨a, e1, h1⟩ := h
  obtain ⟨a', e2, vs, e3, h2⟩ := r.ob i _ e
  rw [h1] at e2
  cases e2
  exact ⟨a, vs, e1, h1, e3, h2⟩
section
variable {X : Cx}
theorem mt_appendD : MethD X "list.append" appendG := by
  refine MtR.imp (mt_append (X := X)) ?_
  intro x xs H Q ⟨w, dx, ds, d, S', e, r, rx, rs, eg, k⟩
  subst e
  match dx, ds, eg with
  | .ref i, [y], eg =>
    have eg' : (match w.st i with
      | some (.lst zs) => if zs.length < sizeLine then some (D.non, put w.st i (.lst (zs ++ [y]))) else none
      | _ => none) = some (d, S') := eg
    split at eg'
    · rename_i zs q
      split at eg'
      · rename_i hz
        obtain ⟨a, vs, e1, ha, e3, rvs⟩ := rx.lstOb r q
        obtain ⟨v, ev, rv⟩ := rs.one_of
        have e4 : D.non = d ∧ put w.st i (.lst (zs ++ [y])) = S' := by
          have := Option.some.inj eg'
          exact ⟨congrArg Prod.fst this, congrArg Prod.snd this⟩
        obtain ⟨e4, e5⟩ := e4
        subst e1 ev e4
        refine ⟨a, vs, v, rfl, rfl, e3, by rw [← rvs.length]; exact hz, ?_⟩
        have lc := le_chg (ob' := .lst (zs ++ [y])) (o := .lst (vs ++ [v])) r q ha
        exact k (w.chg i a (.lst (zs ++ [y])) (.lst (vs ++ [v]))) e5 rfl lc (rel_chg r q ha ⟨_, upd_same, (RDs.mono r lc.toLe0 _ _ rvs).append (.one (RD.mono r lc.toLe0 _ _ rv))⟩) _ (by rw [rd_non])
      · cases eg'
    · cases eg'
theorem RDs.dropLast {K : PySem.W.Frag} {w : Wd} {ds : List D} {vs : List V} (h : RDs K w ds vs) : RDs K w ds.dropLast vs.dropLast := by
  rw [List.dropLast_eq_take, List.dropLast_eq_take, h.length]
  exact h.take _
theorem RDs.eraseIdx {K : PySem.W.Frag} {w : Wd} : ∀ {ds : List D} {vs : List V} (j : Nat), RDs K w ds vs → RDs K w (ds.eraseIdx j) (vs.eraseIdx j)
  | [], vs, j, h => by rw [h.of_nil]; simp only [List.eraseIdx_nil]; exact .nil
  | d :: ds, vs, j, h => by
    obtain ⟨v, r, e, h1, h2⟩ := h.of_cons
    subst e
    cases j with
    | zero => exact h2
    | succ j => exact .cons h1 (RDs.eraseIdx j h2)
theorem mt_popD : MethD X "list.pop" popG := by
  refine MtR.imp (MtR.or (mt_pop (X := X)) mt_popAt) ?_
  intro x xs H Q ⟨w, dx, ds, d, S', e, r, rx, rs, eg, k⟩
  subst e
  match dx, ds, eg with
  | .ref i, [], eg =>
    have eg' : (match w.st i with
      | some (.lst zs) => (zs[zs.length - 1]?).map fun y => (y, put w.st i (.lst zs.dropLast))
      | _ => none) = some (d, S') := eg
    split at eg'
    · rename_i zs q
      obtain ⟨y, ey, e5⟩ := Option.map_eq_some_iff.mp eg'
      obtain ⟨a, vs, e1, ha, e3, rvs⟩ := rx.lstOb r q
      have ev := rs.of_nil
      obtain ⟨v, e6, rv⟩ := rvs.get ey
      have e7 : y = d := congrArg Prod.fst e5
      have e8 : put w.st i (.lst zs.dropLast) = S' := congrArg Prod.snd e5
      subst e1 ev e7
      refine .inl ⟨a, vs, v, rfl, rfl, e3, by rw [← rvs.length]; exact e6, ?_⟩
      have lc := le_chg (ob' := .lst zs.dropLast) (o := .lst vs.dropLast) r q ha
      exact k (w.chg i a (.lst zs.dropLast) (.lst vs.dropLast)) e8 rfl lc (rel_chg r q ha ⟨_, upd_same, RDs.dropLast (RDs.mono r lc.toLe0 _ _ rvs)⟩) _ (RD.mono r lc.toLe0 _ _ rv)
    · cases eg'
  | .ref i, [.int n], eg =>
    have eg' : (match w.st i with
      | some (.lst zs) => if -(2 ^ 63) ≤ n ∧ n < 2 ^ 63 then (ixN zs.length n).bind fun j => (zs[j]?).map fun y => (y, put w.st i (.lst (zs.eraseIdx j))) else none
      | _ => none) = some (d, S') := eg
    split at eg'
    · rename_i zs q
      by_cases hn : -(2 ^ 63) ≤ n ∧ n < 2 ^ 63
      case neg => rw [if_neg hn] at eg'; cases eg'
      rw [if_pos hn] at eg'
      obtain ⟨j, ej, eg2⟩ := Option.bind_eq_some_iff.mp eg'
      obtain ⟨y, ey, e5⟩ := Option.map_eq_some_iff.mp eg2
      obtain ⟨a, vs, e1, ha, e3, rvs⟩ := rx.lstOb r q
      obtain ⟨v', ev, rv'⟩ := rs.one_of
      rw [rd_int] at rv'
      obtain ⟨v, e6, rv⟩ := rvs.get ey
      have e7 : y = d := congrArg Prod.fst e5
      have e8 : put w.st i (.lst (zs.eraseIdx j)) = S' := congrArg Prod.snd e5
      subst e1 rv' ev e7
      obtain ⟨s1, s2, s3, s4⟩ := ixN_seq ej
      have lc := le_chg (ob' := .lst (zs.eraseIdx j)) (o := .lst (vs.eraseIdx j)) r q ha
      have q2 := k (w.chg i a (.lst (zs.eraseIdx j)) (.lst (vs.eraseIdx j))) e8 rfl lc (rel_chg r q ha ⟨_, upd_same, RDs.eraseIdx j (RDs.mono r lc.toLe0 _ _ rvs)⟩) _ (RD.mono r lc.toLe0 _ _ rv)
      exact .inr ⟨a, vs, n, j, v, rfl, rfl, e3, hn.1, hn.2, by rw [← rvs.length]; exact s1, e6, q2⟩
    · cases eg'
theorem mt_countR (hu : X.A.units + 65 < cLine) : MtR X "list.count" (fun x xs H Q => ∃ d ds y, xs = [y] ∧ Dp X.K H x (.list ds) ∧ Dp X.K H y d ∧ SeqAt.shaped d = true ∧ SeqAt.shaped (.list ds) = true ∧ Q (.int ((ds.countP fun z => PyData.eqv z d : Nat) : Int)) H) := by
  intro pins s σ H x xs v us Q I rx rxs h
  obtain ⟨d, ds, y, rfl, hl, hy, sd, sl, q⟩ := h
  obtain ⟨u, rfl, ru⟩ := rxs.one
  obtain ⟨as, r1⟩ := Dp.reads I (.list ds) x v hl rx
  obtain ⟨bs, r2⟩ := Dp.reads I d y u hy ru
  cases r1 with
  | @list a o vs n xs as h1 h2 h3 h4 =>
    obtain ⟨oc, od, dt, sl'⟩ := o
    simp only at h2 h3
    subst h2 h3
    have cl := SeqAt.canLay_of_shaped sl
    refine call_meets PySem.F.slot_list_count ⟨_, h1, rfl⟩ PySem.F.entry_list_count (PySem.F.args_list_count_2 _ _)
      (SeqAt.list_countAt _ _ _ _ _ u _) ⟨h1, SeqAt.items_eqAt h4 r2 cl (SeqAt.canLay_of_shaped sd) (room_in_shaped sd hu), ?_⟩
    refine ⟨.int _, H, I.tok _, ⟨s.toks, ?_⟩, q⟩
    congr 2
    rw [← SeqAt.readsAll_map ds _ _ cl h4, List.countP_map]
    rfl
theorem mt_tcountR (hu : X.A.units + 65 < cLine) : MtR X "tuple.count" (fun x xs H Q => ∃ d ds y, xs = [y] ∧ Dp X.K H x (.tuple ds) ∧ Dp X.K H y d ∧ SeqAt.shaped d = true ∧ SeqAt.shaped (.tuple ds) = true ∧ Q (.int ((ds.countP fun z => PyData.eqv z d : Nat) : Int)) H) := by
  intro pins s σ H x xs v us Q I rx rxs h
  obtain ⟨d, ds, y, rfl, hl, hy, sd, sl, q⟩ := h
  obtain ⟨u, rfl, ru⟩ := rxs.one
  obtain ⟨as, r1⟩ := Dp.reads I (.tuple ds) x v hl rx
  obtain ⟨bs, r2⟩ := Dp.reads I d y u hy ru
  cases r1 with
  | @tuple a o vs n xs as h1 h2 h3 h4 =>
    obtain ⟨oc, od, dt, sl'⟩ := o
    simp only at h2 h3
    subst h2 h3
    have cl := SeqAt.canLay_of_shaped sl
    refine call_meets PySem.F.slot_tuple_count ⟨_, h1, rfl⟩ PySem.F.entry_tuple_count (PySem.F.args_tuple_count_2 _ _)
      (SeqAt.tuple_countAt _ _ _ _ _ u _) ⟨h1, SeqAt.items_eqAt h4 r2 cl (SeqAt.canLay_of_shaped sd) (room_in_shaped sd hu), ?_⟩
    refine ⟨.int _, H, I.tok _, ⟨s.toks, ?_⟩, q⟩
    congr 2
    rw [← SeqAt.readsAll_map ds _ _ cl h4, List.countP_map]
    rfl
theorem countW_cases {sel : Store → D → Option (List D)} {S S' : Store} {x d : D} {ds : List D} (eg : countW sel S x ds = some (d, S')) : ∃ y ys a bs, ds = [y] ∧ sel S x = some ys ∧ toP S 8 y = some a ∧ ys.mapM (toP S 8) = some bs ∧ SeqAt.shaped a = true ∧ SeqAt.shaped (.list bs) = true ∧ SeqAt.shaped (.tuple bs) = true ∧
    d = .int ((bs.countP fun z => PyData.eqv z a : Nat) : Int) ∧ S' = S := by
  match ds, eg with
  | [y], eg =>
    have eg' : ((sel S x).bind fun xs => (countP S xs y).map fun (n : Nat) => (D.int (n : Int), S)) = some (d, S') := eg
    obtain ⟨ys, e1, e2⟩ := Option.bind_eq_some_iff.mp eg'
    obtain ⟨n, e3, e4⟩ := Option.map_eq_some_iff.mp e2
    have e3' : (match toP S 8 y, ys.mapM (toP S 8) with
      | some a, some bs => if SeqAt.shaped a && SeqAt.shaped (.list bs) && SeqAt.shaped (.tuple bs) then some (bs.countP fun z => PyData.eqv z a) else none
      | _, _ => none) = some n := e3
    split at e3'
    · rename_i a bs q1 q2
      split at e3'
      · rename_i hs
        simp only [Bool.and_eq_true] at hs
        have e5 := Option.some.inj e3'
        subst e5
        exact ⟨y, ys, a, bs, rfl, e1, q1, q2, hs.1.1, hs.1.2, hs.2, (congrArg Prod.fst e4).symm, (congrArg Prod.snd e4).symm⟩
      · cases e3'
    · cases e3'
theorem mt_lcountD (hu : X.A.units + 65 < cLine) : MethD X "list.count" lcountG := by
  refine MtR.imp (mt_countR hu) ?_
  rintro x xs H Q ⟨w, dx, ds, d, S', e, r, rx, rs, eg, k⟩
  obtain ⟨y, ys, a, bs, e1, e2, e3, e4, s1, s2, s3, e5, e6⟩ := countW_cases eg
  subst e e1 e5 e6
  obtain ⟨v, ev, rv⟩ := rs.one_of
  obtain ⟨p, vs, ep, hq, rvs⟩ := lstD_ok r rx e2
  have all := dpAll_of (K := X.K) (w := w) (S := w.st) (n := 8) (fun d v p => toP_ok r 8 d v p) ys vs bs rvs e4
  subst ev ep
  exact ⟨a, bs, v, rfl, .lst hq all, toP_ok r 8 _ _ _ rv e3, s1, s2, MRel.fin rfl rfl r k (by rw [rd_int])⟩
theorem mt_tcountD (hu : X.A.units + 65 < cLine) : MethD X "tuple.count" tcountG := by
  refine MtR.imp (mt_tcountR hu) ?_
  rintro x xs H Q ⟨w, dx, ds, d, S', e, r, rx, rs, eg, k⟩
  obtain ⟨y, ys, a, bs, e1, e2, e3, e4, s1, s2, s3, e5, e6⟩ := countW_cases eg
  subst e e1 e5 e6
  obtain ⟨v, ev, rv⟩ := rs.one_of
  have e2' : tupD dx = some ys := e2
  cases dx with
  | tup zs =>
    have ez : zs = ys := Option.some.inj e2'
    subst ez
    simp only [RD] at rx
    obtain ⟨p, vs, ep, hq, rvs⟩ := rx
    have all := dpAll_of (K := X.K) (w := w) (S := w.st) (n := 8) (fun d v p => toP_ok r 8 d v p) zs vs bs rvs e4
    subst ev ep
    exact ⟨a, bs, v, rfl, .tup hq.sq all, toP_ok r 8 _ _ _ rv e3, s1, s3, MRel.fin rfl rfl r k (by rw [rd_int])⟩
  | _ => cases e2'
theorem RDs.strs' {K : PySem.W.Frag} {w : Wd} {xs : List D} {ys : List Str} {vs : List V} (h : RDs K w xs vs) (e : strsD xs = some ys) : vs = ys.map V.str := by
  rw [strsD_eq e] at h
  exact h.strs
theorem mt_joinD : MethD X "str.join" joinG := by
  refine MtR.imp (mt_join (X := X)) ?_
  rintro x xs H Q ⟨w, dx, ds, d, S', e, r, rx, rs, eg, k⟩
  subst e
  match dx, ds, eg with
  | .str a, [y], eg =>
    have eg' : ((seqD w.st y).bind fun xs => (strsD xs).bind fun ys => if (ys.map (·.length)).sum + ys.length * a.length ≤ 16777216 then some (D.str (Txt.join a ys), w.st) else none) = some (d, S') := eg
    obtain ⟨zs, e1, e2⟩ := Option.bind_eq_some_iff.mp eg'
    obtain ⟨ys, e3, e4⟩ := Option.bind_eq_some_iff.mp e2
    split at e4
    · rename_i hz
      obtain ⟨v, ev, rv⟩ := rs.one_of
      obtain ⟨p, vs, ep, hq, rvs⟩ := seqD_ok r rv e1
      have e5 := rvs.strs' e3
      rw [rd_str] at rx
      have e6 : D.str (Txt.join a ys) = d := congrArg Prod.fst (Option.some.inj e4)
      have e7 : w.st = S' := congrArg Prod.snd (Option.some.inj e4)
      subst ev ep rx e5 e6
      exact ⟨a, p, ys, rfl, rfl, hq.symm, hz, MRel.fin rfl e7 r k (by rw [rd_str])⟩
    · cases e4
theorem mt_splitD : MethL X "str.split" splitA := by
  refine MtR.imp (mt_split (X := X)) ?_
  rintro x xs H Q ⟨w, dx, ds, d, e, r, rx, rs, eg, k⟩
  subst e
  match dx, ds, eg with
  | .str a, [.str b], eg =>
    have eg' : (if (b.length == 0) = false ∧ a.length + 2 ≤ sizeLine then some ((Txt.split a b).map D.str) else none) = some d := eg
    split at eg'
    · rename_i hz
      have e5 := Option.some.inj eg'
      obtain ⟨v, ev, rv⟩ := rs.one_of
      rw [rd_str] at rx rv
      subst ev rx rv e5
      exact ⟨a, b, rfl, rfl, hz.1, hz.2, fun p hp => k p _ hp (RDs.of_strs _)⟩
    · cases eg'
theorem mt_startsD : MethD X "str.startswith" startsG := by
  refine MtR.imp (mt_startswith (X := X)) ?_
  rintro x xs H Q ⟨w, dx, ds, d, S', e, r, rx, rs, eg, k⟩
  subst e
  match dx, ds, eg with
  | .str a, [.str b], eg =>
    have e6 : D.bl (Txt.startswith a b) = d := congrArg Prod.fst (Option.some.inj eg)
    have e7 : w.st = S' := congrArg Prod.snd (Option.some.inj eg)
    obtain ⟨v, ev, rv⟩ := rs.one_of
    rw [rd_str] at rx rv
    subst ev rx rv e6
    exact ⟨a, b, rfl, rfl, MRel.fin rfl e7 r k (by rw [rd_bl])⟩
theorem mt_endsD : MethD X "str.endswith" endsG := by
  refine MtR.imp (mt_endswith (X := X)) ?_
  rintro x xs H Q ⟨w, dx, ds, d, S', e, r, rx, rs, eg, k⟩
  subst e
  match dx, ds, eg with
  | .str a, [.str b], eg =>
    have e6 : D.bl (Txt.endswith a b) = d := congrArg Prod.fst (Option.some.inj eg)
    have e7 : w.st = S' := congrArg Prod.snd (Option.some.inj eg)
    obtain ⟨v, ev, rv⟩ := rs.one_of
    rw [rd_str] at rx rv
    subst ev rx rv e6
    exact ⟨a, b, rfl, rfl, MRel.fin rfl e7 r k (by rw [rd_bl])⟩
theorem mt_getR (hu : X.A.units + 1 < cLine) : MtR X "dict.get" (fun x xs H Q => (∃ a y o, x = .ref a ∧ xs = [y] ∧ DGet H a y o ∧ Q (o.getD .non) H) ∨ ∃ a y z o, x = .ref a ∧ xs = [y, z] ∧ DGet H a y o ∧ Q (o.getD z) H) := by
  intro pins s σ H x xs v us Q I rx rxs h
  rcases h with ⟨a, y, o, rfl, rfl, g, q⟩ | ⟨a, y, z, o, rfl, rfl, g, q⟩
  · cases rx
    obtain ⟨u, rfl, ru⟩ := rxs.one
    exact d_get1 hu I g ru fun w' s' I' r' => ⟨_, H, I', r', q⟩
  · cases rx
    obtain ⟨u, u', rfl, ru, ru'⟩ := rxs.two
    exact d_get2 hu I g ru ru' fun w' s' I' r' => ⟨_, H, I', r', q⟩
theorem mt_getD (hu : X.A.units + 1 < cLine) : MethD X "dict.get" getG := by
  refine MtR.imp (mt_getR hu) ?_
  rintro x xs H Q ⟨w, dx, ds, d, S', e, r, rx, rs, eg, k⟩
  subst e
  have go : ∀ p kk, dctD w.st dx = some p → ∃ a, x = .ref a ∧ ∀ y ky, keyD ky = some kk → RD X.K w ky y → ∃ o, DGet w.hp a y o ∧ ∀ dd zz, RD X.K w dd zz → RD X.K w ((valD p.1 p.2 kk).getD dd) (o.getD zz) := fun p kk hp => by
    obtain ⟨a, kvs, ea, hq, e5, rvs⟩ := dctD_ok r rx hp
    refine ⟨a, ea, fun y ky hk hy => ⟨valV kvs kk, .inl ⟨kvs, kk, hq, keyD_ok hy hk, rfl⟩, fun dd zz hz => ?_⟩⟩
    have vo := valD_ok (w := w) kk e5 rvs
    cases q : valD p.1 p.2 kk with
    | none => rw [q] at vo; rw [vo]; exact hz
    | some d => rw [q] at vo; obtain ⟨v, ev, rv⟩ := vo; rw [ev]; exact rv
  match ds, eg with
  | [y], eg =>
    have eg' : ((dctD w.st dx).bind fun p => (keyD y).map fun k => ((valD p.1 p.2 k).getD D.non, w.st)) = some (d, S') := eg
    obtain ⟨p, e1, e2⟩ := Option.bind_eq_some_iff.mp eg'
    obtain ⟨kk, e3, e4⟩ := Option.map_eq_some_iff.mp e2
    obtain ⟨v, ev, rv⟩ := rs.one_of
    obtain ⟨a, ea, h⟩ := go p kk e1
    obtain ⟨o, g, hr⟩ := h v y e3 rv
    have e6 : (valD p.1 p.2 kk).getD D.non = d := congrArg Prod.fst e4
    have e7 : w.st = S' := congrArg Prod.snd e4
    subst ev ea e6
    exact .inl ⟨a, v, o, rfl, rfl, g, MRel.fin rfl e7 r k (hr _ _ (by rw [rd_non]))⟩
  | [y, z], eg =>
    have eg' : ((dctD w.st dx).bind fun p => (keyD y).map fun k => ((valD p.1 p.2 k).getD z, w.st)) = some (d, S') := eg
    obtain ⟨p, e1, e2⟩ := Option.bind_eq_some_iff.mp eg'
    obtain ⟨kk, e3, e4⟩ := Option.map_eq_some_iff.mp e2
    obtain ⟨v, v', ev, rv, rv'⟩ := rs.two_of
    obtain ⟨a, ea, h⟩ := go p kk e1
    obtain ⟨o, g, hr⟩ := h v y e3 rv
    have e6 : (valD p.1 p.2 kk).getD z = d := congrArg Prod.fst e4
    have e7 : w.st = S' := congrArg Prod.snd e4
    subst ev ea e6
    exact .inr ⟨a, v, v', o, rfl, rfl, g, MRel.fin rfl e7 r k (hr _ _ rv')⟩
end
end MI

set_option Elab.async false
set_option linter.all false
set_option maxRecDepth 100000
set_option maxHeartbeats 2000000
/-! MI: comprehensions. -/
namespace MI
open PySem PySem.Spec PyProof.Rows L2
/-! ### a world with one more object that is being made -/
def Wd.hide (u : Wd) (D : Addr) (o : HO) : Wd := ⟨u.ph, u.st, upd u.hp D o, fun a => u.hid a ∨ a = D⟩
def Wd.drop (w : Wd) (D : Addr) : Wd := ⟨w.ph, w.st, fun b => if b = D then none else w.hp b, fun a => w.hid a ∧ a ≠ D⟩
section
variable {K : PySem.W.Frag} {u w : Wd} {A : Addr} {o : HO}
theorem drop_hide (r : Rel K u) (hp : u.hp A = none) : (u.hide A o).drop A = u := by
  obtain ⟨ph, st, hp', hid⟩ := u
  have e1 : (fun b => if b = A then none else upd hp' A o b) = hp' := by
    funext b
    by_cases q : b = A
    · subst q; rw [if_pos rfl]; exact hp.symm
    · rw [if_neg q]; exact upd_ne q
  have e2 : (fun a => (hid a ∨ a = A) ∧ a ≠ A) = hid := by
    funext a
    refine propext ⟨fun ⟨h, n⟩ => h.elim id fun z => absurd z n, fun h => ⟨.inl h, fun z => ?_⟩⟩
    obtain ⟨⟨x, e, _⟩, _⟩ := r.hd a h
    rw [z] at e
    have hp2 : hp' A = none := hp
    have e' : hp' A = some x := e
    rw [hp2] at e'
    cases e'
  exact congr (congrArg (Wd.mk ph st) e1) e2
theorem hide_drop (hd : w.hid A) (hp : w.hp A = some o) : (w.drop A).hide A o = w := by
  obtain ⟨ph, st, hp', hid⟩ := w
  have e1 : upd (fun b => if b = A then none else hp' b) A o = hp' := by
    funext b
    by_cases q : b = A
    · subst q; rw [upd_same]; exact hp.symm
    · rw [upd_ne q]; exact if_neg q
  have e2 : (fun a => (hid a ∧ a ≠ A) ∨ a = A) = hid := by
    funext a
    refine propext ⟨fun h => h.elim (fun z => z.1) fun z => by rw [z]; exact hd, fun h => ?_⟩
    by_cases q : a = A
    · exact .inr q
    · exact .inl ⟨h, q⟩
  exact congr (congrArg (Wd.mk ph st) e1) e2
theorem le_hide (r : Rel K u) (hp : u.hp A = none) : Le0 u (u.hide A o) where
  ph := fun _ _ h => h
  hp := fun a x h d => ⟨⟨x, (upd_ne (ne_of_none h hp)).trans h, .refl x⟩, d.1, fun z => z.elim d.2 (ne_of_none h hp)⟩
  hd := fun a h => ⟨.inl h, by
    obtain ⟨⟨x, e, _⟩, _⟩ := r.hd a h
    exact upd_ne (ne_of_none e hp)⟩
theorem rel_hide (r : Rel K u) (hp : u.hp A = none) (ho : isO o = true) : Rel K (u.hide A o) := by
  refine ⟨fun i x h => ?_, r.inj, fun i a h => ?_, fun a h => ?_⟩
  · obtain ⟨a, e1, e2⟩ := r.ob i x h
    refine ⟨a, e1, OR.mono r (le_hide r hp) (upd_ne ?_) e2⟩
    obtain ⟨y, e3, _⟩ := e2.isO
    exact ne_of_none e3 hp
  · obtain ⟨x, e⟩ := r.tr i a h
    exact ⟨x, (upd_ne (ne_of_none e hp)).trans e⟩
  · by_cases q : a = A
    · subst q
      exact ⟨⟨o, upd_same, ho⟩, r.nph hp⟩
    · obtain ⟨⟨x, e, z⟩, n⟩ := r.hd a (h.elim id fun z => absurd z q)
      exact ⟨⟨x, (upd_ne q).trans e, z⟩, n⟩
/-- what one reads is not what is being made -/
theorem TupN.drop {a : Addr} {vs : List V} (hp : w.hp A = some o) (ho : isO o = true) (h : TupN K w.hp a vs) : TupN K (w.drop A).hp a vs := by
  rcases h with ⟨x, h, hd⟩ | h
  · refine .inl ⟨x, ?_, hd⟩
    have q : a ≠ A := fun q => by
      rw [q, hp] at h
      cases h
      cases ho
    exact (if_neg q).trans h
  · exact .inr h
theorem Dead.drop {a : Addr} (hd : w.hid A) (d : Dead w a) : a ≠ A ∧ Dead (w.drop A) a := ⟨fun q => d.2 (by rw [q]; exact hd), d.1, fun z => d.2 z.1⟩
theorem Rd.drop {a : Addr} {x : HO} (q : a ≠ A) (h : Rd w.hp a x) : Rd (w.drop A).hp a x := by
  rcases h with h | ⟨y, h⟩
  · exact .inl ((if_neg q).trans h)
  · exact .inr ⟨y, (if_neg q).trans h⟩
mutual
theorem RD.drop (hd : w.hid A) (hp : w.hp A = some o) (ho : isO o = true) : ∀ (d : D) (v : V), RD K w d v → RD K (w.drop A) d v
  | .non, v, h => by simp only [RD] at h ⊢; exact h
  | .bl b, v, h => by simp only [RD] at h ⊢; exact h
  | .int i, v, h => by simp only [RD] at h ⊢; exact h
  | .str s, v, h => by simp only [RD] at h ⊢; exact h
  | .ty n, v, h => by simp only [RD] at h ⊢; exact h
  | .cls n, v, h => by simp only [RD] at h ⊢; exact h
  | .exc c ns ds, v, h => by
    simp only [RD] at h ⊢
    have ne : ∀ {a : Addr} {x : HO}, w.hp a = some x → isO x = false → a ≠ A := fun e z q => by
      rw [q, hp] at e
      cases e
      rw [ho] at z
      cases z
    obtain ⟨a, e, h⟩ := h
    refine ⟨a, e, ?_⟩
    rcases h with ⟨h1, h2, h3⟩ | ⟨d, fs, h1, h2, h3, h4⟩
    · exact .inl ⟨h1, h2, (if_neg (ne h3 rfl)).trans h3⟩
    · exact .inr ⟨d, fs, (if_neg (ne h1 rfl)).trans h1, (if_neg (ne h2 rfl)).trans h2, h3, RDs.drop' hd hp ho ds _ h4⟩
  | .tup ds, v, h => by
    simp only [RD] at h ⊢
    obtain ⟨a, vs, e, h1, h2⟩ := h
    exact ⟨a, vs, e, h1.drop hp ho, RDs.drop' hd hp ho ds vs h2⟩
  | .lst ds, v, h => by
    simp only [RD] at h ⊢
    obtain ⟨a, vs, e, h1, h2⟩ := h
    refine ⟨a, vs, e, ?_, RDs.drop' hd hp ho ds vs h2⟩
    rcases h1 with ⟨h1, h3⟩ | h1
    · obtain ⟨q, d⟩ := h3.drop hd
      exact .inl ⟨MI.Rd.drop q h1, d⟩
    · exact .inr h1
  | .dct ks ds, v, h => by
    simp only [RD] at h ⊢
    obtain ⟨a, kvs, e, h1, h3, h4, h2⟩ := h
    obtain ⟨q, d⟩ := h3.drop hd
    exact ⟨a, kvs, e, MI.Rd.drop q h1, d, h4, RDs.drop' hd hp ho ds _ h2⟩
  | .ref i, v, h => by
    simp only [RD] at h ⊢
    exact h
theorem RDs.drop' (hd : w.hid A) (hp : w.hp A = some o) (ho : isO o = true) : ∀ (ds : List D) (vs : List V), RDs K w ds vs → RDs K (w.drop A) ds vs
  | [], vs, h => by simp only [RDs] at h ⊢; exact h
  | d :: ds, vs, h => by
    simp only [RDs] at h ⊢
    obtain ⟨v, q, e, h1, h2⟩ := h
    exact ⟨v, q, e, RD.drop hd hp ho d v h1, RDs.drop' hd hp ho ds q h2⟩
end
theorem rel_drop (r : Rel K w) (hd : w.hid A) (hp : w.hp A = some o) (ho : isO o = true) : Rel K (w.drop A) := by
  have np := (r.hd A hd).2
  refine ⟨fun i x h => ?_, r.inj, fun i a h => ?_, fun a h => ?_⟩
  · obtain ⟨a, e1, e2⟩ := r.ob i x h
    have q : a ≠ A := fun q => np i (by rw [← q]; exact e1)
    refine ⟨a, e1, ?_⟩
    cases x with
    | lst ds => obtain ⟨vs, e, h1⟩ := e2; exact ⟨vs, (if_neg q).trans e, RDs.drop' hd hp ho _ _ h1⟩
    | dct ks ds => obtain ⟨kvs, e, e3, h1⟩ := e2; exact ⟨kvs, (if_neg q).trans e, e3, RDs.drop' hd hp ho _ _ h1⟩
    | ins c ns ds => obtain ⟨dx, fs, e, e3, h1⟩ := e2; exact ⟨dx, fs, (if_neg q).trans e, e3, RDs.drop' hd hp ho _ _ h1⟩
  · obtain ⟨x, e⟩ := r.tr i a h
    have q : a ≠ A := fun q => np i (by rw [← q]; exact h)
    exact ⟨x, (if_neg q).trans e⟩
  · obtain ⟨⟨x, e, z⟩, n⟩ := r.hd a h.1
    exact ⟨⟨x, (if_neg h.2).trans e, z⟩, n⟩
/-- a step behind the hidden object: it stays, and without it it is a step, too -/
theorem le_drop {w w' : Wd} (r : Rel K u) (hp : u.hp A = none) (e : w = u.hide A o) (l : Le w w') : w'.hid A ∧ w'.hp A = some o ∧ Le u (w'.drop A) := by
  subst e
  obtain ⟨h1, h2⟩ := l.hd A (.inr rfl)
  have h2' : w'.hp A = some o := h2.trans upd_same
  refine ⟨h1, h2', ⟨⟨⟨l.ph, fun a x h d => ?_⟩, fun a h => ?_⟩, fun a h => ?_⟩⟩
  · have q : a ≠ A := ne_of_none h hp
    obtain ⟨⟨y, e1, s⟩, d1⟩ := l.hp a x ((upd_ne q).trans h) ⟨d.1, fun z => z.elim d.2 q⟩
    exact ⟨⟨y, (if_neg q).trans e1, s⟩, d1.1, fun z => d1.2 z.1⟩
  · obtain ⟨⟨x, e1, _⟩, _⟩ := r.hd a h
    have q : a ≠ A := ne_of_none e1 hp
    obtain ⟨h3, h4⟩ := l.hd a (.inl h)
    exact ⟨⟨h3, q⟩, (if_neg q).trans (h4.trans (upd_ne q))⟩
  · exact (l.bk a h.1).elim id fun z => absurd z h.2
theorem upd_drop {w : Wd} {o : HO} : upd (w.drop A).hp A o = upd w.hp A o := by
  funext b
  by_cases q : b = A
  · rw [q, upd_same, upd_same]
  · rw [upd_ne q, upd_ne q]
    exact if_neg q
theorem drop_none {w : Wd} : (w.drop A).hp A = none := if_pos rfl
end

/-! ### targets of a comprehension: names, nested -/
abbrev GN := Store → D → Env → Option Env
abbrev GsN := Store → List D → Env → Option Env
def nameN (i : Nat) : GN := fun _ d ρ => some (ρ.set i (some d))
def nsNil : GsN := fun _ ds ρ => match ds with
  | [] => some ρ
  | _ => none
def nsCons (g : GN) (gs : GsN) : GsN := fun S ds ρ => match ds with
  | d :: r => (g S d ρ).bind (gs S r)
  | [] => none
def tupNN (n : Nat) (gs : GsN) : GN := fun S d ρ => match seqD S d with
  | some xs => if xs.length = n then gs S xs ρ else none
  | none => none
/-- the slots but vs are as they were -/
def Off (vs : List Nat) (σ σ' : L2.St) : Prop := σ'.length = σ.length ∧ ∀ j, j ∉ vs → σ'[j]? = σ[j]?
def TGn (K : PySem.W.Frag) (vs : List Nat) (g : GN) : TG := fun v σ H Q => ∃ w ρ π d ρ', Cfg K w ρ π σ H ∧ RD K w d v ∧ g w.st d ρ = some ρ' ∧ ∀ σ', EnvR K w ρ' σ' → Off vs σ σ' → Q σ' H
def TGsn (K : PySem.W.Frag) (vs : List Nat) (g : GsN) : TGs := fun us σ H Q => ∃ w ρ π ds ρ', Cfg K w ρ π σ H ∧ RDs K w ds us ∧ g w.st ds ρ = some ρ' ∧ ∀ σ', EnvR K w ρ' σ' → Off vs σ σ' → Q σ' H
abbrev SGn (X : Cx) (vs : List Nat) (t : Expr) (g : GN) : Prop := PG X t (TGn X.K vs g)
abbrev SGsn (X : Cx) (vs : List Nat) (ts : List Expr) (g : GsN) : Prop := PGs X ts (TGsn X.K vs g)
theorem Off.refl (vs : List Nat) (σ : L2.St) : Off vs σ σ := ⟨rfl, fun _ _ => rfl⟩
theorem Off.trans {vs : List Nat} {a b c : L2.St} (x : Off vs a b) (y : Off vs b c) : Off vs a c := ⟨y.1.trans x.1, fun j h => (y.2 j h).trans (x.2 j h)⟩
theorem wipe_get {σ : L2.St} : ∀ (vs : List Nat) (j : Nat), (wipe σ vs)[j]? = if j ∈ vs then (σ[j]?).map fun _ => none else σ[j]?
  | [], j => by simp [wipe]
  | v :: vs, j => by
    unfold wipe
    rw [List.getElem?_set, wipe_length]
    by_cases q : v = j
    · subst q
      rw [if_pos rfl, if_pos (List.mem_cons_self)]
      by_cases l : v < σ.length
      · rw [if_pos l, List.getElem?_eq_getElem l]; rfl
      · rw [if_neg l, List.getElem?_eq_none (by omega)]; rfl
    · rw [if_neg q, wipe_get vs j]
      by_cases m : j ∈ vs
      · rw [if_pos m, if_pos (List.mem_cons_of_mem _ m)]
      · rw [if_neg m, if_neg (fun z => (List.mem_cons.mp z).elim (fun z => q z.symm) m)]
theorem Off.wipe {vs : List Nat} {σ σ' : L2.St} (h : Off vs σ σ') : L2.wipe σ' vs = L2.wipe σ vs := by
  apply List.ext_getElem?
  intro j
  rw [wipe_get, wipe_get]
  have hl := h.1
  by_cases m : j ∈ vs
  · rw [if_pos m, if_pos m]
    by_cases l : j < σ.length
    · rw [List.getElem?_eq_getElem l, List.getElem?_eq_getElem (show j < σ'.length by omega)]
      rfl
    · rw [List.getElem?_eq_none (show σ.length ≤ j by omega), List.getElem?_eq_none (show σ'.length ≤ j by omega)]
  · rw [if_neg m, if_neg m]
    exact h.2 j m
def wipeE (ρ : Env) : List Nat → Env
  | [] => ρ
  | v :: vs => (wipeE ρ vs).set v none
theorem EnvR.wipe {K : PySem.W.Frag} {w : Wd} {ρ : Env} {σ : L2.St} (h : EnvR K w ρ σ) : ∀ vs : List Nat, EnvR K w (wipeE ρ vs) (L2.wipe σ vs)
  | [] => h
  | v :: vs => (EnvR.wipe h vs).unset v
section
variable {X : Cx} {pos : Pos} {t : Expr} {ts : List Expr} {g : GN} {gs : GsN} {vs : List Nat}
theorem sgn_name (i : Nat) {x : Str} (hN : X.N.Nodup) (hi : X.N[i]? = some x) (hx : Loc X.env.scope x) (hv : i ∈ vs) (hf : X.fn x = true ∨ X.env.scope.names.lookup x = some .local := by first | exact .inl rfl | exact .inr rfl | assumption) : SGn X vs (.Name x pos) (nameN i) := by
  refine pg_imp (pg_name hN hi hx hf) ?_
  intro v σ H Q ⟨w, ρ, π, d, ρ', c, rv, e, h⟩
  cases e
  exact h _ (c.env.set i rv) ⟨List.length_set, fun j hj => List.getElem?_set_ne (fun z => hj (by rw [← z]; exact hv))⟩
theorem sgsn_nil : SGsn X vs [] nsNil := by
  refine pgs_imp pgs_nil ?_
  intro us σ H Q ⟨w, ρ, π, ds, ρ', c, rv, e, h⟩
  cases ds with
  | nil => cases e; exact ⟨rv.of_nil, h σ c.env (Off.refl _ _)⟩
  | cons d r => cases e
theorem sgsn_cons (h1 : SGn X vs t g) (h2 : SGsn X vs ts gs) (hs : (assignEach (t :: ts) X.env).map (·.2) = assign t X.env :: (assignEach ts X.env).map (·.2) := by rfl) : SGsn X vs (t :: ts) (nsCons g gs) := by
  refine pgs_imp (pgs_cons h1 h2 hs) ?_
  intro us σ H Q ⟨w, ρ, π, ds, ρ', c, rv, e, h⟩
  cases ds with
  | nil => cases e
  | cons d r =>
    obtain ⟨v, vr, ev, r1, r2⟩ := rv.of_cons
    have e' : (g w.st d ρ).bind (gs w.st r) = some ρ' := e
    obtain ⟨ρ1, e1, e2⟩ := Option.bind_eq_some_iff.mp e'
    refine ⟨v, vr, ev, w, ρ, π, d, ρ1, c, r1, e1, fun σ1 en1 of1 => ?_⟩
    exact ⟨w, ρ1, π, r, ρ', ⟨c.hp, en1, c.rel, c.fr⟩, r2, e2, fun σ2 en2 of2 => h σ2 en2 (of1.trans of2)⟩
theorem sgn_tup {k : Nat} {n : Nat} (hc : X.calm = true) (h : SGsn X vs ts gs) (hn : (assignEach ts X.env).length = n := by rfl) (hst : (assignEach ts X.env).findIdx? (·.1) = none := by rfl) : SGn X vs (.Tuple ts k pos) (tupNN n gs) := by
  refine pg_imp (pg_or (pg_tup hc h hn hst) (pg_lst hc h hn hst)) ?_
  intro v σ H Q ⟨w, ρ, π, d, ρ', c, rv, e, h⟩
  have e' : (match seqD w.st d with
    | some xs => if xs.length = n then gs w.st xs ρ else none
    | none => none) = some ρ' := e
  cases e0 : seqD w.st d with
  | none => rw [e0] at e'; cases e'
  | some xs =>
    rw [e0] at e'
    have e2 : (if xs.length = n then gs w.st xs ρ else none) = some ρ' := e'
    split at e2
    · rename_i hl
      obtain ⟨a, us, ev, hq, rvs⟩ := seqD_ok c.rel rv e0
      rw [c.hp] at hq
      rcases hq with hq | hq
      · exact .inl ⟨a, us, ev, hq, by rw [← rvs.length]; exact hl, w, ρ, π, xs, ρ', c, rvs, e2, h⟩
      · exact .inr ⟨a, us, ev, hq, by rw [← rvs.length]; exact hl, w, ρ, π, xs, ρ', c, rvs, e2, h⟩
    · cases e2
end

/-! ### tests -/
abbrev STs (X : Cx) (W : WX) (ifs : List Expr) (f : BM) : Prop := PTs X ifs (TT' X.K W f)
def yesB : BM := fun _ _ S => okR true S
theorem pts_imp {X : Cx} {ifs : List Expr} {t t' : TT} (h : PTs X ifs t) (k : ∀ σ H Q, t' σ H Q → t σ H Q) : PTs X ifs t' := ⟨fun pins s σ H Q I q => h.run pins s σ H Q I (k σ H Q q)⟩
theorem sts_nil {X : Cx} {W : WX} : STs X W [] yesB := by
  refine pts_imp pts_nil ?_
  intro σ H Q ⟨w, ρ, π, c, h⟩
  have q := Fin.here h rfl c.rel
  rw [c.hp] at q
  exact q
theorem sts_one {X : Cx} {W : WX} {c : Expr} {f : BM} (h : ST X W c f) : STs X W [c] f := pts_one h

/-! ### the loop of a list comprehension -/
/-- the wish of a block: nothing is raised -/
def W0 : WX := fun _ _ _ _ => False
open Classical in
noncomputable def lcIts (g : GN) (t : BM) (e : EM) (c : Lives) (vs : List Nat) (ρ : Env) : List D → Id → Store → Option (List D × Store)
  | [], _, S => if Still c S then some ([], S) else none
  | x :: xs, π, S => if Still c S then (g S x (wipeE ρ vs)).bind fun ρ1 => (match t ρ1 (0 :: π) S with
    | some (.ok true, S1) => (match e ρ1 (1 :: π) S1 with
      | some (.ok d, S2) => (lcIts g t e c vs ρ xs (2 :: π) S2).map fun p => (d :: p.1, p.2)
      | _ => none)
    | some (.ok false, S1) => lcIts g t e c vs ρ xs (2 :: π) S1
    | _ => none) else none
noncomputable def lcM (f : IM) (g : GN) (t : BM) (e : EM) (vs : List Nat) : AM := fun ρ π S => bindR (f ρ (0 :: π) S) fun p S1 => (match lcIts g t e p.2 vs ρ p.1 (1 :: π) S1 with
  | some (ds, S2) => if ds.length ≤ sizeLine then okR ds S2 else none
  | none => none)
/-- a run without an error -/
theorem fin0 {K : PySem.W.Frag} {α : Type} {σ : L2.St} {w : Wd} {π : Id} {r : Rs α} {a : α} {S : Store} {Q : α → Wd → Prop} (e : r = some (.ok a, S)) (h : ∀ w', w'.st = S → Le w w' → Rel K w' → Out π w w' → Q a w') : Fin K W0 σ w π r Q := by
  subst e
  exact h
/-- names that end with a longer one -/
theorem Out.deep {π q : Id} {a b : Wd} (x : Out (q ++ π) a b) : Out π a b := fun i h => x i fun q' e => h (q' ++ q) (by rw [e, List.append_assoc])
theorem Fr.move {π : Id} {w w' : Wd} (f : Fr π w) (e : w'.ph = w.ph) : Fr π w' := fun q => by rw [e]; exact f q
theorem le1_hide {K : PySem.W.Frag} {u u' : Wd} {A : Addr} {o o' : HO} (r : Rel K u) (h1 : u.hp A = none) (h2 : u'.hp A = none) (l : Le u u') : Le1 (u.hide A o) (u'.hide A o') where
  ph := l.ph
  hp := fun a x h d => by
    have q : a ≠ A := fun z => d.2 (.inr z)
    have h' : u.hp a = some x := by
      have : upd u.hp A o a = some x := h
      rwa [upd_ne q] at this
    obtain ⟨⟨y, e1, s⟩, d1⟩ := l.hp a x h' ⟨d.1, fun z => d.2 (.inl z)⟩
    exact ⟨⟨y, (upd_ne q).trans e1, s⟩, d1.1, fun z => z.elim d1.2 q⟩
/-- the turns of a comprehension's clause, the list at A growing -/
theorem lc_loop {K : PySem.W.Frag} {g : GN} {t : BM} {e : EM} {cs : Lives} {vs : List Nat} {ρ : Env} {σ : L2.St} {u1 : Wd} {A : Addr} {acc0 : List V} {accD0 : List D} {π1 : Id} {xs out : List D} {S2 : Store} {J : It} {Qd : Hp → Prop}
    (r1 : Rel K u1) (hA : u1.hp A = none) (en1 : EnvR K u1 ρ σ) (f1 : Fr π1 u1) (rac1 : RDs K u1 accD0 acc0) (SJ : SrcOk K (u1.hide A (.lst acc0)) xs cs J) (hz : accD0.length + out.length ≤ sizeLine)
    (e1 : lcIts g t e cs vs ρ xs π1 u1.st = some (out, S2))
    (hd : ∀ u' acc, u'.st = S2 → Rel K u' → u'.hp A = none → Le u1 u' → Out π1 u1 u' → RDs K u' (accD0 ++ out) acc → Qd (u'.hide A (.lst acc)).hp) :
    ∃ W : Nat → Nat → Hp → Prop, (∃ m, W 0 m (u1.hide A (.lst acc0)).hp) ∧ ∀ i m H, W i m H →
      (J.stop i H ∧ Qd H) ∨ (J.go i H ∧ ∃ Nx : Hp → Prop, (∀ H', Nx H' → ∃ m', m' < m ∧ W (i + 1) m' H') ∧ ∀ x H', J.yld i H x H' → TGn K vs g x (wipe σ vs) H' fun σ2 H2 => wipe σ2 vs = wipe σ vs ∧ TT' K W0 t σ2 H2 fun b H3 =>
        if b = true then TE' K W0 e σ2 H3 fun y H4 => ∃ acc, H4 A = some (.lst acc) ∧ acc.length < sizeLine ∧ Nx (upd H4 A (.lst (acc ++ [y]))) else Nx H3) := by
  refine ⟨fun i m H => ∃ u π acc accD, H = (u.hide A (.lst acc)).hp ∧ Rel K u ∧ u.hp A = none ∧ Le u1 u ∧ Out π1 u1 u ∧ Fr π u ∧ (∃ q, π = q ++ π1) ∧ i ≤ xs.length ∧ m = xs.length - i ∧ RDs K u accD acc ∧
      ∃ rest, lcIts g t e cs vs ρ (xs.drop i) π u.st = some (rest, S2) ∧ accD ++ rest = accD0 ++ out, ⟨xs.length, u1, π1, acc0, accD0, rfl, r1, hA, Le.refl _, Out.refl _ _, f1, ⟨[], rfl⟩, Nat.zero_le _, rfl, rac1, out, e1, rfl⟩, ?_⟩
  rintro i m H ⟨u, π, acc, accD, rfl, ru, hAu, lu, ou, fu, ⟨q, rfl⟩, hi, rfl, rac, rest, er, eo⟩
  have rh := rel_hide (o := .lst acc) ru hAu rfl
  have lh := le_hide (o := .lst acc) ru hAu
  have l0 : Le1 (u1.hide A (.lst acc0)) (u.hide A (.lst acc)) := le1_hide r1 hA hAu lu
  have enu : EnvR K u ρ σ := en1.mono r1 lu.toLe0
  by_cases hlt : i < xs.length
  · right
    rw [List.drop_eq_getElem_cons hlt] at er
    unfold lcIts at er
    by_cases st : Still cs u.st
    case neg => rw [if_neg st] at er; cases er
    rw [if_pos st] at er
    obtain ⟨ρ1, eg, er2⟩ := Option.bind_eq_some_iff.mp er
    refine ⟨SJ.go _ i l0 rh st hlt, fun H' => ∃ u π acc accD, H' = (u.hide A (.lst acc)).hp ∧ Rel K u ∧ u.hp A = none ∧ Le u1 u ∧ Out π1 u1 u ∧ Fr π u ∧ (∃ q, π = q ++ π1) ∧ RDs K u accD acc ∧
      ∃ rest, lcIts g t e cs vs ρ (xs.drop (i + 1)) π u.st = some (rest, S2) ∧ accD ++ rest = accD0 ++ out, ?_, ?_⟩
    · rintro H' ⟨u', π', acc', accD', e1', r', hA', l', o', f', q', rac', rest', er', eo'⟩
      exact ⟨xs.length - (i + 1), by omega, u', π', acc', accD', e1', r', hA', l', o', f', q', hlt, rfl, rac', rest', er', eo'⟩
    · intro v H' y
      obtain ⟨w2, e2, e3, e4, l2, r2, rv⟩ := SJ.yld _ i v H' _ l0 rh st y (List.getElem?_eq_getElem hlt)
      subst e2
      obtain ⟨hd2, hp2, lu2⟩ := le_drop ru hAu rfl l2
      have ru2 := rel_drop r2 hd2 hp2 rfl
      have enh : EnvR K (u.hide A (.lst acc)) ρ σ := enu.mono ru lh
      have en2 : EnvR K w2 (wipeE ρ vs) (wipe σ vs) := (enh.mono rh l2.toLe0).wipe vs
      have f2 : Fr (q ++ π1) w2 := fu.move e4
      refine ⟨w2, wipeE ρ vs, q ++ π1, _, ρ1, ⟨rfl, en2, r2, f2⟩, rv, ?_, fun σ3 en3 of3 => ⟨of3.wipe.trans ?_, ?_⟩⟩
      · have e3' : w2.st = u.st := e3
        rw [e3']; exact eg
      · exact (Off.wipe (vs := vs) (σ := σ) (σ' := wipe σ vs) ⟨wipe_length σ vs, fun j hj => by rw [wipe_get, if_neg hj]⟩)
      · have e3' : w2.st = u.st := e3
        cases et : t ρ1 (0 :: (q ++ π1)) u.st with
        | none => simp only [et] at er2; cases er2
        | some pt =>
          obtain ⟨x, S1⟩ := pt
          cases x with
          | ex x => simp only [et] at er2; cases er2
          | ok b =>
            have c2 : Cfg K w2 ρ1 (q ++ π1) σ3 w2.hp := ⟨rfl, en3, r2, f2⟩
            refine ⟨w2, ρ1, 0 :: (q ++ π1), c2.cf.sub, fin0 (by rw [e3']; exact et) fun w3 e5 l3 r3 o3 => ?_⟩
            have c3 := c2.cf.next l3 r3 o3
            obtain ⟨hd3, hp3, lu3⟩ := le_drop ru2 drop_none (hide_drop hd2 hp2).symm l3
            have ru3 := rel_drop r3 hd3 hp3 rfl
            have o13 : Out π1 u1 (w3.drop A) := fun i h => by
              have z1 : w3.ph i = w2.ph i := o3.up.deep i h
              have z2 : u.ph i = u1.ph i := ou i h
              show w3.ph i = u1.ph i
              rw [z1, e4]
              exact z2
            have lu13 : Le u1 (w3.drop A) := lu.trans (lu2.trans lu3)
            have rac3 : RDs K (w3.drop A) accD acc := RDs.mono ru (lu2.trans lu3).toLe0 _ _ rac
            have fr2 : ∀ {w' : Wd} (m : Nat), Out (m :: (q ++ π1)) w2 w' → m ≠ 2 → Fr (2 :: (q ++ π1)) w' := fun m o hm => (c2.fr.sub 2).out o (Ne.symm hm)
            cases b with
            | false =>
              simp only [et] at er2
              refine iteF ?_
              refine ⟨w3.drop A, 2 :: (q ++ π1), acc, accD, ?_, ru3, drop_none, lu13, o13, fr2 0 o3 (by decide), ⟨2 :: q, rfl⟩, rac3, rest, by rw [show (w3.drop A).st = S1 from e5]; exact er2, eo⟩
              rw [hide_drop hd3 hp3]
            | true =>
              simp only [et] at er2
              refine iteT ?_
              cases ee : e ρ1 (1 :: (q ++ π1)) S1 with
              | none => simp only [ee] at er2; cases er2
              | some pe =>
                obtain ⟨x, S4⟩ := pe
                cases x with
                | ex x => simp only [ee] at er2; cases er2
                | ok d =>
                  simp only [ee] at er2
                  obtain ⟨p3, er3, er4⟩ := Option.map_eq_some_iff.mp er2
                  obtain ⟨rest3, S5⟩ := p3
                  have e6 : d :: rest3 = rest := congrArg Prod.fst er4
                  have e7 : S5 = S2 := congrArg Prod.snd er4
                  subst e6 e7
                  refine ⟨w3, ρ1, 1 :: (q ++ π1), c3.sub, fin0 (by rw [e5]; exact ee) fun w4 e8 l4 r4 o4 y4 ry => ?_⟩
                  obtain ⟨hd4, hp4, lu4⟩ := le_drop ru3 drop_none (hide_drop hd3 hp3).symm l4
                  have ru4 := rel_drop r4 hd4 hp4 rfl
                  have lenA : accD.length = acc.length := rac.length
                  have hl : acc.length < sizeLine := by
                    have z := congrArg List.length eo
                    rw [List.length_append, List.length_cons, List.length_append] at z
                    omega
                  refine ⟨acc, hp4, hl, w4.drop A, 2 :: (q ++ π1), acc ++ [y4], accD ++ [d], upd_drop.symm, ru4, drop_none, lu13.trans lu4, ?_, ?_, ⟨2 :: q, rfl⟩, ?_, rest3, by rw [show (w4.drop A).st = S4 from e8]; exact er3, by rw [List.append_assoc]; exact eo⟩
                  · intro i h
                    have z1 : w4.ph i = w3.ph i := o4.up.deep i h
                    exact z1.trans (o13 i h)
                  · exact (fr2 (w' := w3) 0 o3 (by decide)).out o4 (by decide)
                  · exact (RDs.mono ru3 lu4.toLe0 _ _ rac3).append (.one (RD.drop hd4 hp4 rfl _ _ ry))
  · have ei : i = xs.length := by omega
    subst ei
    left
    rw [List.drop_length] at er
    unfold lcIts at er
    by_cases st : Still cs u.st
    case neg => rw [if_neg st] at er; cases er
    rw [if_pos st] at er
    have e8 : ([] : List D) = rest := congrArg Prod.fst (Option.some.inj er)
    have e9 : u.st = S2 := congrArg Prod.snd (Option.some.inj er)
    subst e8
    rw [List.append_nil] at eo
    subst eo
    exact ⟨SJ.stop _ l0 rh st, hd u acc e9 ru hAu lu ou rac⟩
theorem SrcOk.mono {K : PySem.W.Frag} {w w' : Wd} {xs : List D} {c : Lives} {J : It} (h : SrcOk K w xs c J) (l : Le1 w w') : SrcOk K w' xs c J :=
  ⟨fun w2 i l2 => h.go w2 i (l.trans l2), fun w2 l2 => h.stop w2 (l.trans l2), fun w2 i v H' d l2 => h.yld w2 i v H' d (l.trans l2)⟩
theorem te_lc {K : PySem.W.Frag} {W : WX} {f : IM} {g : GN} {t : BM} {e : EM} {vs : List Nat} :
    ∀ σ H Q, TN' K W (lcM f g t e vs) σ H Q → tLc (TI' K W f) (TGn K vs g) (TT' K W0 t) (TE' K W0 e) vs σ H Q := by
  intro σ H Q ⟨w0, ρ, π0, c0, h0⟩
  refine ⟨w0, ρ, 0 :: π0, c0.cf.sub, (Fin.stepL h0).mono fun p u1 l1 r1 o1 h1 J SJ A hA => ?_⟩
  obtain ⟨xs, cs⟩ := p
  have c1 := (c0.cf.next l1 r1 o1).sub
  cases e1 : lcIts g t e cs vs ρ xs (1 :: π0) u1.st with
  | none => simp only [e1] at h1; exact h1.elim
  | some pr =>
    obtain ⟨out, S2⟩ := pr
    simp only [e1] at h1
    by_cases hz : out.length ≤ sizeLine
    case neg => simp only [if_neg hz] at h1; exact h1.elim
    simp only [if_pos hz] at h1
    have h2 := h1.okd
    exact lc_loop (accD0 := []) (acc0 := []) (out := out) r1 hA c1.env c1.fr .nil (SJ.mono (le_hide r1 hA).toLe1) (by simpa using hz) e1 fun u' acc eS ru hAu lu ou rac => h2 u' eS lu ru ou.up A acc hAu rac

/-! ### two clauses -/
noncomputable def lcIts2 (g : GN) (t : BM) (f1 : IM) (g1 : GN) (t1 : BM) (e : EM) (c : Lives) (vs vs1 : List Nat) (ρ : Env) : List D → Id → Store → Option (List D × Store)
  | [], _, S => (open Classical in if Still c S then some ([], S) else none)
  | x :: xs, π, S => (open Classical in if Still c S then (g S x (wipeE ρ vs)).bind fun ρ1 => (match t ρ1 (0 :: π) S with
    | some (.ok true, S1) => (match f1 ρ1 (1 :: π) S1 with
      | some (.ok p, S2) => (lcIts g1 t1 e p.2 vs1 ρ1 p.1 (2 :: π) S2).bind fun q => (lcIts2 g t f1 g1 t1 e c vs vs1 ρ xs (3 :: π) q.2).map fun p => (q.1 ++ p.1, p.2)
      | _ => none)
    | some (.ok false, S1) => lcIts2 g t f1 g1 t1 e c vs vs1 ρ xs (3 :: π) S1
    | _ => none) else none)
noncomputable def lcM2 (f : IM) (g : GN) (t : BM) (f1 : IM) (g1 : GN) (t1 : BM) (e : EM) (vs vs1 : List Nat) : AM := fun ρ π S => bindR (f ρ (0 :: π) S) fun p S1 => (match lcIts2 g t f1 g1 t1 e p.2 vs vs1 ρ p.1 (1 :: π) S1 with
  | some (ds, S2) => if ds.length ≤ sizeLine then okR ds S2 else none
  | none => none)
theorem te_lc2 {K : PySem.W.Frag} {W : WX} {f f1 : IM} {g g1 : GN} {t t1 : BM} {e : EM} {vs vs1 : List Nat} :
    ∀ σ H Q, TN' K W (lcM2 f g t f1 g1 t1 e vs vs1) σ H Q → tLc2 (TI' K W f) (TGn K vs g) (TT' K W0 t) (TI' K W0 f1) (TGn K vs1 g1) (TT' K W0 t1) (TE' K W0 e) vs vs1 σ H Q := by
  intro σ H Q ⟨w0, ρ, π0, c0, h0⟩
  refine ⟨w0, ρ, 0 :: π0, c0.cf.sub, (Fin.stepL h0).mono fun p u1 l1 r1 o1 h1 J SJ A hA => ?_⟩
  obtain ⟨xs, cs⟩ := p
  have c1 := (c0.cf.next l1 r1 o1).sub
  cases e1 : lcIts2 g t f1 g1 t1 e cs vs vs1 ρ xs (1 :: π0) u1.st with
  | none => simp only [e1] at h1; exact h1.elim
  | some pr =>
    obtain ⟨out, S2⟩ := pr
    simp only [e1] at h1
    by_cases hz : out.length ≤ sizeLine
    case neg => simp only [if_neg hz] at h1; exact h1.elim
    simp only [if_pos hz] at h1
    have h2 := h1.okd
    generalize hπ1 : (1 :: π0 : Id) = π1 at *
    refine ⟨fun i m H => ∃ u π acc accD, H = (u.hide A (.lst acc)).hp ∧ Rel K u ∧ u.hp A = none ∧ Le u1 u ∧ Out π1 u1 u ∧ Fr π u ∧ (∃ q, π = q ++ π1) ∧ i ≤ xs.length ∧ m = xs.length - i ∧ RDs K u accD acc ∧
        ∃ rest, lcIts2 g t f1 g1 t1 e cs vs vs1 ρ (xs.drop i) π u.st = some (rest, S2) ∧ accD ++ rest = out, ⟨xs.length, u1, π1, [], [], rfl, r1, hA, Le.refl _, Out.refl _ _, c1.fr, ⟨[], rfl⟩, Nat.zero_le _, rfl, .nil, out, e1, rfl⟩, ?_⟩
    rintro i m H ⟨u, π, acc, accD, rfl, ru, hAu, lu, ou, fu, ⟨q, rfl⟩, hi, rfl, rac, rest, er, eo⟩
    have rh := rel_hide (o := .lst acc) ru hAu rfl
    have lh := le_hide (o := .lst acc) ru hAu
    have l0 : Le1 u1 (u.hide A (.lst acc)) := (lu.toLe0.trans lh).toLe1
    have enu : EnvR K u ρ σ := c1.env.mono c1.rel lu.toLe0
    by_cases hlt : i < xs.length
    · right
      rw [List.drop_eq_getElem_cons hlt] at er
      unfold lcIts2 at er
      by_cases st : Still cs u.st
      case neg => rw [if_neg st] at er; cases er
      rw [if_pos st] at er
      obtain ⟨ρ1, eg, er2⟩ := Option.bind_eq_some_iff.mp er
      refine ⟨SJ.go _ i l0 rh st hlt, fun H' => ∃ u π acc accD, H' = (u.hide A (.lst acc)).hp ∧ Rel K u ∧ u.hp A = none ∧ Le u1 u ∧ Out π1 u1 u ∧ Fr π u ∧ (∃ q, π = q ++ π1) ∧ RDs K u accD acc ∧
        ∃ rest, lcIts2 g t f1 g1 t1 e cs vs vs1 ρ (xs.drop (i + 1)) π u.st = some (rest, S2) ∧ accD ++ rest = out, ?_, ?_⟩
      · rintro H' ⟨u', π', acc', accD', e1', r', hA', l', o', f', q', rac', rest', er', eo'⟩
        exact ⟨xs.length - (i + 1), by omega, u', π', acc', accD', e1', r', hA', l', o', f', q', hlt, rfl, rac', rest', er', eo'⟩
      · intro v H' y
        obtain ⟨w2, e2, e3, e4, l2, r2, rv⟩ := SJ.yld _ i v H' _ l0 rh st y (List.getElem?_eq_getElem hlt)
        subst e2
        obtain ⟨hd2, hp2, lu2⟩ := le_drop ru hAu rfl l2
        have ru2 := rel_drop r2 hd2 hp2 rfl
        have enh : EnvR K (u.hide A (.lst acc)) ρ σ := enu.mono ru lh
        have en2 : EnvR K w2 (wipeE ρ vs) (wipe σ vs) := (enh.mono rh l2.toLe0).wipe vs
        have f2 : Fr (q ++ π1) w2 := fu.move e4
        refine ⟨w2, wipeE ρ vs, q ++ π1, _, ρ1, ⟨rfl, en2, r2, f2⟩, rv, ?_, fun σ3 en3 of3 => ⟨of3.wipe.trans ?_, ?_⟩⟩
        · have e3' : w2.st = u.st := e3
          rw [e3']; exact eg
        · exact (Off.wipe (vs := vs) (σ := σ) (σ' := wipe σ vs) ⟨wipe_length σ vs, fun j hj => by rw [wipe_get, if_neg hj]⟩)
        · have e3' : w2.st = u.st := e3
          cases et : t ρ1 (0 :: (q ++ π1)) u.st with
          | none => simp only [et] at er2; cases er2
          | some pt =>
            obtain ⟨x, S1⟩ := pt
            cases x with
            | ex x => simp only [et] at er2; cases er2
            | ok b =>
              have c2 : Cfg K w2 ρ1 (q ++ π1) σ3 w2.hp := ⟨rfl, en3, r2, f2⟩
              refine ⟨w2, ρ1, 0 :: (q ++ π1), c2.cf.sub, fin0 (by rw [e3']; exact et) fun w3 e5 l3 r3 o3 => ?_⟩
              have c3 := c2.cf.next l3 r3 o3
              obtain ⟨hd3, hp3, lu3⟩ := le_drop ru2 drop_none (hide_drop hd2 hp2).symm l3
              have ru3 := rel_drop r3 hd3 hp3 rfl
              have o13 : Out π1 u1 (w3.drop A) := fun i h => by
                have z1 : w3.ph i = w2.ph i := o3.up.deep i h
                have z2 : u.ph i = u1.ph i := ou i h
                show w3.ph i = u1.ph i
                rw [z1, e4]
                exact z2
              have lu13 : Le u1 (w3.drop A) := lu.trans (lu2.trans lu3)
              have rac3 : RDs K (w3.drop A) accD acc := RDs.mono ru (lu2.trans lu3).toLe0 _ _ rac
              cases b with
              | false =>
                simp only [et] at er2
                refine iteF ?_
                refine ⟨w3.drop A, 3 :: (q ++ π1), acc, accD, ?_, ru3, drop_none, lu13, o13, (c2.fr.sub 3).out o3 (by decide), ⟨3 :: q, rfl⟩, rac3, rest, by rw [show (w3.drop A).st = S1 from e5]; exact er2, eo⟩
                rw [hide_drop hd3 hp3]
              | true =>
                simp only [et] at er2
                refine iteT ?_
                cases ee : f1 ρ1 (1 :: (q ++ π1)) S1 with
                | none => simp only [ee] at er2; cases er2
                | some pe =>
                  obtain ⟨x, S4⟩ := pe
                  cases x with
                  | ex x => simp only [ee] at er2; cases er2
                  | ok ps =>
                    simp only [ee] at er2
                    obtain ⟨q3, er3, er4⟩ := Option.bind_eq_some_iff.mp er2
                    obtain ⟨p3, er5, er6⟩ := Option.map_eq_some_iff.mp er4
                    obtain ⟨out3, S5⟩ := q3
                    obtain ⟨rest3, S6⟩ := p3
                    have e6 : out3 ++ rest3 = rest := congrArg Prod.fst er6
                    have e7 : S6 = S2 := congrArg Prod.snd er6
                    subst e6 e7
                    refine ⟨w3, ρ1, 1 :: (q ++ π1), c3.sub, fin0 (by rw [e5]; exact ee) fun w4 e8 l4 r4 o4 J1 SJ1 => ?_⟩
                    have c4 := c3.next l4 r4 o4
                    obtain ⟨hd4, hp4, lu4⟩ := le_drop ru3 drop_none (hide_drop hd3 hp3).symm l4
                    have ru4 := rel_drop r4 hd4 hp4 rfl
                    have en4 : EnvR K (w4.drop A) ρ1 σ3 := ⟨c4.env.1, fun i d h => let ⟨v, a, b⟩ := c4.env.2 i d h; ⟨v, a, RD.drop hd4 hp4 rfl _ _ b⟩⟩
                    have SJ1' : SrcOk K ((w4.drop A).hide A (.lst acc)) ps.1 ps.2 J1 := by rw [hide_drop hd4 hp4]; exact SJ1
                    have rac4 := RDs.mono ru3 lu4.toLe0 _ _ rac3
                    have z4 : ((w4.drop A).hide A (.lst acc)).hp = w4.hp := by rw [hide_drop hd4 hp4]
                    rw [← z4]
                    refine lc_loop (accD0 := accD) (acc0 := acc) (out := out3) ru4 drop_none en4 (c4.fr 2 (by decide)) rac4 SJ1' ?_ (by rw [show (w4.drop A).st = S4 from e8]; exact er3) ?_
                    · have z := congrArg List.length eo
                      rw [List.length_append, List.length_append] at z
                      omega
                    · intro u' acc' eS ru' hA' l' o' rac'
                      refine ⟨u', 3 :: (q ++ π1), acc', accD ++ out3, rfl, ru', hA', lu13.trans (lu4.trans l'), ?_, ?_, ⟨3 :: q, rfl⟩, rac', rest3, by rw [eS]; exact er5, by rw [List.append_assoc]; exact eo⟩
                      · intro i h
                        have z1 : w4.ph i = w3.ph i := o4.up.deep i h
                        have z2 : u'.ph i = w4.ph i := o'.up.deep i h
                        exact z2.trans (z1.trans (o13 i h))
                      · exact (c4.fr 3 (by decide)).out o' (by decide)
    · have ei : i = xs.length := by omega
      subst ei
      left
      rw [List.drop_length] at er
      unfold lcIts2 at er
      by_cases st : Still cs u.st
      case neg => rw [if_neg st] at er; cases er
      rw [if_pos st] at er
      have e8 : ([] : List D) = rest := congrArg Prod.fst (Option.some.inj er)
      have e9 : u.st = S2 := congrArg Prod.snd (Option.some.inj er)
      subst e8
      rw [List.append_nil] at eo
      subst eo
      refine ⟨SJ.stop _ l0 rh st, h2 u e9 lu ru ?_ A acc hAu rac⟩
      rw [← hπ1] at ou
      exact ou.up
end MI

set_option Elab.async false
set_option linter.all false
set_option maxRecDepth 100000
set_option maxHeartbeats 2000000
/-! MI: new lists and dicts as values, as objects of the store; comprehensions at their places; dict comprehensions. -/
namespace MI
open PySem PySem.Spec PyProof.Rows L2
section
variable {K : PySem.W.Frag} {W : WX} {fa : AM}
theorem te_frz : ∀ σ H Q, TE' K W (frzM fa) σ H Q → TN' K W fa σ H Q := by
  intro σ H Q ⟨w, ρ, π, c, h⟩
  refine ⟨w, ρ, 0 :: π, c.cf.sub, (Fin.stepL h).mono fun ds w1 l1 r1 o1 h1 p vs hp rvs => ?_⟩
  refine Fin.laid h1 rfl r1 hp _ ?_
  simp only [RD]
  exact ⟨p, vs, rfl, .inl ⟨.inl upd_same, dead_lay r1 hp⟩, RDs.mono r1 (le_lay r1 hp).toLe0 _ _ rvs⟩
theorem te_sto : ∀ σ H Q, TE' K W (stoM fa) σ H Q → TN' K W fa σ H Q := by
  intro σ H Q ⟨w, ρ, π, c, h⟩
  refine ⟨w, ρ, 0 :: π, c.cf.sub, (Fin.stepL h).mono fun ds w1 l1 r1 o1 h1 p vs hp rvs => ?_⟩
  have c1 := c.cf.next l1 r1 o1
  have hn : w1.ph (1 :: π) = none := c1.fr 1 (Nat.le_refl 1) []
  refine h1.okd (w1.new (1 :: π) p (.lst ds) (.lst vs)) rfl (le_new r1 hn hp) (rel_new r1 hn hp ⟨vs, upd_same, RDs.mono r1 (le_new r1 hn hp).toLe0 _ _ rvs⟩) (fun i hi => if_neg (hi [1])) _ ?_
  simp only [RD]
  exact ⟨p, rfl, if_pos rfl⟩
/-! ### new dicts -/
abbrev DM := Env → Id → Store → Rs (List Key × List D)
def TD' (K : PySem.W.Frag) (W : WX) (f : DM) : TE := fun σ H Q => ∃ w ρ π, Cfg K w ρ π σ H ∧ Fin K W σ w π (f ρ π w.st) fun x w' => ∀ p kvs, w'.hp p = none → kvs.map (·.1) = x.1 → RDs K w' x.2 (kvs.map (·.2)) → Q (.ref p) (upd w'.hp p (.dK kvs))
abbrev SD (X : Cx) (W : WX) (e : Expr) (f : DM) : Prop := PE X e (TD' X.K W f)
def frzD (f : DM) : EM := fun ρ π S => bindR (f ρ (0 :: π) S) fun x S1 => okR (.dct x.1 x.2) S1
def stoD (f : DM) : EM := fun ρ π S => bindR (f ρ (0 :: π) S) fun x S1 => okR (.ref (1 :: π)) (put S1 (1 :: π) (.dct x.1 x.2))
def nilD : DM := fun _ _ S => okR ([], []) S
theorem td_frz {f : DM} : ∀ σ H Q, TE' K W (frzD f) σ H Q → TD' K W f σ H Q := by
  intro σ H Q ⟨w, ρ, π, c, h⟩
  refine ⟨w, ρ, 0 :: π, c.cf.sub, (Fin.stepL h).mono fun x w1 l1 r1 o1 h1 p kvs hp hk rvs => ?_⟩
  refine Fin.laid h1 rfl r1 hp _ ?_
  simp only [RD]
  exact ⟨p, kvs, rfl, .inl upd_same, dead_lay r1 hp, hk, RDs.mono r1 (le_lay r1 hp).toLe0 _ _ rvs⟩
theorem td_sto {f : DM} : ∀ σ H Q, TE' K W (stoD f) σ H Q → TD' K W f σ H Q := by
  intro σ H Q ⟨w, ρ, π, c, h⟩
  refine ⟨w, ρ, 0 :: π, c.cf.sub, (Fin.stepL h).mono fun x w1 l1 r1 o1 h1 p kvs hp hk rvs => ?_⟩
  have c1 := c.cf.next l1 r1 o1
  have hn : w1.ph (1 :: π) = none := c1.fr 1 (Nat.le_refl 1) []
  refine h1.okd (w1.new (1 :: π) p (.dct x.1 x.2) (.dK kvs)) rfl (le_new r1 hn hp) (rel_new r1 hn hp ⟨kvs, upd_same, hk, RDs.mono r1 (le_new r1 hn hp).toLe0 _ _ rvs⟩) (fun i hi => if_neg (hi [1])) _ ?_
  simp only [RD]
  exact ⟨p, rfl, if_pos rfl⟩
end
section
variable {X : Cx} {W : WX} {pos spos : Pos} {e : Expr} {f : DM} {fa : AM}
theorem se_frzD (h : SD X W e f) : SE X W e (frzD f) := pe_imp h td_frz
theorem se_stoD (h : SD X W e f) : SE X W e (stoD f) := pe_imp h td_sto
theorem sd_nil : SD X W (.Dict [] [] pos) nilD := by
  refine pe_imp pe_dnewK ?_
  intro σ H Q ⟨w, ρ, π, c, h⟩ p hp
  have q := Fin.here h rfl c.rel p [] (by rw [c.hp]; exact hp) rfl .nil
  rw [c.hp] at q
  exact q
/-- name = what a comprehension makes -/
theorem ts_asg {K : PySem.W.Frag} {te : TE} {fe : EM} {i : Nat} (h : ∀ σ H Q, TE' K W fe σ H Q → te σ H Q) : ∀ E σ H, TS' K W (asgS fe (nameG i)) E σ H → tAsg te (gName i) E σ H := by
  intro E σ H ⟨w, ρ, π, c, q⟩
  refine h σ H _ ⟨w, ρ, 0 :: π, c.cf.sub, (FinS.exS q c.env c.rel).mono fun d w1 l1 r1 o1 h1 v rv => ?_⟩
  have c1 := c.cf.next l1 r1 o1
  exact (show FinS K W E w1 π (some (.nx, ρ.set i (some d), w1.st)) from h1).nx rfl r1 (c1.env.set i rv)
variable {elt tg iter tg1 iter1 : Expr} {ifs ifs1 : List Expr} {scope : Scope} {own : List (Str × Nat)} {fi fi1 : IM} {g g1 : GN} {t t1 : BM} {fe : EM} {vs1 : List Nat}
theorem sn_lc (own : List (Str × Nat)) (hc : X.calm = true) (hN : X.N.Nodup) (hi : SI X W tg iter fi) (ok : BlkOk X.N X.env.scope scope own)
    (hg : ∀ (s : Shared) (H : Hp) (C : Addr) (cl : List (Str × Addr)) (fp : List Addr), SGn (X.blk s H scope (compEnvC scope cl C X.env) fp) (own.map (·.2)) tg g) (ht : ∀ (s : Shared) (H : Hp) (C : Addr) (cl : List (Str × Addr)) (fp : List Addr), STs (X.blk s H scope (compEnvC scope cl C X.env) fp) W0 ifs t)
    (he : ∀ (s : Shared) (H : Hp) (C : Addr) (cl : List (Str × Addr)) (fp : List Addr), SE (X.blk s H scope (compEnvC scope cl C X.env) fp) W0 elt fe) (hs : ∀ x, foldedSetIterable iter X.env x = pure x := by intro _; rfl) :
    SN X W (.ListComp elt [⟨tg, iter, ifs, 0⟩] scope pos) (lcM fi g t fe (own.map (·.2))) := pe_imp (pe_lc hc hN hi ok hg ht he hs) te_lc
theorem sn_lc2 (own : List (Str × Nat)) (vs1 : List Nat) (hc : X.calm = true) (hN : X.N.Nodup) (hi : SI X W tg iter fi) (ok : BlkOk X.N X.env.scope scope own) (hv : ∀ i ∈ vs1, i ∈ own.map (·.2))
    (hg : ∀ (s : Shared) (H : Hp) (C : Addr) (cl : List (Str × Addr)) (fp : List Addr), SGn (X.blk s H scope (compEnvC scope cl C X.env) fp) (own.map (·.2)) tg g) (ht : ∀ (s : Shared) (H : Hp) (C : Addr) (cl : List (Str × Addr)) (fp : List Addr), STs (X.blk s H scope (compEnvC scope cl C X.env) fp) W0 ifs t)
    (hi1 : ∀ (s : Shared) (H : Hp) (C : Addr) (cl : List (Str × Addr)) (fp : List Addr), SI (X.blk s H scope (compEnvC scope cl C X.env) fp) W0 tg1 iter1 fi1)
    (hg1 : ∀ (s : Shared) (H : Hp) (C : Addr) (cl : List (Str × Addr)) (fp : List Addr), SGn (X.blk s H scope (compEnvC scope cl C X.env) fp) vs1 tg1 g1) (ht1 : ∀ (s : Shared) (H : Hp) (C : Addr) (cl : List (Str × Addr)) (fp : List Addr), STs (X.blk s H scope (compEnvC scope cl C X.env) fp) W0 ifs1 t1)
    (he : ∀ (s : Shared) (H : Hp) (C : Addr) (cl : List (Str × Addr)) (fp : List Addr), SE (X.blk s H scope (compEnvC scope cl C X.env) fp) W0 elt fe) (hs : ∀ x, foldedSetIterable iter X.env x = pure x := by intro _; rfl) (hs1 : ∀ env x, foldedSetIterable iter1 env x = pure x := by intro _ _; rfl) :
    SN X W (.ListComp elt [⟨tg, iter, ifs, 0⟩, ⟨tg1, iter1, ifs1, 0⟩] scope pos) (lcM2 fi g t fi1 g1 t1 fe (own.map (·.2)) vs1) := pe_imp (pe_lc2 hc hN hi ok hv hg ht hi1 hg1 ht1 he hs hs1) te_lc2
theorem ss_setLcF {i : Nat} {y : Str} {py : Pos} (own : List (Str × Nat)) (hc : X.calm = true) (hN : X.N.Nodup) (hy : X.N[i]? = some y) (hyl : X.env.scope.names.lookup y = some .local)
    (hsw : swapsWith (.ListComp elt [⟨tg, iter, ifs, 0⟩] scope pos) (some (.Name y py)) spos.line X.env = pure true) (hi : SI X W tg iter fi) (ok : BlkOk X.N X.env.scope scope own)
    (hg : ∀ (s : Shared) (H : Hp) (C : Addr) (cl : List (Str × Addr)) (fp : List Addr), SGn (X.blk s H scope (compEnvC scope cl C X.env) fp) (own.map (·.2)) tg g) (ht : ∀ (s : Shared) (H : Hp) (C : Addr) (cl : List (Str × Addr)) (fp : List Addr), STs (X.blk s H scope (compEnvC scope cl C X.env) fp) W0 ifs t)
    (he : ∀ (s : Shared) (H : Hp) (C : Addr) (cl : List (Str × Addr)) (fp : List Addr), SE (X.blk s H scope (compEnvC scope cl C X.env) fp) W0 elt fe) (hs : ∀ x, foldedSetIterable iter X.env x = pure x := by intro _; rfl) :
    SS X W (.Assign [.Name y py] (.ListComp elt [⟨tg, iter, ifs, 0⟩] scope pos) spos) (asgS (frzM (lcM fi g t fe (own.map (·.2)))) (nameG i)) :=
  ps_imp (ps_setLc hc hN hy hyl hsw hi ok hg ht he hs) (ts_asg fun σ H Q h => te_lc σ H Q (te_frz σ H Q h))
theorem ss_setLcS {i : Nat} {y : Str} {py : Pos} (own : List (Str × Nat)) (hc : X.calm = true) (hN : X.N.Nodup) (hy : X.N[i]? = some y) (hyl : X.env.scope.names.lookup y = some .local)
    (hsw : swapsWith (.ListComp elt [⟨tg, iter, ifs, 0⟩] scope pos) (some (.Name y py)) spos.line X.env = pure true) (hi : SI X W tg iter fi) (ok : BlkOk X.N X.env.scope scope own)
    (hg : ∀ (s : Shared) (H : Hp) (C : Addr) (cl : List (Str × Addr)) (fp : List Addr), SGn (X.blk s H scope (compEnvC scope cl C X.env) fp) (own.map (·.2)) tg g) (ht : ∀ (s : Shared) (H : Hp) (C : Addr) (cl : List (Str × Addr)) (fp : List Addr), STs (X.blk s H scope (compEnvC scope cl C X.env) fp) W0 ifs t)
    (he : ∀ (s : Shared) (H : Hp) (C : Addr) (cl : List (Str × Addr)) (fp : List Addr), SE (X.blk s H scope (compEnvC scope cl C X.env) fp) W0 elt fe) (hs : ∀ x, foldedSetIterable iter X.env x = pure x := by intro _; rfl) :
    SS X W (.Assign [.Name y py] (.ListComp elt [⟨tg, iter, ifs, 0⟩] scope pos) spos) (asgS (stoM (lcM fi g t fe (own.map (·.2)))) (nameG i)) :=
  ps_imp (ps_setLc hc hN hy hyl hsw hi ok hg ht he hs) (ts_asg fun σ H Q h => te_lc σ H Q (te_sto σ H Q h))
theorem ss_setLc2F {i : Nat} {y : Str} {py : Pos} (own : List (Str × Nat)) (vs1 : List Nat) (hc : X.calm = true) (hN : X.N.Nodup) (hy : X.N[i]? = some y) (hyl : X.env.scope.names.lookup y = some .local)
    (hsw : swapsWith (.ListComp elt [⟨tg, iter, ifs, 0⟩, ⟨tg1, iter1, ifs1, 0⟩] scope pos) (some (.Name y py)) spos.line X.env = pure true) (hi : SI X W tg iter fi) (ok : BlkOk X.N X.env.scope scope own) (hv : ∀ i ∈ vs1, i ∈ own.map (·.2))
    (hg : ∀ (s : Shared) (H : Hp) (C : Addr) (cl : List (Str × Addr)) (fp : List Addr), SGn (X.blk s H scope (compEnvC scope cl C X.env) fp) (own.map (·.2)) tg g) (ht : ∀ (s : Shared) (H : Hp) (C : Addr) (cl : List (Str × Addr)) (fp : List Addr), STs (X.blk s H scope (compEnvC scope cl C X.env) fp) W0 ifs t)
    (hi1 : ∀ (s : Shared) (H : Hp) (C : Addr) (cl : List (Str × Addr)) (fp : List Addr), SI (X.blk s H scope (compEnvC scope cl C X.env) fp) W0 tg1 iter1 fi1)
    (hg1 : ∀ (s : Shared) (H : Hp) (C : Addr) (cl : List (Str × Addr)) (fp : List Addr), SGn (X.blk s H scope (compEnvC scope cl C X.env) fp) vs1 tg1 g1) (ht1 : ∀ (s : Shared) (H : Hp) (C : Addr) (cl : List (Str × Addr)) (fp : List Addr), STs (X.blk s H scope (compEnvC scope cl C X.env) fp) W0 ifs1 t1)
    (he : ∀ (s : Shared) (H : Hp) (C : Addr) (cl : List (Str × Addr)) (fp : List Addr), SE (X.blk s H scope (compEnvC scope cl C X.env) fp) W0 elt fe) (hs : ∀ x, foldedSetIterable iter X.env x = pure x := by intro _; rfl) (hs1 : ∀ env x, foldedSetIterable iter1 env x = pure x := by intro _ _; rfl) :
    SS X W (.Assign [.Name y py] (.ListComp elt [⟨tg, iter, ifs, 0⟩, ⟨tg1, iter1, ifs1, 0⟩] scope pos) spos) (asgS (frzM (lcM2 fi g t fi1 g1 t1 fe (own.map (·.2)) vs1)) (nameG i)) :=
  ps_imp (ps_setLc2 hc hN hy hyl hsw hi ok hv hg ht hi1 hg1 ht1 he hs hs1) (ts_asg fun σ H Q h => te_lc2 σ H Q (te_frz σ H Q h))
end
end MI
namespace MI
open PySem PySem.Spec PyProof.Rows L2
/-! ### dict comprehensions -/
def putKD (x : List Key × List D) (k : Key) (d : D) : List Key × List D := if (valD x.1 x.2 k).isSome = true then (x.1, setV x.1 x.2 k d) else (x.1 ++ [k], x.2 ++ [d])
theorem putKD_ok {K : PySem.W.Frag} {w : Wd} {x : List Key × List D} {kvs : List (Key × V)} {k : Key} {d : D} {v : V} (h1 : kvs.map (·.1) = x.1) (h2 : RDs K w x.2 (kvs.map (·.2))) (h3 : RD K w d v) :
    (putK kvs k v).map (·.1) = (putKD x k d).1 ∧ RDs K w (putKD x k d).2 ((putK kvs k v).map (·.2)) := by
  have vo := valD_ok (w := w) k h1 h2
  unfold putKD
  by_cases hv : (valD x.1 x.2 k).isSome = true
  · rw [if_pos hv]
    obtain ⟨d0, ed⟩ := Option.isSome_iff_exists.mp hv
    rw [ed] at vo
    obtain ⟨v0, ev0, _⟩ := vo
    have hany : (kvs.any fun kv => decide (kv.1 = k)) = true := by rw [valV_any, ev0]; rfl
    have hp : putK kvs k v = kvs.map (fun kv => if kv.1 = k then (kv.1, v) else kv) := if_pos hany
    rw [hp]
    exact setV_ok h3 h1 h2
  · rw [if_neg hv]
    have ed : valD x.1 x.2 k = none := by
      cases z : valD x.1 x.2 k with
      | none => rfl
      | some d => rw [z] at hv; exact absurd rfl hv
    rw [ed] at vo
    rw [putK_new v vo]
    refine ⟨?_, ?_⟩
    · rw [List.map_append, h1]; rfl
    · rw [List.map_append]
      exact h2.append (.one h3)
open Classical in
noncomputable def dcIts (g : GN) (t : BM) (k e : EM) (c : Lives) (vs : List Nat) (ρ : Env) : List Key × List D → List D → Id → Store → Option ((List Key × List D) × Store)
  | x0, [], _, S => if Still c S then some (x0, S) else none
  | x0, x :: xs, π, S => if Still c S then (g S x (wipeE ρ vs)).bind fun ρ1 => (match t ρ1 (0 :: π) S with
    | some (.ok true, S1) => (match k ρ1 (1 :: π) S1 with
      | some (.ok kd, S2) => (match e ρ1 (2 :: π) S2 with
        | some (.ok d, S3) => (keyD kd).bind fun kk => if x0.1.length < sizeLine then dcIts g t k e c vs ρ (putKD x0 kk d) xs (3 :: π) S3 else none
        | _ => none)
      | _ => none)
    | some (.ok false, S1) => dcIts g t k e c vs ρ x0 xs (3 :: π) S1
    | _ => none) else none
noncomputable def dcM (f : IM) (g : GN) (t : BM) (k e : EM) (vs : List Nat) : DM := fun ρ π S => bindR (f ρ (0 :: π) S) fun p S1 => (match dcIts g t k e p.2 vs ρ ([], []) p.1 (1 :: π) S1 with
  | some (x, S2) => okR x S2
  | none => none)
theorem te_dc {K : PySem.W.Frag} {W : WX} {f : IM} {g : GN} {t : BM} {k e : EM} {vs : List Nat} :
    ∀ σ H Q, TD' K W (dcM f g t k e vs) σ H Q → tDc (TI' K W f) (TGn K vs g) (TT' K W0 t) (TE' K W0 k) (TE' K W0 e) vs σ H Q := by
  intro σ H Q ⟨w0, ρ, π0, c0, h0⟩
  refine ⟨w0, ρ, 0 :: π0, c0.cf.sub, (Fin.stepL h0).mono fun p u1 l1 r1 o1 h1 J SJ A hA => ?_⟩
  obtain ⟨xs, cs⟩ := p
  have c1 := (c0.cf.next l1 r1 o1).sub
  cases e1 : dcIts g t k e cs vs ρ ([], []) xs (1 :: π0) u1.st with
  | none => simp only [e1] at h1; exact h1.elim
  | some pr =>
    obtain ⟨out, S2⟩ := pr
    simp only [e1] at h1
    have h2 := h1.okd
    refine ⟨fun i m H => ∃ u π acc accD, H = (u.hide A (.dK acc)).hp ∧ Rel K u ∧ u.hp A = none ∧ Le u1 u ∧ Out (1 :: π0) u1 u ∧ Fr π u ∧ (∃ q, π = q ++ (1 :: π0)) ∧ i ≤ xs.length ∧ m = xs.length - i ∧ acc.map (·.1) = accD.1 ∧ RDs K u accD.2 (acc.map (·.2)) ∧
      dcIts g t k e cs vs ρ accD (xs.drop i) π u.st = some (out, S2), ⟨xs.length, u1, 1 :: π0, [], ([], []), rfl, r1, hA, Le.refl _, Out.refl _ _, c1.fr, ⟨[], rfl⟩, Nat.zero_le _, rfl, rfl, .nil, e1⟩, ?_⟩
    rintro i m H ⟨u, π, acc, accD, rfl, ru, hAu, lu, ou, fu, ⟨q, rfl⟩, hi, rfl, kac, rac, er⟩
    have rh := rel_hide (o := .dK acc) ru hAu rfl
    have lh := le_hide (o := .dK acc) ru hAu
    have l0 : Le1 u1 (u.hide A (.dK acc)) := (lu.toLe0.trans lh).toLe1
    have enu : EnvR K u ρ σ := c1.env.mono c1.rel lu.toLe0
    by_cases hlt : i < xs.length
    · right
      rw [List.drop_eq_getElem_cons hlt] at er
      unfold dcIts at er
      by_cases st : Still cs u.st
      case neg => rw [if_neg st] at er; cases er
      rw [if_pos st] at er
      obtain ⟨ρ1, eg, er2⟩ := Option.bind_eq_some_iff.mp er
      refine ⟨SJ.go _ i l0 rh st hlt, fun H' => ∃ u π acc accD, H' = (u.hide A (.dK acc)).hp ∧ Rel K u ∧ u.hp A = none ∧ Le u1 u ∧ Out (1 :: π0) u1 u ∧ Fr π u ∧ (∃ q, π = q ++ (1 :: π0)) ∧ acc.map (·.1) = accD.1 ∧ RDs K u accD.2 (acc.map (·.2)) ∧
        dcIts g t k e cs vs ρ accD (xs.drop (i + 1)) π u.st = some (out, S2), ?_, ?_⟩
      · rintro H' ⟨u', π', acc', accD', e1', r', hA', l', o', f', q', kac', rac', er'⟩
        exact ⟨xs.length - (i + 1), by omega, u', π', acc', accD', e1', r', hA', l', o', f', q', hlt, rfl, kac', rac', er'⟩
      · intro v H' y
        obtain ⟨w2, e2, e3, e4, l2, r2, rv⟩ := SJ.yld _ i v H' _ l0 rh st y (List.getElem?_eq_getElem hlt)
        subst e2
        obtain ⟨hd2, hp2, lu2⟩ := le_drop ru hAu rfl l2
        have ru2 := rel_drop r2 hd2 hp2 rfl
        have enh : EnvR K (u.hide A (.dK acc)) ρ σ := enu.mono ru lh
        have en2 : EnvR K w2 (wipeE ρ vs) (wipe σ vs) := (enh.mono rh l2.toLe0).wipe vs
        have f2 : Fr (q ++ 1 :: π0) w2 := fu.move e4
        refine ⟨w2, wipeE ρ vs, q ++ 1 :: π0, _, ρ1, ⟨rfl, en2, r2, f2⟩, rv, ?_, fun σ3 en3 of3 => ⟨of3.wipe.trans ?_, ?_⟩⟩
        · have e3' : w2.st = u.st := e3
          rw [e3']; exact eg
        · exact (Off.wipe (vs := vs) (σ := σ) (σ' := wipe σ vs) ⟨wipe_length σ vs, fun j hj => by rw [wipe_get, if_neg hj]⟩)
        · have e3' : w2.st = u.st := e3
          cases et : t ρ1 (0 :: (q ++ 1 :: π0)) u.st with
          | none => simp only [et] at er2; cases er2
          | some pt =>
            obtain ⟨x, S1⟩ := pt
            cases x with
            | ex x => simp only [et] at er2; cases er2
            | ok b =>
              have c2 : Cfg K w2 ρ1 (q ++ 1 :: π0) σ3 w2.hp := ⟨rfl, en3, r2, f2⟩
              refine ⟨w2, ρ1, 0 :: (q ++ 1 :: π0), c2.cf.sub, fin0 (by rw [e3']; exact et) fun w3 e5 l3 r3 o3 => ?_⟩
              have c3 := c2.cf.next l3 r3 o3
              obtain ⟨hd3, hp3, lu3⟩ := le_drop ru2 drop_none (hide_drop hd2 hp2).symm l3
              have ru3 := rel_drop r3 hd3 hp3 rfl
              have o13 : Out (1 :: π0) u1 (w3.drop A) := fun i h => by
                have z1 : w3.ph i = w2.ph i := o3.up.deep i h
                have z2 : u.ph i = u1.ph i := ou i h
                show w3.ph i = u1.ph i
                rw [z1, e4]
                exact z2
              have lu13 : Le u1 (w3.drop A) := lu.trans (lu2.trans lu3)
              have rac3 : RDs K (w3.drop A) accD.2 (acc.map (·.2)) := RDs.mono ru (lu2.trans lu3).toLe0 _ _ rac
              cases b with
              | false =>
                simp only [et] at er2
                refine iteF ?_
                refine ⟨w3.drop A, 3 :: (q ++ 1 :: π0), acc, accD, ?_, ru3, drop_none, lu13, o13, (c2.fr.sub 3).out o3 (by decide), ⟨3 :: q, rfl⟩, kac, rac3, by rw [show (w3.drop A).st = S1 from e5]; exact er2⟩
                rw [hide_drop hd3 hp3]
              | true =>
                simp only [et] at er2
                refine iteT ?_
                cases ek : k ρ1 (1 :: (q ++ 1 :: π0)) S1 with
                | none => simp only [ek] at er2; cases er2
                | some pk =>
                  obtain ⟨x, S3⟩ := pk
                  cases x with
                  | ex x => simp only [ek] at er2; cases er2
                  | ok kd =>
                    simp only [ek] at er2
                    cases ee : e ρ1 (2 :: (q ++ 1 :: π0)) S3 with
                    | none => simp only [ee] at er2; cases er2
                    | some pe =>
                      obtain ⟨x, S4⟩ := pe
                      cases x with
                      | ex x => simp only [ee] at er2; cases er2
                      | ok d =>
                        simp only [ee] at er2
                        obtain ⟨kk, ekk, er3⟩ := Option.bind_eq_some_iff.mp er2
                        by_cases hl : accD.1.length < sizeLine
                        case neg => rw [if_neg hl] at er3; cases er3
                        rw [if_pos hl] at er3
                        refine ⟨w3, ρ1, 1 :: (q ++ 1 :: π0), c3.sub, fin0 (by rw [e5]; exact ek) fun w4 e8 l4 r4 o4 y4 ry => ?_⟩
                        have c4 := c3.next l4 r4 o4
                        obtain ⟨hd4, hp4, lu4⟩ := le_drop ru3 drop_none (hide_drop hd3 hp3).symm l4
                        have ru4 := rel_drop r4 hd4 hp4 rfl
                        refine ⟨w4, ρ1, 2 :: (q ++ 1 :: π0), c4.sub, fin0 (by rw [e8]; exact ee) fun w5 e9 l5 r5 o5 z5 rz => ?_⟩
                        obtain ⟨hd5, hp5, lu5⟩ := le_drop ru4 drop_none (hide_drop hd4 hp4).symm l5
                        have ru5 := rel_drop r5 hd5 hp5 rfl
                        have hl' : acc.length < sizeLine := by rw [← kac, List.length_map] at hl; exact hl
                        have pk := putKD_ok (K := K) (w := w5.drop A) (k := kk) kac (RDs.mono ru3 (lu4.trans lu5).toLe0 _ _ rac3) (RD.drop hd5 hp5 rfl _ _ rz)
                        refine ⟨acc, kk, keyD_ok ry ekk, hp5, hl', w5.drop A, 3 :: (q ++ 1 :: π0), putK acc kk z5, putKD accD kk d, upd_drop.symm, ru5, drop_none, lu13.trans (lu4.trans lu5), ?_, ?_, ⟨3 :: q, rfl⟩, pk.1, pk.2, by rw [show (w5.drop A).st = S4 from e9]; exact er3⟩
                        · intro i h
                          have z1 : w4.ph i = w3.ph i := o4.up.deep i h
                          have z2 : w5.ph i = w4.ph i := o5.up.deep i h
                          exact z2.trans (z1.trans (o13 i h))
                        · exact (c4.fr 3 (by decide)).out o5 (by decide)
    · have ei : i = xs.length := by omega
      subst ei
      left
      rw [List.drop_length] at er
      unfold dcIts at er
      by_cases st : Still cs u.st
      case neg => rw [if_neg st] at er; cases er
      rw [if_pos st] at er
      have e8 : accD = out := congrArg Prod.fst (Option.some.inj er)
      have e9 : u.st = S2 := congrArg Prod.snd (Option.some.inj er)
      subst e8
      exact ⟨SJ.stop _ l0 rh st, h2 u e9 lu ru ou.up A acc hAu kac rac⟩
end MI
namespace MI
open PySem PySem.Spec PyProof.Rows L2
section
variable {X : Cx} {W : WX} {pos spos : Pos}
variable {kx vx tg iter : Expr} {ifs : List Expr} {scope : Scope} {fi : IM} {g : GN} {t : BM} {fk fe : EM}
theorem sd_dc (own : List (Str × Nat)) (hc : X.calm = true) (hN : X.N.Nodup) (hi : SI X W tg iter fi) (ok : BlkOk X.N X.env.scope scope own)
    (hg : ∀ (s : Shared) (H : Hp) (C : Addr) (cl : List (Str × Addr)) (fp : List Addr), SGn (X.blk s H scope (compEnvC scope cl C X.env) fp) (own.map (·.2)) tg g) (ht : ∀ (s : Shared) (H : Hp) (C : Addr) (cl : List (Str × Addr)) (fp : List Addr), STs (X.blk s H scope (compEnvC scope cl C X.env) fp) W0 ifs t)
    (hk : ∀ (s : Shared) (H : Hp) (C : Addr) (cl : List (Str × Addr)) (fp : List Addr), SE (X.blk s H scope (compEnvC scope cl C X.env) fp) W0 kx fk)
    (he : ∀ (s : Shared) (H : Hp) (C : Addr) (cl : List (Str × Addr)) (fp : List Addr), SE (X.blk s H scope (compEnvC scope cl C X.env) fp) W0 vx fe) (hs : ∀ x, foldedSetIterable iter X.env x = pure x := by intro _; rfl) :
    SD X W (.DictComp kx vx [⟨tg, iter, ifs, 0⟩] scope pos) (dcM fi g t fk fe (own.map (·.2))) := pe_imp (pe_dc hc hN hi ok hg ht hk he hs) te_dc
theorem ps_setDc {i : Nat} {y : Str} {py : Pos} {own : List (Str × Nat)} {wi : TI} {g : TG} {tt : TT} {tk tv : TE} (hc : X.calm = true) (hN : X.N.Nodup) (hy : X.N[i]? = some y) (hyl : X.env.scope.names.lookup y = some .local)
    (hsw : swapsWith (.DictComp kx vx [⟨tg, iter, ifs, 0⟩] scope pos) (some (.Name y py)) spos.line X.env = pure true) (hi : PI X tg iter wi) (ok : BlkOk X.N X.env.scope scope own)
    (hg : ∀ (s : Shared) (H : Hp) (C : Addr) (cl : List (Str × Addr)) (fp : List Addr), PG (X.blk s H scope (compEnvC scope cl C X.env) fp) tg g) (ht : ∀ (s : Shared) (H : Hp) (C : Addr) (cl : List (Str × Addr)) (fp : List Addr), PTs (X.blk s H scope (compEnvC scope cl C X.env) fp) ifs tt)
    (hk : ∀ (s : Shared) (H : Hp) (C : Addr) (cl : List (Str × Addr)) (fp : List Addr), PE (X.blk s H scope (compEnvC scope cl C X.env) fp) kx tk)
    (he : ∀ (s : Shared) (H : Hp) (C : Addr) (cl : List (Str × Addr)) (fp : List Addr), PE (X.blk s H scope (compEnvC scope cl C X.env) fp) vx tv) (hs : ∀ x, foldedSetIterable iter X.env x = pure x := by intro _; rfl) :
    PS X (.Assign [.Name y py] (.DictComp kx vx [⟨tg, iter, ifs, 0⟩] scope pos) spos) (tAsg (tDc wi g tt tk tv (own.map (·.2))) (gName i)) := by
  refine ⟨fun pins s σ H D I h => ?_⟩
  rw [exec_Assign_Name_used _ _ _ _ hsw]
  refine wpAny_bind (wpAny_standAt (wpAny_bind ?_))
  show wpAny _ X.A (do let _ ← comprehension (.DictComp kx vx [⟨tg, iter, ifs, 0⟩] scope pos) scope X.env (firstIterPos [⟨tg, iter, ifs, 0⟩] pos) newDict false (eval iter X.env) (some (assign (.Name y py) X.env))) _ _ s
  have h : tDc wi g tt tk tv (own.map (·.2)) σ H (fun x H1 => gName i x σ H1 D.nx) := h
  refine wpAny_bind (thn (dc_core (Qf := fun _ s' => SP X pins D .next s') hc hN I hi ok hg ht hk he hs h fun L C s' m H' I' q hn f => ?_) fun _ s' hq => wpAny_pure (wpAny_pure hq))
  show wpAny _ _ (assign (.Name y py) X.env (.ref L)) _ _ _
  refine wpAny_assign_Name (store_ok2 (v := V.ref L) I' hN hy (.inl hyl) rfl (fun s2 I2 ⟨a, sb, ha⟩ => ?_) (.inr hyl))
  obtain ⟨f0, f1, f2, f3, f4, f5⟩ := f
  have haC : C ≠ a := by
    rcases ha with z | z
    · rw [z]; exact f1
    · exact fun e => f4 y a z e.symm
  refine ⟨m, hn.sameBut sb haC, fun h3 sb3 => ?_⟩
  exact ⟨_, H', I2.turned (t' := s2.toks) (fun b o hb e => (sb3.2 b hb).trans e) f0 f1 f3 f4 f5, q⟩
theorem sw_trueD {gs : List Comprehension} {py : Pos} {y : Str} {l : Nat} {env : PySem.Env} (hk : env.scope.kind = .function) (hy : env.scope.names.lookup y = some .local) (hl : (py.line == pos.line) = true)
    (ha : (scope.names.any fun (n, k) => n == y && (k == .local || k == .cell)) = false) : swapsWith (.DictComp kx vx gs scope pos) (some (.Name y py)) l env = pure true := by
  have ky : env.kindOf y = some .local := hy
  have hb : env.blockKind = .function := by unfold Env.blockKind; rw [hk]; rfl
  unfold swapsWith
  simp only [hb, ky, ha, Expr.pos, hl]
  rfl
theorem ss_setDcF {i : Nat} {y : Str} {py : Pos} (own : List (Str × Nat)) (hc : X.calm = true) (hN : X.N.Nodup) (hy : X.N[i]? = some y) (hyl : X.env.scope.names.lookup y = some .local)
    (hsw : swapsWith (.DictComp kx vx [⟨tg, iter, ifs, 0⟩] scope pos) (some (.Name y py)) spos.line X.env = pure true) (hi : SI X W tg iter fi) (ok : BlkOk X.N X.env.scope scope own)
    (hg : ∀ (s : Shared) (H : Hp) (C : Addr) (cl : List (Str × Addr)) (fp : List Addr), SGn (X.blk s H scope (compEnvC scope cl C X.env) fp) (own.map (·.2)) tg g) (ht : ∀ (s : Shared) (H : Hp) (C : Addr) (cl : List (Str × Addr)) (fp : List Addr), STs (X.blk s H scope (compEnvC scope cl C X.env) fp) W0 ifs t)
    (hk : ∀ (s : Shared) (H : Hp) (C : Addr) (cl : List (Str × Addr)) (fp : List Addr), SE (X.blk s H scope (compEnvC scope cl C X.env) fp) W0 kx fk)
    (he : ∀ (s : Shared) (H : Hp) (C : Addr) (cl : List (Str × Addr)) (fp : List Addr), SE (X.blk s H scope (compEnvC scope cl C X.env) fp) W0 vx fe) (hs : ∀ x, foldedSetIterable iter X.env x = pure x := by intro _; rfl) :
    SS X W (.Assign [.Name y py] (.DictComp kx vx [⟨tg, iter, ifs, 0⟩] scope pos) spos) (asgS (frzD (dcM fi g t fk fe (own.map (·.2)))) (nameG i)) :=
  ps_imp (ps_setDc hc hN hy hyl hsw hi ok hg ht hk he hs) (ts_asg fun σ H Q h => te_dc σ H Q (td_frz σ H Q h))
end
end MI

set_option Elab.async false
set_option linter.all false
set_option maxRecDepth 100000
set_option maxHeartbeats 2000000
/-! MI: defs and their calls, instances. -/
namespace MI
open PySem PySem.Spec PyProof.Rows L2
/-- a def's meaning: the arguments, a supply, the store -/
abbrev FM := List D → Id → Store → Rs D
/-- a def: n parameters, N slots -/
def defM (n N : Nat) (b : SM) : FM := fun ds π S => if ds.length = n then (match b (ds.map some ++ List.replicate (N - n) none) π S with
  | some (.nx, _, S') => okR .non S'
  | some (.rt d, _, S') => okR d S'
  | some (.ex e, _, S') => some (.ex e, S')
  | _ => none) else none
/-- a def's promise -/
def FnS (K : PySem.W.Frag) (F : FM) (n : Nat) : Sp := fun vs H Q E => vs.length = n ∧ ∃ w ds π, w.hp = H ∧ Rel K w ∧ RDs K w ds vs ∧ Fr π w ∧ Fin K (fun c dd _ H => E c dd H) [] w π (F ds π w.st) fun d w' => ∀ v, RD K w' d v → Q v w'.hp
/-- a def's promise where no guard of repr stands -/
structure FnG (P : Program) (w : World) (K : PySem.W.Frag) (mg : Str → Option Value) (base : Heap) (k : Nat) (f : Addr) (fd : FuncData) (ps : List Str) (sp : Sp) : Prop where
  len : ∀ vs H Q E, sp vs H Q E → vs.length = ps.length
  run : ∀ (A : Around) (outer : List PySem.Env) (s : Shared) (H : Hp) (args : Args) (us : List Value) (vs : List V) (Q : VK) (E : XK), Room k A → A.guards = some [] → Env0 P w K mg base A outer s H → BindsTo s fd args (ps.zip us) → Vals vs us → sp vs H Q E →
    codeAny (model P w) A (.call (.ref f) args) (CR (L2.CX P w) outer P w H s Q E) s
theorem FnG.mono {P : Program} {w : World} {K : PySem.W.Frag} {mg : Str → Option Value} {base : Heap} {j k : Nat} {f : Addr} {fd : FuncData} {ps : List Str} {sp : Sp} (F : FnG P w K mg base j f fd ps sp) (h : j ≤ k) : FnG P w K mg base k f fd ps sp :=
  ⟨F.len, fun A outer s H args us vs Q E hr => F.run A outer s H args us vs Q E (hr.mono h)⟩
theorem FnG.imp {P : Program} {w : World} {K : PySem.W.Frag} {mg : Str → Option Value} {base : Heap} {k : Nat} {f : Addr} {fd : FuncData} {ps : List Str} {sp sp' : Sp} (F : FnG P w K mg base k f fd ps sp) (h : ∀ vs H Q E, sp' vs H Q E → sp vs H Q E) : FnG P w K mg base k f fd ps sp' :=
  ⟨fun vs H Q E q => F.len vs H Q E (h _ _ _ _ q), fun A outer s H args us vs Q E hr hg he hb hv hs => F.run A outer s H args us vs Q E hr hg he hb hv (h _ _ _ _ hs)⟩
/-- by the body, as fn_of has it -/
theorem fn_ofG {P : Program} {w : World} {K : PySem.W.Frag} {mg : Str → Option Value} {base : Heap} {k : Nat} {f : Addr} {x qual : Str} {st : Stmt} {fd : FuncData} {N ps : List Str} {sp : Sp} {dvs : List V} {kws : List (Str × V)} (hF : FunD K x qual (defArgs st) (defBody st) (defScope st) dvs kws f fd) (S : FnScope N ps (defScope st))
    (len : ∀ vs H Q E, sp vs H Q E → vs.length = ps.length)
    (hbody : ∀ (cdv : Value) (A : Around) (outer : List PySem.Env) (s : Shared) (H : Hp) (vs : List V) (Q : VK) (E : XK), Room k (A.deeper (envOfC qual (defScope st) s.heap.objs.size f cdv)) → A.guards = some [] → sp vs H Q E →
      ∃ t, PSs (cxOf (L2.CX P w) P w K mg base N qual (defScope st) f cdv A outer s H E) (defBody st) t ∧ t { nx := fun _ H' => Q .non H', rt := Q } (L2.start N vs) H) : FnG P w K mg base (k + 1) f fd ps sp := by
  obtain ⟨oc, od, dV, kV, doc, pm, an, cdv, ct, osl, rfl, lk, hcd, _, _⟩ := hF.ex
  refine ⟨len, fun A outer s H args us vs Q E hr hgu e0 hb r hsp => ?_⟩
  have KX : K.In s.heap := e0.mod.kin.keeps fun b o e => (e0.bs b o e).1
  have lim : s.heap.NoLimit := e0.mod.nolimit.keeps fun b o e => (e0.bs b o e).1
  have hkind : ∀ y ∈ ps.zip us, (defScope st).names.lookup y.1 = some .local ∨ ((defScope st).names.lookup y.1 = some .cell ∧ ((cellsFrom (s.heap.objs.size + 1) (defScope st).names []).lookup y.1).isSome = true) := fun ⟨n, v⟩ hy =>
    (S.par n (List.of_mem_zip hy).1).elim .inl fun q => .inr ⟨q, PySem.W.cellsFrom_some _ _ _ (.inl q)⟩
  refine codeAny_call_function hr.depth (KX _ _ lk) rfl S.co S.gen rfl (PySem.W.codeRec_of KX hcd) (hb _ _ _ _ (wpAny_newFunctionEnv_cells S.kind hkind fun env he s1 x => ?_))
  subst he
  obtain ⟨t, ht, hq⟩ := hbody cdv A outer s H vs Q E (hr.deeper _) hgu hsp
  refine ⟨lim.keeps x.toInCall.keep, codeAny_func (wpAny_mono (ht.run [] s1 (L2.start N vs) H _ (inv_start S hr.hd e0 (len _ _ _ _ hsp) r x) hq) (fun fl s' hs => ?_) fun e s' hs => hs)⟩
  cases fl with
  | ret u => obtain ⟨v, σ', H', J, rv, q⟩ := hs; exact ⟨v, H', J.os, J.bare, J.base, J.hok, rv, q⟩
  | next => obtain ⟨σ', H', J, q⟩ := hs; exact ⟨.non, H', J.os, J.bare, J.base, J.hok, rfl, q⟩
  | brk => obtain ⟨_, _, _, q⟩ := hs; exact False.elim q
  | cont => obtain ⟨_, _, _, q⟩ := hs; exact False.elim q
section
variable {X : Cx} {k : Nat} {f : Addr} {fd : FuncData} {ps : List Str} {sp : Sp} {W : WX} {x : Str} {p pos : Pos} {e : Expr} {es : List Expr} {t : TA}
/-- the callee runs; what it raises is wished for at the caller's slots -/
theorem run_g {pins : List (Addr × Obj)} {σ : L2.St} {H : Hp} {s : Shared} {Q : VK} {us : List Value} {vs : List V} (F : FnG X.prog X.w X.K X.mg X.base k f fd ps sp) (hr : Room k X.A) (hgu : X.A.guards = some []) (hb : Binds X.K fd ps []) (tk : Takes X W)
    (I : Inv X pins σ H s) (r : Vals vs us) (h : sp vs H Q (WE W σ)) : wpAny (model X.prog X.w) X.A (call (.ref f) us) (EP X pins σ Q) X.xe s := by
  have hl : (us ++ []).length = ps.length := by rw [List.append_nil, ← r.length]; exact F.len _ _ _ _ h
  refine wpAny_call (codeAny_mono (F.run X.A X.stack s H ⟨us, []⟩ (us ++ []) vs Q (WE W σ) hr hgu I.env0 (hb s us I.kIn hl) (by rw [List.append_nil]; exact r) h) fun r s' hq => ?_)
  cases r with
  | error e => exact passAt tk σ pins H s e s' I hq
  | ok fl =>
    cases fl with
    | ret u => exact I.after hq
    | _ => exact False.elim hq
def tCallG (sp : Sp) (W : WX) (t : TA) : TE := fun σ H Q => t σ H fun vs H1 => sp vs H1 Q (WE W σ)
theorem pe_callG (F : FnG X.prog X.w X.K X.mg X.base k f fd ps sp) (hr : Room k X.A) (hgu : X.A.guards = some []) (hg : Gl X x) (hm : X.mg x = some (.ref f)) (hk : PySem.W.keepIn X.K (.ref f) = true) (hb : Binds X.K fd ps []) (tk : Takes X W)
    (ha : PA X (e :: es) t) (hdb : (x == ("__debug__" : Str)) = false := by decide) (he : starEach (e :: es) X.env = (false, eval e X.env) :: starEach es X.env := by rfl) (hpl : (backTo pos (starEach es X.env)).any (·.1) = false := by rfl) :
    PE X (.Call (.Name x p) (e :: es) [] pos) (tCallG sp W t) := by
  refine ⟨fun pins s σ H Q I h => wpAny_Call_Name_kw (ld_glob I hg hm ?_ hdb)⟩
  exact PySem.W.callWith_K (h₀ := X.base) I.ok.mod.kin hk (thn (ha.run pos pins s σ H _ I h) fun us s1 ⟨vs, H1, I1, r, q⟩ => ⟨I1.kIn, run_g F hr hgu hb tk I1 r q⟩) he hpl
theorem pe_callG0 (F : FnG X.prog X.w X.K X.mg X.base k f fd ps sp) (hr : Room k X.A) (hgu : X.A.guards = some []) (hg : Gl X x) (hm : X.mg x = some (.ref f)) (hk : PySem.W.keepIn X.K (.ref f) = true) (hb : Binds X.K fd ps []) (tk : Takes X W)
    (hdb : (x == ("__debug__" : Str)) = false := by decide) : PE X (.Call (.Name x p) [] [] pos) (tCallG sp W tNil) := by
  refine ⟨fun pins s σ H Q I h => wpAny_Call_Name_kw (ld_glob I hg hm ?_ hdb)⟩
  exact PySem.W.callWith_K0 I.kIn hk (run_g (us := []) F hr hgu hb tk I .nil h)
end
/-- the def at f -/
def FnI (P : Program) (w : World) (K : PySem.W.Frag) (mg : Str → Option Value) (base : Heap) (k : Nat) (f : Addr) (F : FM) (n : Nat) : Prop :=
  (∃ fd ps, FnG P w K mg base k f fd ps (FnS K F n) ∧ Binds K fd ps []) ∧ PySem.W.keepIn K (.ref f) = true
theorem FnI.mono {P : Program} {w : World} {K : PySem.W.Frag} {mg : Str → Option Value} {base : Heap} {j k : Nat} {f : Addr} {F : FM} {n : Nat} (h : FnI P w K mg base j f F n) (hk : j ≤ k) : FnI P w K mg base k f F n := by
  obtain ⟨⟨fd, ps, F1, b⟩, kp⟩ := h
  exact ⟨⟨fd, ps, F1.mono hk, b⟩, kp⟩
abbrev FnX (X : Cx) (k : Nat) (f : Addr) (F : FM) (n : Nat) : Prop := FnI X.prog X.w X.K X.mg X.base k f F n
theorem Fin.wish {K : PySem.W.Frag} {α : Type} {W W' : WX} {σ σ' : L2.St} {w : Wd} {π : Id} {r : Rs α} {Q : α → Wd → Prop} (h : Fin K W σ w π r Q) (k : ∀ c dd (w' : Wd), W c dd σ w'.hp → W' c dd σ' w'.hp) : Fin K W' σ' w π r Q := by
  unfold Fin at h ⊢
  split at h
  · exact h
  · exact h
  · exact fun w' e l re o c dd x => k c dd w' (h w' e l re o c dd x)
/-! ### the body of a def -/
theorem start_env {K : PySem.W.Frag} {w : Wd} {ds : List D} {vs : List V} {N : List Str} (h : RDs K w ds vs) {n : Nat} (hn : ds.length = n) : EnvR K w (ds.map some ++ List.replicate (N.length - n) none) (L2.start N vs) := by
  have hl := h.length
  unfold L2.start
  refine ⟨by simp only [List.length_append, List.length_map, List.length_replicate]; omega, fun i d e => ?_⟩
  by_cases q : i < ds.length
  · rw [List.getElem?_append_left (by simpa using q)] at e
    rw [List.getElem?_append_left (by rw [List.length_map]; omega)]
    rw [List.getElem?_map] at e ⊢
    obtain ⟨d', e1, e2⟩ := Option.map_eq_some_iff.mp e
    cases e2
    obtain ⟨v, e3, r⟩ := h.get e1
    exact ⟨v, by rw [e3]; rfl, r⟩
  · rw [List.getElem?_append_right (by simpa using q), List.getElem?_replicate] at e
    split at e <;> cases e
/-- THE RULE for a def -/
theorem fn_def {P : Program} {w : World} {K : PySem.W.Frag} {mg : Str → Option Value} {base : Heap} {x qual : Str} {st : Stmt} {f : Addr} {fd : FuncData} {N ps : List Str} {k n : Nat} {b : SM} {dvs : List V} {kws : List (Str × V)} (hF : FunD K x qual (defArgs st) (defBody st) (defScope st) dvs kws f fd) (S : FnScope N ps (defScope st)) (hn : ps.length = n)
    (hbody : ∀ (cdv : Value) (A : Around) (outer : List PySem.Env) (s : Shared) (H : Hp) (E : XK), Room k (A.deeper (envOfC qual (defScope st) s.heap.objs.size f cdv)) → A.guards = some [] →
      SSs (cxOf (L2.CX P w) P w K mg base N qual (defScope st) f cdv A outer s H E) (fun c dd _ H => E c dd H) (defBody st) b) : FnG P w K mg base (k + 1) f fd ps (FnS K (defM n N.length b) n) := by
  refine fn_ofG hF S (fun vs H Q E h => by rw [hn]; exact h.1) fun cdv A outer s H vs Q E hr hgu h => ⟨_, hbody cdv A outer s H E hr hgu, ?_⟩
  obtain ⟨hl, w0, ds, π, e, r, rv, fr, h⟩ := h
  have hd : ds.length = n := by rw [rv.length]; exact hl
  refine ⟨w0, ds.map some ++ List.replicate (N.length - n) none, π, ⟨e, start_env rv hd, r, fr⟩, ?_⟩
  unfold defM at h
  rw [if_pos hd] at h
  show FinS K _ _ w0 π (b (ds.map some ++ List.replicate (N.length - n) none) π w0.st)
  cases q : b (ds.map some ++ List.replicate (N.length - n) none) π w0.st with
  | none => rw [q] at h; exact h.elim
  | some p =>
    obtain ⟨fl, ρ', S'⟩ := p
    rw [q] at h
    intro w' σ' e' l re o en
    cases fl with
    | nx => exact (show Fin K _ [] w0 π (okR D.non S') _ from h).okd w' e' l re o _ (by rw [rd_non])
    | rt d => exact (show Fin K _ [] w0 π (okR d S') _ from h).okd w' e' l re o
    | ex x => exact h w' e' l re o
    | bk => exact h.elim
    | ct => exact h.elim
/-! ### calls by name -/
def fnM (n : Nat) (F : FM) (fa : AM) : EM := fun ρ π S => bindR (fa ρ (0 :: π) S) fun ds S1 => if ds.length = n then F ds (1 :: π) S1 else none
section
variable {X : Cx} {W : WX} {x : Str} {p pos apos : Pos} {e o : Expr} {es : List Expr} {fa : AM} {F : FM} {k j n : Nat} {f : Addr}
/-- what a call wants, from what its meaning gives -/
theorem fns_of {K : PySem.W.Frag} {σ : L2.St} {w1 : Wd} {π : Id} {S : Store} {ds : List D} {vs : List V} {Q : VK} (hS : S = w1.st) (r1 : Rel K w1) (rvs : RDs K w1 ds vs) (fr : Fr π w1) (h : Fin K W σ w1 π (if ds.length = n then F ds π S else none) fun d w' => ∀ v, RD K w' d v → Q v w'.hp) :
    FnS K F n vs w1.hp Q (WE W σ) := by
  subst hS
  by_cases hl : ds.length = n
  · rw [if_pos hl] at h
    exact ⟨by rw [← rvs.length]; exact hl, w1, ds, π, rfl, r1, rvs, fr, h.wish fun c dd w' z => z⟩
  · rw [if_neg hl] at h
    exact h.elim
theorem te_fn {K : PySem.W.Frag} : ∀ σ H Q, TE' K W (fnM n F fa) σ H Q → tCallG (FnS K F n) W (TA' K W fa) σ H Q := by
  intro σ H Q ⟨w, ρ, π, c, h⟩
  refine ⟨w, ρ, 0 :: π, c.cf.sub, (Fin.stepL h).mono fun ds w1 l1 r1 o1 h1 vs rvs => ?_⟩
  have c1 := (c.cf.next l1 r1 o1).sub
  exact fns_of rfl r1 rvs c1.fr (h1.move (Le.refl _) (Out.refl _ _) fun _ z => z.up)
theorem se_fn (hF : FnX X k f F n) (hr : Room j X.A) (hk : k ≤ j) (hgu : X.A.guards = some []) (tk : Takes X W) (hm : X.mg x = some (.ref f)) (hg : Gl X x) (ha : SA X W (e :: es) fa) (hdb : (x == ("__debug__" : Str)) = false := by decide) (he : starEach (e :: es) X.env = (false, eval e X.env) :: starEach es X.env := by rfl)
    (hpl : (backTo pos (starEach es X.env)).any (·.1) = false := by rfl) : SE X W (.Call (.Name x p) (e :: es) [] pos) (fnM n F fa) := by
  obtain ⟨⟨fd, ps, F1, b⟩, kp⟩ := hF
  exact pe_imp (pe_callG F1 (hr.mono hk) hgu hg hm kp b tk ha hdb he hpl) te_fn
end
/-! ### defs that leave the store as it is -/
def Ends (π i : Id) : Prop := ∃ q, i = q ++ π
/- no object of the store is meant -/
mutual
def clean : D → Bool
  | .tup xs => cleans xs
  | .lst xs => cleans xs
  | .dct _ xs => cleans xs
  | .exc _ _ xs => cleans xs
  | .ref _ => false
  | _ => true
def cleans : List D → Bool
  | [] => true
  | d :: ds => clean d && cleans ds
end
/-- a new list or dict, told whole -/
def told (S : Store) : D → Option D
  | .ref i => (match S i with
    | some (.lst xs) => if cleans xs = true then some (.lst xs) else none
    | some (.dct ks xs) => if cleans xs = true then some (.dct ks xs) else none
    | _ => none)
  | d => if clean d = true then some d else none
open Classical in
noncomputable def pureF (F : FM) : FM := fun ds π S => match F ds π S with
  | some (.ok d, S') => if ∀ i, ¬ Ends π i → S' i = S i then (match told S' d with
    | some d' => if (∀ i, d = .ref i → Ends π i) then okR d' S else none
    | none => none) else none
  | some (.ex e, S') => if (∀ i, ¬ Ends π i → S' i = S i) ∧ cleans e.vs = true then some (.ex e, S) else none
  | none => none
theorem pure_st {K : PySem.W.Frag} {w w' : Wd} {π : Id} {S' : Store} (r : Rel K w) (fr : Fr π w) (e : w'.st = S') (h : ∀ i, ¬ Ends π i → S' i = w.st i) : ∀ i o, w.st i = some o → w'.st i = some o := fun i o q => by
  rw [e]
  by_cases z : Ends π i
  · obtain ⟨q', rfl⟩ := z
    obtain ⟨a, e1, _⟩ := r.ob _ _ q
    rw [fr q'] at e1
    cases e1
  · rw [h i z]; exact q
theorem fn_pure {K : PySem.W.Frag} {F : FM} {n : Nat} {vs : List V} {H : Hp} {Q : VK} {E : XK} (h : FnS K (pureF F) n vs H Q E) : FnS K F n vs H Q E := by
  obtain ⟨hl, w, ds, π, e, r, rv, fr, h⟩ := h
  refine ⟨hl, w, ds, π, e, r, rv, fr, ?_⟩
  unfold pureF at h
  cases q : F ds π w.st with
  | none => rw [q] at h; exact h.elim
  | some p =>
    obtain ⟨x, S'⟩ := p
    rw [q] at h
    cases x with
    | ok d =>
      simp only at h
      by_cases hS : ∀ i, ¬ Ends π i → S' i = w.st i
      case neg => rw [if_neg hS] at h; exact h.elim
      rw [if_pos hS] at h
      cases ht : told S' d with
      | none => rw [ht] at h; exact h.elim
      | some d' =>
        rw [ht] at h
        simp only at h
        by_cases hd : ∀ i, d = .ref i → Ends π i
        case neg => rw [if_neg hd] at h; exact h.elim
        rw [if_pos hd] at h
        intro w' e' l re o v rd
        have hs := pure_st r fr e' hS
        have ls := le_sto hs
        have rs := rel_sto re hs
        have q2 := h.okd (w'.sto w.st) rfl (l.trans ls) rs (fun i hi => o i hi) v
        refine q2 ?_
        cases d with
        | ref i =>
          obtain ⟨qi, rfl⟩ := hd i rfl
          have st0 : w.st (qi ++ π) = none := by
            cases z : w.st (qi ++ π) with
            | none => rfl
            | some ob =>
              obtain ⟨a, e1, _⟩ := r.ob _ _ z
              rw [fr qi] at e1
              cases e1
          have ht' : (match S' (qi ++ π) with
            | some (.lst xs) => if cleans xs = true then some (D.lst xs) else none
            | some (.dct ks xs) => if cleans xs = true then some (D.dct ks xs) else none
            | _ => none) = some d' := ht
          have rd0 := rd
          simp only [RD] at rd
          obtain ⟨a, ev, ha⟩ := rd
          have dead : Dead (w'.sto w.st) a := ⟨fun j ej => by
            have : j = qi ++ π := re.inj j _ a ej ha
            rw [this]; exact st0, fun z => (re.hd a z).2 _ ha⟩
          split at ht'
          · rename_i xs qx
            split at ht'
            · cases ht'
              obtain ⟨b, us, e1, eb, e3, rvs⟩ := rd0.lstOb re (by rw [e']; exact qx)
              have eab : a = b := by rw [ev] at e1; cases e1; rfl
              subst eab
              simp only [RD]
              exact ⟨a, us, ev, .inl ⟨.inl e3, dead⟩, RDs.mono re ls.toLe0 _ _ rvs⟩
            · cases ht'
          · rename_i ks xs qx
            split at ht'
            · cases ht'
              obtain ⟨b, e1, ob⟩ := re.ob (qi ++ π) _ (by rw [e']; exact qx)
              rw [ha] at e1
              cases e1
              obtain ⟨kvs, e3, e4, rvs⟩ := ob
              simp only [RD]
              exact ⟨a, kvs, ev, .inl e3, dead, e4, RDs.mono re ls.toLe0 _ _ rvs⟩
            · cases ht'
          · cases ht'
        | _ =>
          have ht' := ht
          simp only [told] at ht'
          split at ht'
          · have := Option.some.inj ht'
            subst this
            exact RD.mono re ls.toLe0 _ _ rd
          · cases ht'
    | ex x =>
      simp only at h
      by_cases hS : (∀ i, ¬ Ends π i → S' i = w.st i) ∧ cleans x.vs = true
      case neg => rw [if_neg hS] at h; exact h.elim
      rw [if_pos hS] at h
      intro w' e' l re o c dd xr
      have hs := pure_st r fr e' hS.1
      have ls := le_sto hs
      exact h (w'.sto w.st) rfl (l.trans ls) (rel_sto re hs) (fun i hi => o i hi) c dd (xr.mono re ls.toLe0)
theorem FnI.pure {P : Program} {w : World} {K : PySem.W.Frag} {mg : Str → Option Value} {base : Heap} {k : Nat} {f : Addr} {F : FM} {n : Nat} (h : FnI P w K mg base k f F n) : FnI P w K mg base k f (pureF F) n := by
  obtain ⟨⟨fd, ps, F1, b⟩, kp⟩ := h
  exact ⟨⟨fd, ps, F1.imp fun vs H Q E q => fn_pure q, b⟩, kp⟩
end MI

set_option Elab.async false
set_option linter.all false
set_option maxRecDepth 100000
set_option maxHeartbeats 4000000
/-! MI: exceptions of own classes over ValueError and LookupError, as values. -/
namespace PySem
namespace MIX
open PySem.W PySem.Calls PyProof.Rows Builtin Builtin.ObjectAttr
abbrev tailB (B : String) : List Value := [.type B, .type "Exception", .type "BaseException", .type "object"]
/-- own classes, then the base's mro -/
def refsB (B : String) : List Value → Bool
  | .ref _ :: r => refsB B r
  | l => l == tailB B
theorem refsB_cases {B : String} : ∀ l : List Value, refsB B l = true → (∃ c r, l = .ref c :: r ∧ refsB B r = true) ∨ l = tailB B
  | [], e => .inr (beq_iff_eq.mp e)
  | .ref c :: r, e => .inl ⟨c, r, rfl, e⟩
  | .none :: _, e => .inr (beq_iff_eq.mp e)
  | .ellipsis :: _, e => .inr (beq_iff_eq.mp e)
  | .notImplemented :: _, e => .inr (beq_iff_eq.mp e)
  | .bool _ :: _, e => .inr (beq_iff_eq.mp e)
  | .int _ _ :: _, e => .inr (beq_iff_eq.mp e)
  | .float _ _ :: _, e => .inr (beq_iff_eq.mp e)
  | .str _ _ :: _, e => .inr (beq_iff_eq.mp e)
  | .bytes _ _ :: _, e => .inr (beq_iff_eq.mp e)
  | .type _ :: _, e => .inr (beq_iff_eq.mp e)
  | .builtin _ :: _, e => .inr (beq_iff_eq.mp e)
/-- the two bases -/
inductive BaseE : String → String → String → Prop
  | ve : BaseE "ValueError" "ValueError.__new__" "ValueError.__init__"
  | le : BaseE "LookupError" "LookupError.__new__" "LookupError.__init__"
theorem pass_le (self : Value) : refuseLoop self "__setattr__" (tailB "LookupError") = pure () := by kernel_rfl
section
variable {B newId initId : String}
theorem BaseE.facts (b : BaseE B newId initId) : ExcBaseFacts B newId initId (tailB B) := by
  cases b
  · exact F.excBase_ValueError
  · exact F.excBase_LookupError
theorem BaseE.pass (b : BaseE B newId initId) (self : Value) : refuseLoop self "__setattr__" (tailB B) = pure () := by
  cases b
  · exact F.store_ValueError.passes self
  · exact pass_le self
theorem BaseE.obj (b : BaseE B newId initId) : (tailB B).contains (.type "object") = true := by cases b <;> decide +kernel
theorem refsB_pass (b : BaseE B newId initId) (self : Value) : ∀ l : List Value, refsB B l = true → refuseLoop self "__setattr__" l = pure () := by
  intro l
  induction l with
  | nil => intro e; cases b <;> exact absurd e (by decide)
  | cons a r ih =>
    intro e
    rcases refsB_cases (a :: r) e with ⟨c, r', q, h⟩ | q
    · obtain ⟨rfl, rfl⟩ := List.cons.inj q
      rw [refuseLoop_ref]; exact ih h
    · rw [q]; exact b.pass self
theorem refsB_contains (X : String) : ∀ l : List Value, refsB B l = true → l.contains (.type X) = (tailB B).contains (.type X) := by
  intro l
  induction l with
  | nil => intro e; exact absurd (beq_iff_eq.mp e) (by simp)
  | cons a r ih =>
    intro e
    rcases refsB_cases (a :: r) e with ⟨c, r', q, h⟩ | q
    · obtain ⟨rfl, rfl⟩ := List.cons.inj q
      rw [List.contains_cons, ih h]; rfl
    · rw [q]
theorem refsB_ne {l : List Value} (e : refsB B l = true) : l.isEmpty = false := by
  cases l with
  | nil => exact absurd (beq_iff_eq.mp e) (by simp)
  | cons _ _ => rfl
end
section
variable {B newId initId : String} {prog : Program} {w : World} {A : Around} {E : Value → Shared → Prop} {R : Result → Shared → Prop} {hp : Heap} {g : Array GenState} {d : Drawn} {t : Nat} {os : OsState}
theorem exc_osa {K : W.Frag} {name : Str} {tk : Tok} {v : Value} {x C : Addr} {fv : Array Value} {cd : ClassData} (bb : BaseE B newId initId)
    (X : K.In hp) (hx : hp.get? x = some { cls := .ref C, data := .fields fv }) (hcd : W.clsIn K C = some cd) (hm : refsB B cd.mro = true) (hh : cd.hasDict = true) (ha : W.findIn K (.ref C) name = some none)
    (hq : ∀ h' tk' dx, (∀ b o, b ≠ x → hp.get? b = some o → h'.get? b = some o) → hp.objs.size ≤ dx → dx ≠ x → h'.get? x = some { cls := .ref C, dict := some dx, data := .fields fv } →
      h'.Ns1 dx (fun y => if y = name then some v else none) → R (.ok (.ret .none)) ⟨h', g, d, tk', os⟩) :
    codeAny (model prog w) A (.call (.builtin "object.__setattr__") ⟨[.ref x, .str name tk, v], []⟩) R ⟨hp, g, d, t, os⟩ := by
  have I : W.InstAt hp x { cls := .ref C, data := .fields fv } C none := ⟨hx, rfl, rfl, trivial⟩
  have SF := F.store_object
  have ne := refsB_ne hm
  have hob : cd.mro.contains (.type "object") = true := (refsB_contains "object" _ hm).trans bb.obj
  have hxs : x ≠ hp.objs.size := Nat.ne_of_lt (Heap.lt_size hx)
  have sub : W.Looks (model prog w) hp (isInstance (.ref x) (.type "object")) true := I.type.andThen (W.looks_mroIn X (by unfold W.mroIn; rw [hcd, Option.bind_some, if_neg (by rw [ne]; decide), hob]))
  refine codeAny_call_builtin SF.slot.plain SF.entry (@W.check_slot (model prog w) _ _ ⟨hp, g, d, t, os⟩ "object.__setattr__" "object" "__setattr__" (.ref x) [.str name tk, v] [] _ SF.kind SF.split sub (SF.args (.ref x) (.str name tk) v) ?_)
  have hmr : W.Looks (model prog w) hp (mroOf (.ref C)) cd.mro := (W.looks_clsIn X hcd).andThen .now
  have L3 : W.Looks (model prog w) hp (storeTaker? none) none := .now
  have hcls : W.Looks (model prog w) hp (classData C) cd := W.looks_clsIn X hcd
  rw [W.osa_eq, refuse_eq]
  refine wpAny_bind (wpAny_bind (I.type.at (wpAny_bind (hmr.at ?_))))
  rw [refsB_pass bb _ _ hm]
  refine wpAny_pure (wpAny_bind (I.type.at (wpAny_bind ((W.looks_findIn X ha).at (wpAny_bind (L3.at ?_))))))
  show wpAny _ _ (storeInOwnDict (.ref x) (.ref C) (.str name tk) name v false) _ _ _
  obtain ⟨nm, bs, mro, ns, qn, hd, sn, sb, ab, col, del⟩ := cd
  dsimp only at hh
  subst hh
  unfold storeInOwnDict ownDictForStores
  repeat (first | with_reducible refine HandSPX.store_in_new ?_ ?_ | with_reducible refine wpAny_loadPart_at hx ?_ | with_reducible refine hcls.at ?_ | wp_step)
  · exact ⟨_, #[], _, (Heap.get?_update_ne _ _ _ _ hxs.symm).trans (Heap.get?_push_at rfl rfl), rfl, fun e he => absurd he (by simp), fun _ => rfl⟩
  · intro h' tk' hn' hs
    have hx₁ : (hp.push { cls := .type "dict", data := .dict #[] }).get? x = some { cls := .ref C, data := .fields fv } := Heap.get?_push_of_some _ hx
    refine hq h' tk' hp.objs.size (fun b o hb ho => ?_) (Nat.le_refl _) hxs.symm ?_ hn'
    · exact (hs.2 b (Nat.ne_of_lt (Heap.lt_size ho))).trans ((Heap.get?_update_ne _ _ _ _ hb).trans (Heap.get?_push_of_some _ ho))
    · exact (hs.2 x hxs).trans (Heap.get?_update_self _ hx₁ rfl)
/-- a further field of an exception that has its dict -/
theorem osa_old {K : W.Frag} {name : Str} {tk : Tok} {v : Value} {x C dx : Addr} {fv : Array Value} {cd : ClassData} {m0 : Str → Option Value} {nl : List Str} (bb : BaseE B newId initId)
    (X : K.In hp) (hx : hp.get? x = some { cls := .ref C, dict := some dx, data := .fields fv }) (hns : hp.Ns1 dx m0) (hw : Within m0 nl) (hz : nl.length ≤ 1000) (hcd : W.clsIn K C = some cd) (hm : refsB B cd.mro = true) (hh : cd.hasDict = true)
    (ha : W.findIn K (.ref C) name = some none)
    (hq : ∀ h' tk', (∀ b o, b ≠ dx → hp.get? b = some o → h'.get? b = some o) → h'.Ns1 dx (fun y => if y = name then some v else m0 y) → R (.ok (.ret .none)) ⟨h', g, d, tk', os⟩) :
    codeAny (model prog w) A (.call (.builtin "object.__setattr__") ⟨[.ref x, .str name tk, v], []⟩) R ⟨hp, g, d, t, os⟩ := by
  obtain ⟨oD, esD, epD, hoD, hdD, _⟩ := hns.count hw
  have I : W.InstAt hp x { cls := .ref C, dict := some dx, data := .fields fv } C (some oD) := ⟨hx, rfl, rfl, hoD⟩
  have SF := F.store_object
  have ne := refsB_ne hm
  have hob : cd.mro.contains (.type "object") = true := (refsB_contains "object" _ hm).trans bb.obj
  have sub : W.Looks (model prog w) hp (isInstance (.ref x) (.type "object")) true := I.type.andThen (W.looks_mroIn X (by unfold W.mroIn; rw [hcd, Option.bind_some, if_neg (by rw [ne]; decide), hob]))
  refine codeAny_call_builtin SF.slot.plain SF.entry (@W.check_slot (model prog w) _ _ ⟨hp, g, d, t, os⟩ "object.__setattr__" "object" "__setattr__" (.ref x) [.str name tk, v] [] _ SF.kind SF.split sub (SF.args (.ref x) (.str name tk) v) ?_)
  have hmr : W.Looks (model prog w) hp (mroOf (.ref C)) cd.mro := (W.looks_clsIn X hcd).andThen .now
  have L3 : W.Looks (model prog w) hp (storeTaker? none) none := .now
  have hcls : W.Looks (model prog w) hp (classData C) cd := W.looks_clsIn X hcd
  rw [W.osa_eq, refuse_eq]
  refine wpAny_bind (wpAny_bind (I.type.at (wpAny_bind (hmr.at ?_))))
  rw [refsB_pass bb _ _ hm]
  refine wpAny_pure (wpAny_bind (I.type.at (wpAny_bind ((W.looks_findIn X ha).at (wpAny_bind (L3.at ?_))))))
  show wpAny _ _ (storeInOwnDict (.ref x) (.ref C) (.str name tk) name v false) _ _ _
  obtain ⟨nm, bs, mro, ns, qn, hd, sn, sb, ab, col, del⟩ := cd
  dsimp only at hh
  subst hh
  unfold storeInOwnDict ownDictForStores
  repeat (first | with_reducible refine OEX.store_in_old hns hw hz ?_ | with_reducible refine wpAny_loadPart_at hx ?_ | with_reducible refine hcls.at ?_ | wp_step)
  intro h' tk' hn' hs
  exact hq h' tk' (fun b o hb ho => (hs.2 b hb).trans ho) hn'
end
end MIX
end PySem
namespace MI
open PySem PySem.Spec PyProof.Rows L2
open PySem.MIX (BaseE refsB tailB)
/-- what the written part says of the class -/
structure OexB (K : PySem.W.Frag) (C : Addr) (B n : String) : Prop where
  cls : ∃ nm q N bs bm sn sub ab col dd k0 k1 k2 k3 k5, K.lookup C = some (excClassObj nm q C N bs bm true sn sub ab col dd k0 k1 k2 k3 k5 n) ∧ refsB B bm = true
  sa : PySem.W.findIn K (.ref C) "__setattr__" = some (some (.builtin "object.__setattr__"))
  kC : PySem.W.keepIn K (.ref C) = true
def oexB0 (K : PySem.W.Frag) (C : Addr) (B newId : String) : Bool := match K.lookup C with
  | some ⟨.type "type", _, .cls cd, sl⟩ => (match cd.mro, sl.toList with
    | .ref C' :: bm, [_, _, _, _, some (.builtin n), _] => C' == C && n == newId && !cd.hasDel && cd.hasDict && refsB B bm
    | _, _ => false)
  | _ => false
def oexB (K : PySem.W.Frag) (C : Addr) (B newId : String) : Bool := oexB0 K C B newId && (decide (PySem.W.findIn K (.ref C) "__setattr__" = some (some (.builtin "object.__setattr__"))) && PySem.W.keepIn K (.ref C))
theorem oexB_ok {K : PySem.W.Frag} {C : Addr} {B newId : String} (h : oexB K C B newId = true) : OexB K C B newId := by
  obtain ⟨q, h⟩ := Bool.and_eq_true_iff.mp h
  obtain ⟨h2, h3⟩ := Bool.and_eq_true_iff.mp h
  refine ⟨?_, of_decide_eq_true h2, h3⟩
  unfold oexB0 at q
  split at q
  · rename_i dd cd sl ho
    split at q
    · rename_i C' bm k0 k1 k2 k3 n k5 hm hs
      simp only [Bool.and_eq_true, beq_iff_eq, Bool.not_eq_true'] at q
      obtain ⟨⟨⟨⟨rfl, rfl⟩, hdel⟩, hdc⟩, ht⟩ := q
      obtain ⟨nm, bs, mro, ns, qn, hd, sn, sub, ab, col, del⟩ := cd
      dsimp only at hm hdel hdc
      subst hm hdel hdc
      have hsl : sl = #[k0, k1, k2, k3, some (.builtin n), k5] := by
        obtain ⟨l⟩ := sl
        simp only at hs
        rw [hs]
      subst hsl
      exact ⟨nm, qn, ns, bs, bm, sn, sub, ab, col, dd, k0, k1, k2, k3, k5, ho, ht⟩
    · cases q
  · cases q
section
variable {X : Cx} {pins : List (Addr × Obj)} {σ : L2.St} {H : Hp} {s : Shared} {a C dx : Addr} {f : Str} {y : V} {u : Value} {fs : List (Str × V)} {Q : Unit → Shared → Prop} {E : Value → Shared → Prop} {A : Around} {B n i : String}
/-- self.f = y, the first one -/
theorem ost_newB (bb : BaseE B n i) (T : OexB X.K C B n) (I : Inv X pins σ H s) (e : H a = some (exo a C none)) (hno : PySem.W.findIn X.K (.ref C) f = some none) (ry : RelV y u)
    (h : ∀ dx s', H dx = none → dx ≠ a → Inv X pins σ (upd (upd H dx (exd dx [(f, y)])) a (exo a C (some dx))) s' → Q () s') : wpAny (model X.prog X.w) A (setAttr (.ref a) f u) Q E s := by
  obtain ⟨nm, q, N, bs, bm, sn, sub, ab, col, dd, k0, k1, k2, k3, k5, hC, hbm⟩ := T.cls
  have hcl : PySem.W.clsIn X.K C = some { name := nm, bases := bs, mro := .ref C :: bm, ns := N, qualname := q, hasDict := true, slotNames := sn, subclasses := sub, abstract := ab, collection := col, hasDel := false } := by unfold PySem.W.clsIn; rw [hC] <;> rfl
  obtain ⟨t1, ho⟩ := exo_at I.hok e
  obtain ⟨hp, g, d, t, os⟩ := s
  refine PySem.W.set_plain I.kIn (ox := { cls := .ref C, dict := none, data := .fields #[.ref t1, .none, .none, .none, .bool false, .none] }) (od := none) ⟨ho, rfl, rfl, trivial⟩ T.sa ?_
  refine PySem.MIX.exc_osa bb I.kIn ho hcl (show refsB B (.ref C :: bm) = true from hbm) rfl hno (fun h' tk' dx k dn dne hx hn => ?_)
  have hnd : H dx = none := I.hok.fresh dn
  have nd : ∀ {b : Addr} {o : Obj}, hp.get? b = some o → b ≠ dx := fun {b o} q => Nat.ne_of_lt (Nat.lt_of_lt_of_le (Heap.lt_size q) dn)
  have na : ∀ {b : Addr}, H b = none → b ≠ a := fun {b} n z => by
    rw [z, e] at n
    cases n
  have Un1 : Un X.fs [] H (upd (upd H dx (exd dx [(f, y)])) a (exo a C (some dx))) hp h' := {
    keep := fun b o q n _ _ => k b o (na n) q
    slot := fun b o q n _ _ => ⟨o.slots, k b o (na n) q⟩
    free := fun b o q n _ => by rw [upd_ne (na n), upd_ne (nd q)]; exact n
    there := fun b o q _ => by
      by_cases hb : b = a
      · exact ⟨_, by rw [hb]; exact hx⟩
      · exact ⟨o, k b o hb q⟩
    tups := fun b xs q => by rw [upd_ne (at_ne e q exo_tup), upd_ne (ne_of_none q hnd)]; exact q
    frzs := fun b o v q => by rw [upd_ne (at_ne e q exo_frz), upd_ne (ne_of_none q hnd)]; exact q
    tbls := fun b ps q => ⟨#[], by rw [upd_ne (at_ne e q exo_tbl), upd_ne (ne_of_none q hnd), q]; simp⟩ }
  refine h dx _ hnd dne (I.un (t' := tk') Un1 fun b o q => ?_)
  by_cases hb : b = a
  · subst hb
    rw [upd_same] at q
    cases q
    exact exo_ok hx
  · rw [upd_ne hb] at q
    by_cases hd : b = dx
    · subst hd
      rw [upd_same] at q
      cases q
      exact exd_ok hn (relO_put (fs := []) ry fun g => True.intro)
    · rw [upd_ne hd] at q
      exact (I.hok b o q).stay (fun c v hc z => k c v (by
          rcases hc with hc | hc
          · rw [hc]
            exact hb
          · exact at_ne e hc exo_own) z)
        (fun c hc => by rw [upd_ne (at_ne e hc exo_own), upd_ne (ne_of_none hc hnd)]; exact hc) (fun c xs hc => by rw [upd_ne (at_ne e hc exo_tup), upd_ne (ne_of_none hc hnd)]; exact hc)
/-- self.f = y, a further one -/
theorem ost_oldB (bb : BaseE B n i) (T : OexB X.K C B n) (I : Inv X pins σ H s) (e : H a = some (exo a C (some dx))) (ed : H dx = some (exd dx fs)) (hl : fs.length ≤ 900) (hno : PySem.W.findIn X.K (.ref C) f = some none) (ry : RelV y u)
    (h : ∀ s', Inv X pins σ (upd H dx (exd dx ((f, y) :: fs))) s' → Q () s') : wpAny (model X.prog X.w) A (setAttr (.ref a) f u) Q E s := by
  obtain ⟨nm, q, N, bs, bm, sn, sub, ab, col, dd, k0, k1, k2, k3, k5, hC, hbm⟩ := T.cls
  have hcl : PySem.W.clsIn X.K C = some { name := nm, bases := bs, mro := .ref C :: bm, ns := N, qualname := q, hasDict := true, slotNames := sn, subclasses := sub, abstract := ab, collection := col, hasDel := false } := by unfold PySem.W.clsIn; rw [hC] <;> rfl
  obtain ⟨t1, ho⟩ := exo_at I.hok e
  obtain ⟨mA, hns, rel⟩ := exd_at I.hok ed
  have hw := within_of rel
  obtain ⟨hp, g, d, t, os⟩ := s
  obtain ⟨oD, _, _, hoD, _, _⟩ := hns.count hw
  refine PySem.W.set_plain I.kIn (ox := { cls := .ref C, dict := some dx, data := .fields #[.ref t1, .none, .none, .none, .bool false, .none] }) (od := some oD) ⟨ho, rfl, rfl, hoD⟩ T.sa ?_
  refine PySem.MIX.osa_old bb I.kIn ho hns hw (by rw [List.length_map]; omega) hcl (show refsB B (.ref C :: bm) = true from hbm) rfl hno (fun h' tk' k hn => ?_)
  have hd : ∃ o, h'.get? dx = some o := by
    obtain ⟨o, _, _, e', _⟩ := hn
    exact ⟨o, e'⟩
  exact h _ (I.write (t' := tk') (x := dx) (e := dx) (o := exd dx ((f, y) :: fs)) (by rw [ed]; exact True.intro) (.inl rfl) k hd (exd_ok hn (relO_put ry rel)))
end
/-- self.f = e -/
def tOstB (C : Addr) (to te : TE) (f : Str) : TS := fun D σ H => te σ H fun y H1 => to σ H1 fun x H2 => ∃ a : Addr, x = .ref a ∧
  ((H2 a = some (exo a C none) ∧ ∀ dx, H2 dx = none → dx ≠ a → D.nx σ (upd (upd H2 dx (exd dx [(f, y)])) a (exo a C (some dx)))) ∨
    ∃ (dx : Addr) (fs : List (Str × V)), H2 a = some (exo a C (some dx)) ∧ H2 dx = some (exd dx fs) ∧ fs.length ≤ 900 ∧ D.nx σ (upd H2 dx (exd dx ((f, y) :: fs))))
theorem ps_ostB {X : Cx} {o e : Expr} {to te : TE} {f : Str} {p' pos : Pos} {B n i : String} {C : Addr} (bb : BaseE B n i) (T : OexB X.K C B n) (hno : PySem.W.findIn X.K (.ref C) f = some none) (ho : PE X o to) (he : PE X e te) (hs : swapsWith e (some (.Attribute o f p')) pos.line X.env = pure false := by rfl) : PS X (.Assign [.Attribute o f p'] e pos) (tOstB C to te f) := by
  refine ⟨fun pins s σ H D I h => ?_⟩
  refine plainObj_wpAny_Assign_Attribute (thn (he.run pins s σ H _ I h) fun v s1 ⟨y, H1, I1, r1, q1⟩ => thn (ho.run pins s1 σ H1 _ I1 q1) fun u s2 ⟨x, H2, I2, r2, a, ex, q⟩ => ?_) hs
  subst ex
  obtain rfl : u = Value.ref a := r2
  rcases q with ⟨ea, q⟩ | ⟨dx, fs, ea, ed, hl, q⟩
  · exact ost_newB bb T I2 ea hno r1 fun dx s' n ne J => ⟨σ, _, J, q dx n ne⟩
  · exact ost_oldB bb T I2 ea ed hl hno r1 fun s' J => ⟨σ, _, J, q⟩
/-- what __init__ does: the fields in turn -/
def initSp (C : Addr) (ns : List Str) : Sp := fun vs H Q E => ∃ a ys, vs = .ref a :: ys ∧ ys.length = ns.length ∧ H a = some (exo a C none) ∧ ∀ d, H d = none → d ≠ a → Q .non (upd (upd H d (exd d (ns.zip ys.reverse))) a (exo a C (some d)))
section
variable {P : Program} {w : World} {K : PySem.W.Frag} {mg : Str → Option Value} {base : Heap} {x qual f1 f2 p1 p2 : Str} {st : Stmt} {f C : Addr} {fd : FuncData} {B n i : String} {a1 a2 a3 a4 a5 a6 a7 a8 : Pos} {b1 b2 : Pos}
theorem fn_init1 (bb : BaseE B n i) (T : OexB K C B n) (h1 : PySem.W.findIn K (.ref C) f1 = some none) (hF : FunD K x qual (defArgs st) (defBody st) (defScope st) [] [] f fd) (S : FnScope ["self", p1] ["self", p1] (defScope st))
    (hb : defBody st = [.Assign [.Attribute (.Name "self" a1) f1 a2] (.Name p1 a3) b1]) (v1 : (defScope st).names.lookup ("self" : Str) = some .local) (v2 : (defScope st).names.lookup p1 = some .local) (d1 : (p1 == ("__debug__" : Str)) = false := by decide) (d2 : (p1 == ("__classdict__" : Str)) = false := by decide) : FnG P w K mg base 1 f fd ["self", p1] (initSp C [f1]) := by
  refine fn_ofG hF S (fun vs H Q E h => ?_) fun cdv A outer s H vs Q E hr hgu h => ?_
  · obtain ⟨a, ys, e, hl, _⟩ := h
    subst e
    simp only [List.length_cons, List.length_nil] at hl ⊢
    omega
  · obtain ⟨a, ys, e, hl, ea, h⟩ := h
    match ys, hl with
    | [y], _ =>
    subst e
    rw [hb]
    refine ⟨_, pss_one (ps_ostB bb T h1 (pe_var (i := 0) rfl (.inl v1)) (pe_var (i := 1) rfl (.inl v2) d1 d2)), ?_⟩
    exact ⟨y, rfl, .ref a, rfl, a, rfl, .inl ⟨ea, fun dx n ne => h dx n ne⟩⟩
theorem fn_init2 (bb : BaseE B n i) (T : OexB K C B n) (h1 : PySem.W.findIn K (.ref C) f1 = some none) (h2 : PySem.W.findIn K (.ref C) f2 = some none) (hF : FunD K x qual (defArgs st) (defBody st) (defScope st) [] [] f fd) (S : FnScope ["self", p1, p2] ["self", p1, p2] (defScope st))
    (hb : defBody st = [.Assign [.Attribute (.Name "self" a1) f1 a2] (.Name p1 a3) b1, .Assign [.Attribute (.Name "self" a4) f2 a5] (.Name p2 a6) b2]) (v1 : (defScope st).names.lookup ("self" : Str) = some .local) (v2 : (defScope st).names.lookup p1 = some .local) (v3 : (defScope st).names.lookup p2 = some .local)
    (d1 : (p1 == ("__debug__" : Str)) = false := by decide) (d2 : (p1 == ("__classdict__" : Str)) = false := by decide) (d3 : (p2 == ("__debug__" : Str)) = false := by decide) (d4 : (p2 == ("__classdict__" : Str)) = false := by decide) : FnG P w K mg base 1 f fd ["self", p1, p2] (initSp C [f2, f1]) := by
  refine fn_ofG hF S (fun vs H Q E h => ?_) fun cdv A outer s H vs Q E hr hgu h => ?_
  · obtain ⟨a, ys, e, hl, _⟩ := h
    subst e
    simp only [List.length_cons, List.length_nil] at hl ⊢
    omega
  · obtain ⟨a, ys, e, hl, ea, h⟩ := h
    match ys, hl with
    | [y, z], _ =>
    subst e
    rw [hb]
    refine ⟨_, pss_cons (ps_ostB bb T h1 (pe_var (i := 0) rfl (.inl v1)) (pe_var (i := 1) rfl (.inl v2) d1 d2)) (pss_one (ps_ostB bb T h2 (pe_var (i := 0) rfl (.inl v1)) (pe_var (i := 2) rfl (.inl v3) d3 d4))), ?_⟩
    refine ⟨y, rfl, .ref a, rfl, a, rfl, .inl ⟨ea, fun dx n ne => ?_⟩⟩
    refine ⟨z, rfl, .ref a, rfl, a, rfl, .inr ⟨dx, [(f1, y)], upd_same, (upd_ne ne).trans upd_same, by simp, ?_⟩⟩
    have q := h dx n ne
    have e : upd (upd (upd H dx (exd dx [(f1, y)])) a (exo a C (some dx))) dx (exd dx [(f2, z), (f1, y)]) = upd (upd H dx (exd dx ([f2, f1].zip [y, z].reverse))) a (exo a C (some dx)) := by
      funext b
      by_cases e1 : b = dx
      · rw [e1, upd_same, upd_ne ne, upd_same]; rfl
      · rw [upd_ne e1]
        by_cases e2 : b = a
        · rw [e2, upd_same, upd_same]
        · rw [upd_ne e2, upd_ne e2, upd_ne e1, upd_ne e1]
    show Q .non _
    rw [e]
    exact q
end
/-! ### new ones -/
def excM (c : Str) (ns : List Str) (fa : AM) : EM := fun ρ π S => bindR (fa ρ π S) fun ds S1 => if ds.length = ns.length then okR (.exc c ns ds.reverse) S1 else none
theorem RDs.snoc {K : PySem.W.Frag} {w : Wd} {ds : List D} {vs : List V} {d : D} {v : V} (h : RDs K w ds vs) (k : RD K w d v) : RDs K w (ds ++ [d]) (vs ++ [v]) := h.append (.cons k .nil)
theorem RDs.reverse {K : PySem.W.Frag} {w : Wd} : ∀ {ds : List D} {vs : List V}, RDs K w ds vs → RDs K w ds.reverse vs.reverse
  | [], vs, h => by rw [h.of_nil]; exact .nil
  | d :: ds, vs, h => by
    obtain ⟨v, r, e, h1, h2⟩ := RDs.of_cons h
    subst e
    rw [List.reverse_cons, List.reverse_cons]
    exact (RDs.reverse h2).snoc h1
section
variable {X : Cx} {W : WX} {x : Str} {p pos : Pos} {e : Expr} {es : List Expr} {fa : AM} {k j : Nat} {fI : Addr} {ns ps : List Str} {fd : FuncData} {B n i : String} {ta : TA} {C : Addr}
/-- what a class whose __init__ stores its fields must have -/
structure ExI (P : Program) (w : World) (K : PySem.W.Frag) (mg : Str → Option Value) (base : Heap) (C : Addr) (ns : List Str) : Prop where
  ex : ∃ B n i fI fd ps, BaseE B n i ∧ OexB K C B n ∧ PySem.W.findIn K (.ref C) "__init__" = some (some (.ref fI)) ∧ PySem.W.typeIn K (.ref fI) = some (.type "function") ∧ FnG P w K mg base 1 fI fd ps (initSp C ns) ∧ Binds K fd ps []
theorem pe_newX (T : ExI X.prog X.w X.K X.mg X.base C ns) (hr : Room 2 X.A) (hgu : X.A.guards = some []) (hg : Gl X x) (hm : X.mg x = some (.ref C)) (ha : PA X (e :: es) ta) (hz : ns.length ≤ 1000)
    (hdb : (x == ("__debug__" : Str)) = false := by decide) (he : starEach (e :: es) X.env = (false, eval e X.env) :: starEach es X.env := by rfl) (hpl : (backTo pos (starEach es X.env)).any (·.1) = false := by rfl) :
    PE X (.Call (.Name x p) (e :: es) [] pos) (fun σ H Q => ta σ H fun vs H1 => vs.length = ns.length ∧ ∀ a d, H1 a = none → H1 d = none → d ≠ a → Q (.ref a) (upd (upd H1 d (exd d (ns.zip vs.reverse))) a (exo a C (some d)))) := by
  obtain ⟨B, n, i, fI, fd, ps, bb, T, iC, tI, F1, hb⟩ := T.ex
  refine ⟨fun pins s σ H Q I h => ?_⟩
  obtain ⟨nm, q, N, bs, bm, sn, sub, ab, col, dd, k0, k1, k2, k3, k5, hC, hbm⟩ := T.cls
  refine wpAny_Call_Name_kw (ld_glob I hg hm ?_ hdb)
  refine PySem.W.callWith_K (h₀ := X.base) I.ok.mod.kin T.kC (thn (ha.run pos pins s σ H _ I h) fun us s1 ⟨vs, H1, I1, r1, hl1, q1⟩ => ⟨I1.kIn, ?_⟩) he hpl
  show wpAny _ _ (call (.ref C) us) _ _ _
  obtain ⟨hp, g, dr, tk, os⟩ := s1
  have hsz : hp.objs.size ≤ hp.objs.size + 1 := Nat.le_succ _
  have hn : H1 (hp.objs.size + 1) = none := I1.hok.fresh hsz
  have kk : ∀ b o, hp.get? b = some o → ((hp.push (PySem.W.kdv_tup us)).push (PySem.HandSPX.excO C hp.objs.size)).get? b = some o := fun b o e => Heap.get?_push_of_some _ (Heap.get?_push_of_some _ e)
  have hget : ((hp.push (PySem.W.kdv_tup us)).push (PySem.HandSPX.excO C hp.objs.size)).get? (hp.objs.size + 1) = some (PySem.HandSPX.excO C hp.objs.size) := by heap_get
  have I2 : Inv X pins σ (upd H1 (hp.objs.size + 1) (exo (hp.objs.size + 1) C none)) ⟨(hp.push (PySem.W.kdv_tup us)).push (PySem.HandSPX.excO C hp.objs.size), g, dr, tk, os⟩ :=
    I1.laid (t' := tk) (a := hp.objs.size + 1) (o := exo (hp.objs.size + 1) C none) (h' := (hp.push (PySem.W.kdv_tup us)).push (PySem.HandSPX.excO C hp.objs.size)) kk hsz (exo_ok hget)
  have r2 : Vals (V.ref (hp.objs.size + 1) :: vs) (Value.ref (hp.objs.size + 1) :: us) := .cons rfl r1
  have hus : us.length ≤ sizeLine := by
    rw [← Paired.length r1, sizeLine_eq]
    omega
  have hq : initSp C ns (V.ref (hp.objs.size + 1) :: vs) (upd H1 (hp.objs.size + 1) (exo (hp.objs.size + 1) C none)) (fun v H' => v = .non ∧ Q (.ref (hp.objs.size + 1)) H') (fun _ _ _ => False) := by
    refine ⟨_, vs, rfl, hl1, upd_same, fun d hd dne => ⟨rfl, ?_⟩⟩
    rw [upd_ne dne] at hd
    have z := q1 _ d hn hd dne
    have e : upd (upd (upd H1 (hp.objs.size + 1) (exo (hp.objs.size + 1) C none)) d (exd d (ns.zip vs.reverse))) (hp.objs.size + 1) (exo (hp.objs.size + 1) C (some d)) = upd (upd H1 d (exd d (ns.zip vs.reverse))) (hp.objs.size + 1) (exo (hp.objs.size + 1) C (some d)) := by
      funext b
      by_cases e1 : b = hp.objs.size + 1
      · rw [e1, upd_same, upd_same]
      · rw [upd_ne e1, upd_ne e1]
        by_cases e2 : b = d
        · rw [e2, upd_same, upd_same]
        · rw [upd_ne e2, upd_ne e2, upd_ne e1]
    rw [e]
    exact z
  have hl : (Value.ref (hp.objs.size + 1) :: us ++ []).length = ps.length := by
    have e := r2.length
    rw [F1.len _ _ _ _ hq] at e
    rw [List.append_nil]
    exact e.symm
  have hbt := hb ⟨(hp.push (PySem.W.kdv_tup us)).push (PySem.HandSPX.excO C hp.objs.size), g, dr, tk, os⟩ (Value.ref (hp.objs.size + 1) :: us) I2.kIn hl
  rw [List.append_nil] at hbt
  refine wpAny_call (PySem.HandSPX.call_own bb.facts (fun Y => PySem.MIX.refsB_contains Y bm hbm) (I1.kIn _ _ hC) (PySem.W.looks_findIn I1.kIn iC) (fun self => PySem.W.bind_fn I1.kIn self tI) hus
    (codeAny_mono (F1.run _ X.stack _ _ ⟨Value.ref (hp.objs.size + 1) :: us, []⟩ (Value.ref (hp.objs.size + 1) :: us) _ _ (fun _ _ _ => False) (hr.make C us []) hgu (I2.env0.make C us []) hbt r2 hq) fun r s' hq' => ?_))
  cases r with
  | error er => obtain ⟨_, _, _, _, _, _, _, _, _, _, _, _, z⟩ := hq'; exact z.elim
  | ok fl =>
    cases fl with
    | ret u =>
      obtain ⟨v, H2, J, rv, ev, q2⟩ := I2.after hq'
      subst ev
      exact ⟨rv, .ref (hp.objs.size + 1), H2, J, rfl, q2⟩
    | next => exact False.elim hq'
    | brk => exact False.elim hq'
    | cont => exact False.elim hq'
theorem te_newX {K : PySem.W.Frag} : ∀ σ H Q, TE' K W (excM x ns fa) σ H Q → TA' K W fa σ H fun vs H1 => vs.length = ns.length ∧ ∀ a d, H1 a = none → H1 d = none → d ≠ a → Q (.ref a) (upd (upd H1 d (exd d (ns.zip vs.reverse))) a (exo a (He.ga K x) (some d))) := by
  intro σ H Q ⟨w, ρ, π, c, h⟩
  refine ⟨w, ρ, π, c, (Fin.stepS h).mono fun ds w1 l1 r1 o1 h1 vs rvs => ?_⟩
  by_cases hl : ds.length = ns.length
  case neg => rw [if_neg hl] at h1; exact h1.elim
  rw [if_pos hl] at h1
  have hlv : vs.length = ns.length := by rw [← rvs.length]; exact hl
  refine ⟨hlv, fun a d ha hd ne => ?_⟩
  have h1' : (w1.lay d (exd d (ns.zip vs.reverse))).hp a = none := (upd_ne (Ne.symm ne)).trans ha
  have r2 := rel_lay (o := exd d (ns.zip vs.reverse)) r1 hd
  have l2 := le_lay (o := exd d (ns.zip vs.reverse)) r1 hd
  have r3 := rel_lay (o := exo a (He.ga K x) (some d)) r2 h1'
  have l3 := le_lay (o := exo a (He.ga K x) (some d)) r2 h1'
  refine h1.okd ((w1.lay d (exd d (ns.zip vs.reverse))).lay a (exo a (He.ga K x) (some d))) rfl (l2.trans l3) r3 (Out.same rfl) (.ref a) ?_
  simp only [RD]
  have lz : ns.length = vs.reverse.length := by rw [List.length_reverse]; exact hlv.symm
  refine ⟨a, rfl, .inr ⟨d, ns.zip vs.reverse, upd_same, (upd_ne ne).trans upd_same, ?_, ?_⟩⟩
  · rw [List.map_fst_zip]; omega
  · rw [List.map_snd_zip]
    · exact RDs.mono r1 (l2.trans l3).toLe0 _ _ rvs.reverse
    · omega
/-- C(e, ..) -/
theorem se_newX (T : ExI X.prog X.w X.K X.mg X.base (He.ga X.K x) ns) (hr : Room j X.A) (hj : 2 ≤ j) (hgu : X.A.guards = some []) (hg : Gl X x) (hm : X.mg x = some (.ref (He.ga X.K x))) (ha : SA X W (e :: es) fa) (hz : ns.length ≤ 1000 := by decide)
    (hdb : (x == ("__debug__" : Str)) = false := by decide) (he : starEach (e :: es) X.env = (false, eval e X.env) :: starEach es X.env := by rfl) (hpl : (backTo pos (starEach es X.env)).any (·.1) = false := by rfl) :
    SE X W (.Call (.Name x p) (e :: es) [] pos) (excM x ns fa) := pe_imp (pe_newX T (hr.mono hj) hgu hg hm ha hz hdb he hpl) te_newX
/-- C(), no __init__ of its own -/
theorem se_newX0 (bb : BaseE B n i) (q : PySem.W.excIn X.K (He.ga X.K x) (tailB B) n = true) (kC : PySem.W.keepIn X.K (.ref (He.ga X.K x)) = true) (hg : Gl X x) (hm : X.mg x = some (.ref (He.ga X.K x))) (hdb : (x == ("__debug__" : Str)) = false := by decide) :
    SE X W (.Call (.Name x p) [] [] pos) (litM (.exc x [] [])) := by
  refine ⟨fun pins s σ H Q I h => ?_⟩
  refine wpAny_Call_Name_kw (ld_glob I hg hm ?_ hdb)
  refine PySem.W.callWith_K0 I.kIn kC ?_
  show wpAny _ _ (call (.ref (He.ga X.K x)) []) _ _ _
  obtain ⟨bm, N, nm, qn, bs, hdct, sn, sub, ab, col, dd, k0, k1, k2, k3, k5, mN, hC, hN, hni, T⟩ := exc_obj I.kIn q
  refine wpAny_call_exc_subT bb.facts T hC hN hni (fun h' a hm => ?_) (by show 0 ≤ sizeLine; omega)
  have hn : H a = none := I.hok.gone hm.new
  obtain ⟨t, ht, _, _⟩ := hm.there
  obtain ⟨w, ρ, π, c, h⟩ := h
  refine ⟨.ref a, upd H a (exo a (He.ga X.K x) none), I.laidN hm.keeps hm.new hn (exo_ok ht), rfl, ?_⟩
  obtain ⟨e, _, r, _⟩ := c
  subst e
  have r2 := rel_lay (o := exo a (He.ga X.K x) none) r hn
  have l2 := le_lay (o := exo a (He.ga X.K x) none) r hn
  refine h (w.lay a (exo a (He.ga X.K x) none)) rfl l2 r2 (Out.same rfl) (.ref a) ?_
  simp only [RD]
  exact ⟨a, rfl, .inl ⟨trivial, trivial, upd_same⟩⟩
end
end MI

set_option Elab.async false
set_option linter.all false
set_option maxRecDepth 100000
set_option maxHeartbeats 4000000
/-! MI: fields of exceptions, their classes. -/
namespace MI
open PySem PySem.Spec PyProof.Rows L2
def atxB (K : PySem.W.Frag) (C : Addr) (f : Str) : Bool := xfB K C && decide (PySem.W.findIn K (.ref C) f = some none)
theorem atxB_ok {K : PySem.W.Frag} {C : Addr} {f : Str} (h : atxB K C f = true) : XfC K C ∧ PySem.W.findIn K (.ref C) f = some none := by
  obtain ⟨h1, h2⟩ := Bool.and_eq_true_iff.mp h
  exact ⟨xfB_ok h1, of_decide_eq_true h2⟩
/-- a field of an exception's value -/
def excAt (cs : List Str) (f : Str) : D → Option D
  | .exc c ns vs => if c ∈ cs then (ns.zip vs).lookup f else none
  | _ => none
def xfM (cs : List Str) (f : Str) (fe : EM) : EM := fun ρ π S => bindR (fe ρ π S) fun d S1 => liftR (excAt cs f d) S1
theorem lookup_fs {K : PySem.W.Frag} {w : Wd} {f : Str} : ∀ {ds : List D} {fs : List (Str × V)} {d : D}, RDs K w ds (fs.map (·.2)) → ((fs.map (·.1)).zip ds).lookup f = some d → ∃ v, fs.lookup f = some v ∧ RD K w d v
  | [], fs, d, h, e => by rw [List.zip_nil_right] at e; cases e
  | x :: ds, [], d, h, e => by rw [List.map_nil, List.zip_nil_left] at e; cases e
  | x :: ds, (g, y) :: fs, d, h, e => by
    obtain ⟨v, r, e1, h1, h2⟩ := RDs.of_cons h
    cases e1
    rw [List.map_cons, List.zip_cons_cons, List.lookup_cons] at e
    rw [List.lookup_cons]
    split at e
    · rename_i q
      cases e
      rw [q]
      exact ⟨y, rfl, h1⟩
    · rename_i q
      rw [q]
      exact lookup_fs h2 e
section
variable {X : Cx} {W : WX} {e : Expr} {te : TE} {fe : EM} {pos : Pos} {f : Str} {cs : List Str}
theorem pe_xfV (he : PE X e te) (hb : attributeBase e f X.env (eval e X.env) = eval e X.env := by rfl) :
    PE X (.Attribute e f pos) (fun σ H Q => te σ H fun x H1 => ∃ (a C d : Addr) (fs : List (Str × V)) (v : V), x = .ref a ∧ XfC X.K C ∧ PySem.W.findIn X.K (.ref C) f = some none ∧ H1 a = some (exo a C (some d)) ∧ H1 d = some (exd d fs) ∧ fs.lookup f = some v ∧ Q v H1) := by
  refine ⟨fun pins s σ H Q I h => ?_⟩
  refine attr_of hb (thn (he.run pins s σ H _ I h) fun u s1 hh => ?_)
  obtain ⟨x, H1, I1, rx, a, C, d, fs, v, ex, T, hno, ea, ed, l, q⟩ := hh
  subst ex
  obtain rfl : u = Value.ref a := rx
  obtain ⟨t1, ho⟩ := exo_at I1.hok ea
  obtain ⟨mA, hns, hr⟩ := exd_at I1.hok ed
  obtain ⟨od, hod, hl⟩ := lookIn_ns hns
  obtain ⟨u, hu, ru⟩ := RelO.some_of (v := v) (o := mA f) (by rw [← l]; exact hr f)
  have J : PySem.W.InstAt s1.heap a { cls := .ref C, dict := some d, data := .fields #[.ref t1, .none, .none, .none, .bool false, .none] } C (some od) := ⟨ho, rfl, rfl, hod⟩
  exact HandSPX.exc_get I1.kIn J T.ga T.gg T.exC (PySem.W.findObj_own T.hdC hno rfl (by rw [hl, hu])) (handed_of ru) ⟨v, H1, I1.tok _, ru, q⟩
theorem se_xf (hc : ∀ c ∈ cs, atxB X.K (He.ga X.K c) f = true) (he : SE X W e fe) (hb : attributeBase e f X.env (eval e X.env) = eval e X.env := by rfl) : SE X W (.Attribute e f pos) (xfM cs f fe) := by
  refine pe_imp (pe_xfV he hb) ?_
  intro σ H Q ⟨w, ρ, π, c, h⟩
  refine ⟨w, ρ, π, c, (Fin.stepS h).mono fun d w1 l1 r1 o1 h1 v rv => ?_⟩
  obtain ⟨r, eg, h2⟩ := Fin.lift h1
  cases d with
  | exc k ns vs =>
    have eg' : (if k ∈ cs then (ns.zip vs).lookup f else none) = some r := eg
    by_cases hk : k ∈ cs
    case neg => rw [if_neg hk] at eg'; cases eg'
    rw [if_pos hk] at eg'
    obtain ⟨T, hno⟩ := atxB_ok (hc k hk)
    simp only [RD] at rv
    obtain ⟨a, ev, q | ⟨d, fs, ea, ed, en, rvs⟩⟩ := rv
    · rw [q.1] at eg'
      cases eg'
    · subst en
      obtain ⟨v', l, rv'⟩ := lookup_fs rvs eg'
      exact ⟨a, _, d, fs, v', ev, T, hno, ea, ed, l, h2 w1 rfl (Le.refl _) r1 (Out.refl _ _) v' rv'⟩
  | _ => cases eg
end
/-! ### isinstance -/
def excCb (K : PySem.W.Frag) (D : Addr) : Bool := decide (PySem.W.findIn K (.ref D) "__getattribute__" = some (some (.builtin "BaseException.__getattribute__"))) && (decide (PySem.W.findIn K (.ref D) "__getattr__" = some none) && (decide (PySem.W.subIn K (.ref D) (.type "BaseException") = some true) && ((PySem.W.clsIn K D).isSome &&
  (decide (PySem.W.findIn K (.ref D) "__class__" = some (some (.builtin "object.__class__"))) && (decide (PySem.W.specialIn K (.builtin "object.__class__") "__get__" = some (some (.builtin "getset_descriptor.__get__"))) && (decide (PySem.W.takesIn K (.builtin "object.__class__") = some true) && decide (PySem.W.mroIn K D (.type "object") = some true)))))))
theorem kitx_ok {K : PySem.W.Frag} {D x : Addr} {ox : Obj} {od : Option Obj} (h : excCb K D = true) : PySem.W.KitX K (.ref x) (.ref D) (fun h => PySem.W.InstAt h x ox D od) := by
  simp only [excCb, Bool.and_eq_true, decide_eq_true_eq] at h
  obtain ⟨h1, h2, h3, h4, h5, h6, h7, h8⟩ := h
  exact PySem.W.kitx_exc h4 h1 h2 h3 h5 h6 h7 h8
def cvOf (K : PySem.W.Frag) : D → Option Value
  | .cls n => some (.ref (He.ga K n))
  | .ty n => some (.type n)
  | _ => none
/-- what isinstance says of exceptions of the class c -/
structure IsT (K : PySem.W.Frag) (sub : Str → D → Option Bool) : Prop where
  ok : ∀ c x b, sub c x = some b → excCb K (He.ga K c) = true ∧ ∃ cv, cvOf K x = some cv ∧ PySem.W.kitOne K (.ref (He.ga K c)) cv = some b
def subT (tab : List (Str × List Str × List String)) (us : List Str) (ts : List String) (c : Str) (x : D) : Option Bool := match tab.lookup c with
  | none => none
  | some p => (match x with
    | .cls n => if n ∈ us then some (p.1.contains n) else none
    | .ty n => if n ∈ ts then some (p.2.contains n) else none
    | _ => none)
def isTab (K : PySem.W.Frag) (tab : List (Str × List Str × List String)) (us : List Str) (ts : List String) : Bool := tab.all fun p => excCb K (He.ga K p.1) && (us.all (fun n => PySem.W.kitOne K (.ref (He.ga K p.1)) (.ref (He.ga K n)) == some (p.2.1.contains n)) && ts.all (fun n => PySem.W.kitOne K (.ref (He.ga K p.1)) (.type n) == some (p.2.2.contains n)))
theorem isTab_ok {K : PySem.W.Frag} {tab : List (Str × List Str × List String)} {us : List Str} {ts : List String} (h : isTab K tab us ts = true) : IsT K (subT tab us ts) := by
  refine ⟨fun c x b e => ?_⟩
  unfold subT at e
  cases q : tab.lookup c with
  | none => rw [q] at e; cases e
  | some p =>
    rw [q] at e
    have hm : (c, p) ∈ tab := by
      clear h e
      induction tab with
      | nil => cases q
      | cons y r ih =>
        obtain ⟨g, z⟩ := y
        rw [List.lookup_cons] at q
        split at q
        · rename_i hb
          cases q
          rw [beq_iff_eq.mp hb]
          exact List.mem_cons_self
        · exact List.mem_cons_of_mem _ (ih q)
    have z := List.all_eq_true.mp h _ hm
    simp only [Bool.and_eq_true] at z
    obtain ⟨z1, z2, z3⟩ := z
    refine ⟨z1, ?_⟩
    cases x with
    | cls n =>
      simp only at e
      split at e
      · rename_i hn
        cases e
        exact ⟨_, rfl, beq_iff_eq.mp (List.all_eq_true.mp z2 n hn)⟩
      · cases e
    | ty n =>
      simp only at e
      split at e
      · rename_i hn
        cases e
        exact ⟨_, rfl, beq_iff_eq.mp (List.all_eq_true.mp z3 n hn)⟩
      · cases e
    | _ => cases e
def isxD (sub : Str → D → Option Bool) (_ : Store) : List D → Option D
  | [.exc c _ _, x] => (sub c x).map .bl
  | _ => none
theorem call_isxD {X : Cx} {sub : Str → D → Option Bool} (T : IsT X.K sub) : CallD X (.builtin "isinstance") (isxD sub) := by
  intro pins s σ H xs us Q I rv h
  obtain ⟨w, ds, d, e, r, rvs, eg, k⟩ := h
  subst e
  match ds, eg with
  | [.exc c ns vs, x], eg =>
    obtain ⟨b, e1, e2⟩ := Option.map_eq_some_iff.mp (show (sub c x).map D.bl = some d from eg)
    subst e2
    obtain ⟨hC, cv, ec, hk⟩ := T.ok c x b e1
    obtain ⟨v, v', e4, rv1, rv2⟩ := rvs.two_of
    subst e4
    obtain ⟨u1, u2, rfl, r1, r2⟩ := vals2 rv
    have eu : u2 = cv := by
      cases x with
      | cls n => rw [rd_cls] at rv2; subst rv2; cases ec; exact r2
      | ty n => rw [rd_ty] at rv2; subst rv2; cases ec; exact r2
      | _ => cases ec
    subst eu
    simp only [RD] at rv1
    obtain ⟨a, ev, q⟩ := rv1
    subst ev
    obtain rfl : u1 = Value.ref a := r1
    have fin : ∀ tk, EP X pins σ Q (Value.bool b) { s with toks := tk } := fun tk => ⟨.bl b, w.hp, I.tok tk, rfl, k w rfl rfl (Le.refl _) r _ (by rw [rd_bl])⟩
    rcases q with ⟨_, _, ea⟩ | ⟨d, fs, ea, ed, _, _⟩
    · obtain ⟨t1, ho⟩ := exo_at I.hok ea
      have J : PySem.W.InstAt s.heap a { cls := .ref (He.ga X.K c), dict := none, data := .fields #[.ref t1, .none, .none, .none, .bool false, .none] } (He.ga X.K c) none := ⟨ho, rfl, rfl, trivial⟩
      exact PySem.W.kia_one (kitx_ok hC) I.kIn J hk (fun z => nomatch z) fin
    · obtain ⟨t1, ho⟩ := exo_at I.hok ea
      obtain ⟨mA, hns, hr⟩ := exd_at I.hok ed
      obtain ⟨od, hod, _⟩ := lookIn_ns hns
      have J : PySem.W.InstAt s.heap a { cls := .ref (He.ga X.K c), dict := some d, data := .fields #[.ref t1, .none, .none, .none, .bool false, .none] } (He.ga X.K c) (some od) := ⟨ho, rfl, rfl, hod⟩
      exact PySem.W.kia_one (kitx_ok hC) I.kIn J hk (fun z => nomatch z) fin
end MI

set_option Elab.async false
set_option linter.all false
set_option maxRecDepth 100000
set_option maxHeartbeats 4000000
/-! MI: repr. -/
namespace MI
open PySem PySem.Spec PyProof.Rows L2
def keyP : Key → PyData
  | .inl i => .int i
  | .inr x => .str x
def scP : D → Option PyData
  | .non => some .none
  | .bl b => some (.bool b)
  | .int i => some (.int i)
  | .str x => some (.str x)
  | _ => none
def scPs : List D → Option (List PyData)
  | [] => some []
  | d :: ds => match scP d, scPs ds with
    | some p, some ps => some (p :: ps)
    | _, _ => none
/-- what repr shows: data without dicts, or a dict of plain values -/
def shP (S : Store) : D → Option PyData
  | .dct ks vs => if ks.length = vs.length then (scPs vs).map fun ps => .dict ((ks.map keyP).zip ps) else none
  | d => (match toP S 8 d with
    | some p => if p.hasDict = true then none else some p
    | none => none)
def reprD (S : Store) : List D → Option D
  | [d] => (match shP S d with
    | some p => if p.showable = true ∧ p.depth ≤ 60 ∧ p.shown.length ≤ sizeLine then some (.str p.shown) else none
    | none => none)
  | _ => none
section
variable {X : Cx} {pins : List (Addr × Obj)} {σ : L2.St} {H : Hp} {s : Shared}
theorem sc_reads {K : PySem.W.Frag} {w : Wd} {h : Heap} {d : D} {v : V} {u : Value} {p : PyData} (rd : RD K w d v) (r : RelV v u) (e : scP d = some p) : Reads h u p [] := by
  cases d with
  | non => rw [rd_non] at rd; subst rd; cases e; cases r; exact .none
  | bl b => rw [rd_bl] at rd; subst rd; cases e; cases r; exact .bool b
  | int i => rw [rd_int] at rd; subst rd; cases e; obtain ⟨t, rfl⟩ := r; exact .int i t
  | str x => rw [rd_str] at rd; subst rd; cases e; obtain ⟨t, rfl⟩ := r; exact .str x t
  | _ => cases e
theorem key_reads {P : Program} {w : World} {h : Heap} {k : Key} {v : Value} (e : (mixKind P w).is k v = true) : Reads h v (keyP k) [] := by
  rcases keyIs_shape (k := k) (v := v) e with ⟨i, t, rfl, rfl⟩ | ⟨x, t, rfl, rfl⟩
  · exact .int i t
  · exact .str x t
theorem dct_reads {P : Program} {w : World} {K : PySem.W.Frag} {wd : Wd} {h : Heap} : ∀ {ks : List Key} {ds : List D} {ps : List PyData} {kvs : List (Key × V)} {vs : List (Key × Value)} {es : List DictEntry}, kvs.map (·.1) = ks → RDs K wd ds (kvs.map (·.2)) → scPs ds = some ps → KV kvs vs → Pairs (mixKind P w) es vs →
    ReadsAll h (es.map (·.key)) (((ks.map keyP).zip ps).map (·.1)) [] ∧ ReadsAll h (es.map (·.val)) (((ks.map keyP).zip ps).map (·.2)) []
  | _, ds, ps, [], vs, es, e, rd, ep, kv, pr => by
    subst e
    cases kv
    cases pr
    have e2 : ds = [] := by
      cases ds with
      | nil => rfl
      | cons d r => obtain ⟨_, _, z, _⟩ := RDs.of_cons rd; cases z
    subst e2
    exact ⟨.nil, .nil⟩
  | _, ds, ps, (k, y) :: kvs, vs, es, e, rd, ep, kv, pr => by
    subst e
    cases ds with
    | nil => exact absurd rd.of_nil (by simp)
    | cons d ds =>
      obtain ⟨v, r, e1, h1, h2⟩ := RDs.of_cons rd
      cases e1
      unfold scPs at ep
      cases q1 : scP d with
      | none => rw [q1] at ep; cases ep
      | some p =>
        cases q2 : scPs ds with
        | none => rw [q1, q2] at ep; cases ep
        | some qs =>
          rw [q1, q2] at ep
          cases ep
          cases kv with
          | cons hkv hr =>
            cases pr with
            | cons p1 p2 p3 =>
              obtain ⟨i1, i2⟩ := dct_reads (P := P) (w := w) (h := h) rfl h2 q2 hr p3
              obtain ⟨z1, z2⟩ := hkv
              have z1' : k = _ := z1
              subst z1'
              refine ⟨?_, ?_⟩
              · exact ReadsAll.cons (as := []) (key_reads p1) i1
              · refine ReadsAll.cons (as := []) ?_ i2
                have z := sc_reads (h := h) h1 z2 q1
                rw [← p2] at z
                exact z
theorem sh_reads {w : Wd} {d : D} {v : V} {u : Value} {p : PyData} (I : Inv X pins σ w.hp s) (r : Rel X.K w) (rd : RD X.K w d v) (rv : RelV v u) (e : shP w.st d = some p) : ∃ as, Reads s.heap u p as ∧ (p.hasDict = true → sysModules ∉ as) := by
  have gen : (match toP w.st 8 d with
    | some p => if p.hasDict = true then none else some p
    | none => none) = some p → ∃ as, Reads s.heap u p as ∧ (p.hasDict = true → sysModules ∉ as) := fun e => by
    split at e
    · rename_i p' q
      split at e
      · cases e
      · rename_i hd
        cases e
        obtain ⟨as, z⟩ := Dp.reads I p v u (toP_ok r 8 d v p rd q) rv
        exact ⟨as, z, fun y => absurd y hd⟩
    · cases e
  cases d with
  | dct ks ds =>
    have e' : (if ks.length = ds.length then (scPs ds).map fun ps => PyData.dict ((ks.map keyP).zip ps) else none) = some p := e
    split at e'
    · obtain ⟨ps, e1, e2⟩ := Option.map_eq_some_iff.mp e'
      subst e2
      simp only [RD] at rd
      obtain ⟨a, kvs, ev, h1, hdd, hk, rds⟩ := rd
      subst ev
      obtain rfl : u = Value.ref a := rv
      obtain ⟨_, hsm, vs, kv, o, es, ep, ho, hex, hd, _, hp, _⟩ := dk_rd I.hok h1
      obtain ⟨r1, r2⟩ := dct_reads (h := s.heap) hk rds e1 kv hp
      refine ⟨_, Reads.dict ho hex.1 hd r1 r2, fun _ m => ?_⟩
      simp only [List.append_nil, List.mem_singleton] at m
      rw [← m] at hsm
      simp at hsm
    · cases e'
  | _ => exact gen e
theorem toStr_len (x : Str) : True := trivial
theorem call_reprD (hg : X.A.guards = some []) (hu : X.A.units + 64 < cLine) : CallD X (.builtin "repr") reprD := by
  intro pins s σ H xs us Q I rv h
  obtain ⟨w, ds, d, e, r, rvs, eg, k⟩ := h
  subst e
  match ds, eg with
  | [y], eg =>
    have eg' : (match shP w.st y with
      | some p => if p.showable = true ∧ p.depth ≤ 60 ∧ p.shown.length ≤ sizeLine then some (D.str p.shown) else none
      | none => none) = some d := eg
    cases q : shP w.st y with
    | none => rw [q] at eg'; cases eg'
    | some p =>
      rw [q] at eg'
      simp only at eg'
      split at eg'
      · rename_i hc
        cases eg'
        obtain ⟨h1, h2, h3⟩ := hc
        obtain ⟨v, e4, rv'⟩ := rvs.one_of
        subst e4
        obtain ⟨u, rfl, ru⟩ := vals1 rv
        obtain ⟨as, rd, hsm⟩ := sh_reads I r rv' ru q
        have fin : ∀ (h' : Heap) (t tk : Nat), (∀ b o, s.heap.get? b = some o → h'.get? b = some o) → EP X pins σ Q (Value.str p.shown t) { s with heap := h', toks := tk } := fun h' t tk hk =>
          ⟨.str p.shown, w.hp, I.kept hk, ⟨t, rfl⟩, k w rfl rfl (Le.refl _) r _ (by rw [rd_str])⟩
        have fin0 : ∀ (t tk : Nat), EP X pins σ Q (Value.str p.shown t) { s with toks := tk } := fun t tk => fin s.heap t tk fun _ _ z => z
        cases rd with
        | none => exact PySem.P.repr_of_none (fin0 _ _)
        | bool b => exact PySem.P.repr_of_bool (fin0 _ _)
        | int i t => exact PySem.P.repr_of_int (of_decide_eq_true h1) (fin0 _ _)
        | str x t => exact PySem.P.repr_of_str (fin0 _ _) h3
        | list a1 a2 a3 a4 => exact repr_of_reads' (Reads.list a1 a2 a3 a4) h1 hsm hg (by omega) (fun _ _ z => z) (fun h' t tk hk => fin h' t tk hk) h3
        | tuple a1 a2 a3 a4 => exact repr_of_reads' (Reads.tuple a1 a2 a3 a4) h1 hsm hg (by omega) (fun _ _ z => z) (fun h' t tk hk => fin h' t tk hk) h3
        | dict a1 a2 a3 a4 a5 => exact repr_of_reads' (Reads.dict a1 a2 a3 a4 a5) h1 hsm hg (by omega) (fun _ _ z => z) (fun h' t tk hk => fin h' t tk hk) h3
      · cases eg'
end
end MI

set_option Elab.async false
set_option linter.all false
set_option maxRecDepth 100000
set_option maxHeartbeats 4000000
/-! MI: displays of dicts. -/
namespace MI
open PySem PySem.Spec PyProof.Rows L2
def pairsIts : List (EM × EM) → Env → Id → Store → Option (List (Key × D) × Store)
  | [], _, _, S => some ([], S)
  | q :: r, ρ, π, S => (match q.1 ρ (0 :: π) S with
    | some (.ok k, S1) => (match q.2 ρ (1 :: π) S1 with
      | some (.ok v, S2) => (keyD k).bind fun key => (pairsIts r ρ (2 :: π) S2).map fun p => ((key, v) :: p.1, p.2)
      | _ => none)
    | _ => none)
def mergeD (l : List (Key × D)) : List Key × List D := l.foldl (fun acc kv => putKD acc kv.1 kv.2) ([], [])
def dispD (ps : List (EM × EM)) : DM := fun ρ π S => match pairsIts ps ρ π S with
  | some (l, S1) => if l.length ≤ 15 then okR (mergeD l) S1 else none
  | none => none
abbrev trsOf (K : PySem.W.Frag) (ps : List (EM × EM)) : List (TE × TE) := ps.map fun q => (TE' K W0 q.1, TE' K W0 q.2)
section
variable {K : PySem.W.Frag} {A : Addr} {ρ : Env} {σ : L2.St}
theorem pairs_loop : ∀ (ps : List (EM × EM)) {u : Wd} {π : Id} {l : List (Key × D)} {S2 : Store} {Q' : List (V × V) → Hp → Prop}, Rel K u → u.hp A = none → EnvR K u ρ σ → Fr π u → pairsIts ps ρ π u.st = some (l, S2) →
    (∀ (u' : Wd) (kvs : List (Key × V)), u'.st = S2 → Rel K u' → u'.hp A = none → Le u u' → Out π u u' → kvs.map (·.1) = l.map (·.1) → RDs K u' (l.map (·.2)) (kvs.map (·.2)) → Q' (kvs.map fun kv => (kV kv.1, kv.2)) (u'.hide A (.dK [])).hp) →
    tPairs (trsOf K ps) σ (u.hide A (.dK [])).hp Q'
  | [], u, π, l, S2, Q', r, hA, en, fr, e, k => by
    have e1 : ([] : List (Key × D)) = l := congrArg Prod.fst (Option.some.inj e)
    have e2 : u.st = S2 := congrArg Prod.snd (Option.some.inj e)
    subst e1
    exact k u [] e2 r hA (Le.refl _) (Out.refl _ _) rfl .nil
  | (fk, fv) :: ps, u, π, l, S2, Q', r, hA, en, fr, e, k => by
    have rh := rel_hide (o := .dK []) r hA rfl
    have lh := le_hide (o := .dK []) r hA
    have enh : EnvR K (u.hide A (.dK [])) ρ σ := en.mono r lh
    have c : Cfg K (u.hide A (.dK [])) ρ π σ (u.hide A (.dK [])).hp := ⟨rfl, enh, rh, fr⟩
    unfold pairsIts at e
    simp only at e
    cases q1 : fk ρ (0 :: π) u.st with
    | none => simp only [q1] at e; cases e
    | some p1 =>
      obtain ⟨x, S1⟩ := p1
      cases x with
      | ex x => simp only [q1] at e; cases e
      | ok dk =>
        simp only [q1] at e
        refine ⟨u.hide A (.dK []), ρ, 0 :: π, c.cf.sub, fin0 q1 fun w1 e1 l1 r1 o1 vk rk => ?_⟩
        obtain ⟨hd1, hp1, lu1⟩ := le_drop r hA rfl l1
        have ru1 := rel_drop r1 hd1 hp1 rfl
        have c1 := c.cf.next l1 r1 o1
        cases q2 : fv ρ (1 :: π) S1 with
        | none => simp only [q2] at e; cases e
        | some p2 =>
          obtain ⟨x, S2'⟩ := p2
          cases x with
          | ex x => simp only [q2] at e; cases e
          | ok dv =>
            simp only [q2] at e
            refine ⟨w1, ρ, 1 :: π, c1.sub, fin0 (by rw [e1]; exact q2) fun w2 e2 l2 r2 o2 vv rv => ?_⟩
            obtain ⟨hd2, hp2, lu2⟩ := le_drop ru1 drop_none (hide_drop hd1 hp1).symm l2
            have ru2 := rel_drop r2 hd2 hp2 rfl
            have c2 := c1.next l2 r2 o2
            obtain ⟨key, e3, e4⟩ := Option.bind_eq_some_iff.mp e
            obtain ⟨pr, e5, e6⟩ := Option.map_eq_some_iff.mp e4
            obtain ⟨l', S3⟩ := pr
            have e7 : (key, dv) :: l' = l := congrArg Prod.fst e6
            have e8 : S3 = S2 := congrArg Prod.snd e6
            subst e7 e8
            have hk := keyD_ok rk e3
            have rv2 : RD K (w2.drop A) dv vv := RD.drop hd2 hp2 rfl _ _ rv
            have enu : EnvR K (w2.drop A) ρ σ := en.mono r (lu1.trans lu2).toLe0
            have f2 : Fr (2 :: π) (w2.drop A) := c2.fr 2 (Nat.le_refl 2)
            have z : ((w2.drop A).hide A (.dK [])).hp = w2.hp := by rw [hide_drop hd2 hp2]
            show tPairs (trsOf K ps) σ w2.hp _
            rw [← z]
            refine pairs_loop ps ru2 drop_none enu f2 (by rw [show (w2.drop A).st = S2' from e2]; exact e5) fun u' kvs eS r' hA' l' o' hkv rvs => ?_
            subst hk
            refine k u' ((key, vv) :: kvs) eS r' hA' (lu1.trans (lu2.trans l')) (fun i h => ?_) (by simp only [List.map_cons]; rw [hkv]) ?_
            · have z1 : w1.ph i = u.ph i := o1.up i h
              have z2 : w2.ph i = w1.ph i := o2.up i h
              have z3 : u'.ph i = w2.ph i := o'.up i h
              exact z3.trans (z2.trans z1)
            · exact RDs.cons (RD.mono ru2 l'.toLe0 _ _ rv2) rvs
theorem merge_ok {w : Wd} : ∀ {l : List (Key × D)} {kvs : List (Key × V)} {acc : List Key × List D} {ac : List (Key × V)}, kvs.map (·.1) = l.map (·.1) → RDs K w (l.map (·.2)) (kvs.map (·.2)) → ac.map (·.1) = acc.1 → RDs K w acc.2 (ac.map (·.2)) →
    (mergeK ac kvs).map (·.1) = (l.foldl (fun acc kv => putKD acc kv.1 kv.2) acc).1 ∧ RDs K w (l.foldl (fun acc kv => putKD acc kv.1 kv.2) acc).2 ((mergeK ac kvs).map (·.2))
  | [], kvs, acc, ac, e, r, h1, h2 => by
    cases kvs with
    | nil => exact ⟨h1, h2⟩
    | cons _ _ => cases e
  | (k, d) :: l, kvs, acc, ac, e, r, h1, h2 => by
    cases kvs with
    | nil => cases e
    | cons kv kvs =>
      obtain ⟨k', v⟩ := kv
      simp only [List.map_cons, List.cons.injEq] at e
      obtain ⟨e1, e2⟩ := e
      subst e1
      obtain ⟨v', r', e3, r1, r2⟩ := RDs.of_cons r
      cases e3
      obtain ⟨i1, i2⟩ := putKD_ok h1 h2 r1 (k := k')
      have z := merge_ok (acc := putKD acc k' d) (ac := putK ac k' v) e2 r2 i1 i2
      exact z
end
section
variable {X : Cx} {W : WX} {pos : Pos} {keys : List (Option Expr)} {values : List Expr} {ps : List (EM × EM)}
structure SPs (X : Cx) (pos : Pos) (keys : List (Option Expr)) (values : List Expr) (ps : List (EM × EM)) : Prop where
  run : PPs X pos keys values (trsOf X.K ps)
theorem sps_nil : SPs X pos [] [] [] := ⟨pps_nil⟩
theorem sps_cons {k v : Expr} {fk fv : EM} (hk : SE X W0 k fk) (hv : SE X W0 v fv) (hr : SPs X pos keys values ps) : SPs X pos (some k :: keys) (v :: values) ((fk, fv) :: ps) := ⟨pps_cons hk hv hr.run⟩
theorem sd_disp (h : SPs X pos keys values ps) (hall : keys.all (·.isSome) = true := by rfl) (hl : keys.length = values.length := by rfl) (h0 : keys ≠ [] := by simp) (h15 : keys.length ≤ 15 := by decide) : SD X W (.Dict keys values pos) (dispD ps) := by
  refine pe_imp (pe_disp h.run hall hl h0 h15) ?_
  intro σ H Q ⟨w, ρ, π, c, h⟩ p hp
  have ew := c.hp
  subst ew
  unfold dispD at h
  cases q : pairsIts ps ρ π w.st with
  | none => rw [q] at h; exact h.elim
  | some pr =>
    obtain ⟨l, S1⟩ := pr
    rw [q] at h
    simp only at h
    by_cases hz : l.length ≤ 15
    case neg => rw [if_neg hz] at h; exact h.elim
    rw [if_pos hz] at h
    show tPairs (trsOf X.K ps) σ (w.hide p (.dK [])).hp _
    refine pairs_loop ps c.rel hp c.env c.fr q fun u' kvs eS r' hA' l' o' hk rvs => ⟨upd_same, kvs, rfl, ?_, ?_⟩
    · have e := congrArg List.length hk
      rw [List.length_map, List.length_map] at e
      omega
    · obtain ⟨m1, m2⟩ := merge_ok (ac := []) (acc := ([], [])) hk rvs rfl .nil
      have z := h.okd u' eS l' r' o' p (mergeK [] kvs) hA' m1 m2
      have e : upd (u'.hide p (.dK [])).hp p (.dK (mergeK [] kvs)) = upd u'.hp p (.dK (mergeK [] kvs)) := by
        funext b
        by_cases q : b = p
        · rw [q, upd_same, upd_same]
        · rw [upd_ne q, upd_ne q]; exact upd_ne q
      rw [e]
      exact z
end
end MI

set_option Elab.async false
set_option linter.all false
set_option maxRecDepth 100000
set_option maxHeartbeats 4000000
/-! MI: a law's end, the head's facts. -/
namespace MI
open PySem PySem.Spec PyProof.Rows L2
/-- HandS's law_call for a promise that leans on the guards -/
theorem law_callG {P : Program} {w : World} {K : PySem.W.Frag} {mg mb : Str → Option Value} {k : Nat} {fa a : Addr} {fd : FuncData} {x : Str} {sp : Sp} {s₁ : Shared} {vs : List Value} {ns : List Int}
    (KX : K.In s₁.heap) (hns : s₁.heap.Ns mainGlobals mg) (hb : s₁.heap.Ns builtinsNs mb) (hbb : ∀ x : Str, x ≠ "__name__" → mb x = bootBuiltins x) (hlim : s₁.heap.NoLimit) (hg : s₁.gens = #[])
    (ha : s₁.heap.get? a = some { cls := .type "list", data := .seq vs.toArray }) (hi : IntsAre vs ns) (hl : ns.length ≤ sizeLine) (hr : Room k callerA)
    (F : ∀ base : Heap, K.In base → base.Ns mainGlobals mg → FnG P w K mg base k fa fd [x] sp) (hbind : ∀ (s : Shared) (u : Value), BindsTo s fd ⟨[u], []⟩ [(x, u)])
    (hsp : ∀ H : Hp, Only H → SqL K H a (ns.map V.int) → sp [.ref a] H (fun v _ => v = .bl true) fun _ _ _ => False) :
    codeAny (model P w) callerA (.call (.ref fa) ⟨[.ref a], []⟩) (fun r s' => r = .ok (.ret (.bool true)) ∧ OldK s₁.heap s'.heap ∧ s'.os = s₁.os ∧ AllBare s'.gens) s₁ := by
  have rv := vals_ints hi
  have lenV := hi.length
  have core : ∀ H : Hp, Only H → SqL K H a (ns.map V.int) → HOk P w H s₁.heap → (∀ b, H b ≠ none → b = a) → (H a ≠ none → K.lookup a = none) →
      codeAny (model P w) callerA (.call (.ref fa) ⟨[.ref a], []⟩) (fun r s' => r = .ok (.ret (.bool true)) ∧ OldK s₁.heap s'.heap ∧ s'.os = s₁.os ∧ AllBare s'.gens) s₁ := by
    intro H hO hS hok hA hK
    have base_of : ∀ {b : Addr} {o : Obj}, s₁.heap.get? b = some o → H b = none → (hidT s₁.heap H).get? b = some o := fun e n => hidT_get e n
    have noA : ∀ {b : Addr} {o : Obj} {es : Array DictEntry} {ep : Nat}, s₁.heap.get? b = some o → o.data = .dict es ep → H b = none := fun {b o es ep} e d => by
      cases q : H b with
      | none => rfl
      | some u =>
        have e' : b = a := hA b (by rw [q]; simp)
        subst e'
        rw [ha] at e; cases e
        have d' : Data.seq vs.toArray _ = Data.dict es ep := d
        cases d'
    have nsK : ∀ {b : Addr} {m : Str → Option Value}, s₁.heap.Ns b m → (hidT s₁.heap H).Ns b m := fun {b m} ⟨o, es, ep, e, d, r⟩ => ⟨o, es, ep, base_of e (noA e d), d, r⟩
    have hKb : K.In (hidT s₁.heap H) := fun b o e => base_of (KX b o e) (by
      cases q : H b with
      | none => rfl
      | some u =>
        have e' : b = a := hA b (by rw [q]; simp)
        subst e'
        rw [hK (by rw [q]; simp)] at e; cases e)
    have hM : Mod K mg (hidT s₁.heap H) := ⟨hKb, nsK hns, ⟨mb, nsK hb, hbb⟩, let ⟨mc, h1, h2⟩ := hlim; ⟨mc, nsK h1, h2⟩⟩
    have e0 : Env0 P w K mg (hidT s₁.heap H) callerA [] s₁ H := ⟨rfl, hM, fun b o e => of_hidT e, Nat.le_of_eq (hidT_size _ _), trivial, fun b hb => absurd (show b ∈ ([] : List Addr) from hb) (by simp), hok, .of_eq hg⟩
    refine codeAny_mono ((F _ hKb (nsK hns)).run callerA [] s₁ H ⟨[.ref a], []⟩ [.ref a] [.ref a] _ _ hr rfl e0 (hbind s₁ (.ref a)) (.cons rfl .nil) (hsp H hO hS)) fun r s' h => ?_
    cases r with
    | error e => obtain ⟨_, _, _, _, _, _, _, _, _, _, _, _, z⟩ := h; exact z.elim
    | ok fl =>
      cases fl with
      | next => exact False.elim h
      | brk => exact False.elim h
      | cont => exact False.elim h
      | ret u =>
        obtain ⟨v, H', os, bare, un, hok', r', q⟩ := h
        have q' : v = .bl true := q
        subst q'
        obtain rfl : u = Value.bool true := r'
        refine ⟨rfl, OldK.of_keep fun b o e => ?_, os, bare⟩
        cases q : H b with
        | none => exact un.keep b o e q (by intro z; exact absurd (show b ∈ ([] : List Addr) from z) (by simp)) (by simp)
        | some u =>
          rcases hO b with z | ⟨ob, xs, z⟩
          · rw [q] at z; cases z
          · have z2 := un.frzs b ob _ z
            obtain ⟨e1, _⟩ := hok b _ z
            obtain ⟨e2, _⟩ := hok' b _ z2
            rw [e] at e1; cases e1
            exact e2
  cases hk : K.lookup a with
  | some o =>
    have e := KX a o hk
    rw [ha] at e
    cases e
    refine core (fun _ => none) (fun _ => .inl rfl) (.inr ⟨_, vs.toArray, _, hk, rfl, rfl, rfl, by rw [List.size_toArray, lenV]; exact hl, by simpa using rv⟩) (fun b u z => by have z' : (none : Option HO) = some u := z; cases z') (fun b z => absurd rfl z) fun z => absurd rfl z
  | none =>
    refine core (fun b => if b = a then some (.frz { cls := .type "list", data := .seq vs.toArray } (.lst (ns.map V.int))) else none) (fun b => ?_) (.inl (.inr ⟨{ cls := .type "list", data := .seq vs.toArray }, if_pos rfl⟩)) (fun b u z => ?_) (fun b z => ?_) fun _ => hk
    · by_cases hb : b = a
      · exact .inr ⟨_, _, if_pos hb⟩
      · exact .inl (if_neg hb)
    · by_cases hb : b = a
      · have z' := (if_pos hb).symm.trans z
        cases z'
        subst hb
        exact ⟨ha, by rw [List.length_map]; exact hl, vs, _, rv, ha⟩
      · have z' := (if_neg hb).symm.trans z
        cases z'
    · by_cases hb : b = a
      · exact hb
      · exact absurd (if_neg hb) z
theorem walk_ofG {l : PySem.W.OpenLaw} {n k : Nat} {q : Program} {loose : List Str} {XP : (Str → Option Value) → Heap → Prop} {YP : World → Heap → Prop} {d : DefRec} {x : Str}
    (hn : l.most = some n) (hn2 : n ≤ sizeLine) (hdf : d.params.defaults = []) (hr : Room k callerA)
    (F : ∀ (w : World) (mg : Str → Option Value) (fa : Addr) (h : Heap), YP w h → h.Ns mainGlobals mg → mg d.name = some (.ref fa) →
      ∃ (K : PySem.W.Frag) (fd : FuncData) (sp : Sp), K.In h ∧ (∀ (s : Shared) (u : Value), BindsTo s fd ⟨[u], []⟩ [(x, u)]) ∧
        (∀ (H : Hp) (a : Addr) (ns : List Int), ns.length ≤ n → Only H → SqL K H a (ns.map V.int) → sp [.ref a] H (fun v _ => v = .bl true) fun _ _ _ => False) ∧
        ∀ base : Heap, K.In base → base.Ns mainGlobals mg → FnG l.prog w K mg base k fa fd [x] sp) :
    PySem.W.WalkO q loose XP YP l.row.toRowW d [] (fun f vs => PySem.call f vs) := by
  refine Att.attach_call hn hdf fun w s₀ s₁ mg mb fa o pm cd doc a vs ns G Y ho hd hcd hmg hobj hints hlen hg => ?_
  obtain ⟨K, fd, sp, KX, hb, hsp, hF⟩ := F w mg fa _ Y G.T.g hmg
  exact law_callG KX G.T.g G.T.b G.T.builtins G.T.nolimit hg hobj hints (Nat.le_trans hlen hn2) hr hF hb fun H hO hS => hsp H a ns hlen hO hS
/-- what the law's meaning must answer -/
theorem law_sp {K : PySem.W.Frag} {F : FM} {H : Hp} {a : Addr} {ns : List Int} (hO : Only H) (hS : SqL K H a (ns.map V.int)) (h : ∃ S, F [.lst (ns.map D.int)] [] (fun _ => none) = some (.ok (.bl true), S)) :
    FnS K F 1 [.ref a] H (fun v _ => v = .bl true) fun _ _ _ => False := by
  obtain ⟨S, e⟩ := h
  have rel : Rel K ⟨fun _ => none, fun _ => none, H, fun _ => False⟩ := Rel.mk (fun i o z => by cases z) (fun i j a z => by cases z) (fun i a z => by cases z) (fun a z => False.elim z)
  refine ⟨rfl, ⟨fun _ => none, fun _ => none, H, fun _ => False⟩, [.lst (ns.map D.int)], [], rfl, rel, ?_, fun q => rfl, ?_⟩
  · have rds : ∀ (w : Wd) (ns : List Int), RDs K w (ns.map D.int) (ns.map V.int) := fun w ns => by
      induction ns with
      | nil => exact .nil
      | cons i r ih => exact .cons (by rw [rd_int]) ih
    refine .cons ?_ .nil
    simp only [RD]
    refine ⟨a, ns.map V.int, rfl, ?_, rds _ ns⟩
    rcases hS with hS | ⟨o, its, n, h1, h2, h3, h4, h5, h6⟩
    · exact .inl ⟨hS, fun i z => rfl, fun z => z⟩
    · exact .inr ⟨o, its, n, h1, h2, h3, h4, h5, h6⟩
  · rw [show F [D.lst (ns.map D.int)] [] (fun _ => none) = some (.ok (.bl true), S) from e]
    intro w' _ _ _ _ v rv
    rw [rd_bl] at rv
    exact rv
/-! ### the head -/
abbrev AlM : Type := Bool × He.AlD
def obsM (as : (Addr → Option Obj) → List Addr) (chk : PySem.W.Frag → Bool) (fa : List He.Fa) (fn : List He.DefD) (g : Addr → Option Obj) : AlM := (chk (He.frG g (as g)), He.obsD fa fn (He.frG g (as g)))
def hookM (as : (Addr → Option Obj) → List Addr) (chk : PySem.W.Frag → Bool) (fa : List He.Fa) (fn : List He.DefD) : PySem.W.Hook where
  α := AlM
  obs := fun s => obsM as chk fa fn s.heap.get?
  val := fun _ => (true, He.valD fn)
  says := fun _ h => ∃ K : PySem.W.Frag, K.In h ∧ chk K = true ∧ He.SaysD fa fn K
  of := fun _ _ e => ⟨_, He.frG_in, congrArg (fun z : AlM => z.1) e, congrArg (fun z : AlM => z.2) e⟩
  keeps := fun _ _ _ ⟨K, hK, c⟩ k => ⟨K, PySem.W.Frag.In.keeps hK k, c⟩
theorem obsM_eq {as : (Addr → Option Obj) → List Addr} {chk : PySem.W.Frag → Bool} {fa : List He.Fa} {fn : List He.DefD} {g : Addr → Option Obj} {s : Shared} (h : ∀ a, g a = s.heap.get? a) : obsM as chk fa fn g = (hookM as chk fa fn).obs s := by
  have e : g = s.heap.get? := funext h
  rw [e] <;> rfl
end MI
namespace MI
open PySem PySem.Spec PyProof.Rows L2
open PySem.MIX (BaseE refsB tailB)
/-- a class over ValueError or LookupError whose __init__ stores fields -/
def exiB (K : PySem.W.Frag) (C : Addr) (B n : String) (fs : List Str) : Bool := oexB K C B n && (He.eqO (PySem.W.findIn K (.ref C) "__init__") (some (some (.ref (He.ma K C "__init__")))) && (decide (PySem.W.typeIn K (.ref (He.ma K C "__init__")) = some (.type "function")) && fs.all fun f => He.eqO (PySem.W.findIn K (.ref C) f) (some none)))
theorem exiB_ok {K : PySem.W.Frag} {C : Addr} {B n : String} {fs : List Str} (h : exiB K C B n fs = true) : OexB K C B n ∧ PySem.W.findIn K (.ref C) "__init__" = some (some (.ref (He.ma K C "__init__"))) ∧ PySem.W.typeIn K (.ref (He.ma K C "__init__")) = some (.type "function") ∧ ∀ f ∈ fs, PySem.W.findIn K (.ref C) f = some none := by
  obtain ⟨h1, h⟩ := Bool.and_eq_true_iff.mp h
  obtain ⟨h2, h⟩ := Bool.and_eq_true_iff.mp h
  obtain ⟨h3, h4⟩ := Bool.and_eq_true_iff.mp h
  exact ⟨oexB_ok h1, He.eqO_ok h2, of_decide_eq_true h3, fun f hf => He.eqO_ok (List.all_eq_true.mp h4 f hf)⟩
section
variable {P : Program} {w : World} {K : PySem.W.Frag} {mg : Str → Option Value} {base : Heap} {x qual f1 f2 p1 p2 : Str} {st : Stmt} {C : Addr} {fd : FuncData} {B n i : String} {a1 a2 a3 a4 a5 a6 : Pos} {b1 b2 : Pos}
theorem exi_ok1 (e : exiB K C B n [f1] = true) (bb : BaseE B n i) (hF : FunD K x qual (defArgs st) (defBody st) (defScope st) [] [] (He.ma K C "__init__") fd) (S : FnScope ["self", p1] ["self", p1] (defScope st))
    (hb : defBody st = [.Assign [.Attribute (.Name "self" a1) f1 a2] (.Name p1 a3) b1]) (v1 : (defScope st).names.lookup ("self" : Str) = some .local) (v2 : (defScope st).names.lookup p1 = some .local) (b : Binds K fd ["self", p1] [])
    (d1 : (p1 == ("__debug__" : Str)) = false := by decide) (d2 : (p1 == ("__classdict__" : Str)) = false := by decide) : ExI P w K mg base C [f1] := by
  obtain ⟨h1, h2, h3, h4⟩ := exiB_ok e
  exact ⟨B, n, i, _, fd, ["self", p1], bb, h1, h2, h3, fn_init1 bb h1 (h4 f1 (by simp)) hF S hb v1 v2 d1 d2, b⟩
theorem exi_ok2 (e : exiB K C B n [f2, f1] = true) (bb : BaseE B n i) (hF : FunD K x qual (defArgs st) (defBody st) (defScope st) [] [] (He.ma K C "__init__") fd) (S : FnScope ["self", p1, p2] ["self", p1, p2] (defScope st))
    (hb : defBody st = [.Assign [.Attribute (.Name "self" a1) f1 a2] (.Name p1 a3) b1, .Assign [.Attribute (.Name "self" a4) f2 a5] (.Name p2 a6) b2]) (v1 : (defScope st).names.lookup ("self" : Str) = some .local) (v2 : (defScope st).names.lookup p1 = some .local) (v3 : (defScope st).names.lookup p2 = some .local) (b : Binds K fd ["self", p1, p2] [])
    (d1 : (p1 == ("__debug__" : Str)) = false := by decide) (d2 : (p1 == ("__classdict__" : Str)) = false := by decide) (d3 : (p2 == ("__debug__" : Str)) = false := by decide) (d4 : (p2 == ("__classdict__" : Str)) = false := by decide) : ExI P w K mg base C [f2, f1] := by
  obtain ⟨h1, h2, h3, h4⟩ := exiB_ok e
  exact ⟨B, n, i, _, fd, ["self", p1, p2], bb, h1, h2, h3, fn_init2 bb h1 (h4 f1 (by simp)) (h4 f2 (by simp)) hF S hb v1 v2 v3 d1 d2 d3 d4, b⟩
end
def ex0B (K : PySem.W.Frag) (C : Addr) (B n : String) : Bool := PySem.W.excIn K C (tailB B) n && PySem.W.keepIn K (.ref C)
theorem ex0B_ok {K : PySem.W.Frag} {C : Addr} {B n : String} (h : ex0B K C B n = true) : PySem.W.excIn K C (tailB B) n = true ∧ PySem.W.keepIn K (.ref C) = true := Bool.and_eq_true_iff.mp h
/-- a statement of a class's body -/
def clsStmt (s : Stmt) (j : Nat) : Stmt := match s with
  | .ClassDef _ _ _ b _ _ _ _ _ _ _ => b.getD j (.Pass ⟨0, 0, 0, 0⟩)
  | _ => .Pass ⟨0, 0, 0, 0⟩
end MI

set_option Elab.async false
set_option linter.all false
/-! MI: the meanings at work, for simp. -/
namespace MI
open PySem L2
section
variable {ρ : Env} {π : Id} {S : Store} {f g h : EM} {fa fb : AM} {b c : BM} {u v : SM} {d : D} {ds : List D}
@[simp] theorem litM_ap : litM d ρ π S = okR d S := rfl
theorem varM_ap {i : Nat} : varM i ρ π S = match ρ[i]? with
  | some (some d) => okR d S
  | _ => none := rfl
@[simp] theorem varM_ok {i : Nat} (e : ρ[i]? = some (some d)) : varM i ρ π S = okR d S := by rw [varM_ap, e]
@[simp] theorem opM_ap {r : Store → D → D → Option D} : opM r f g ρ π S = bindR (f ρ (0 :: π) S) fun x S1 => bindR (g ρ (1 :: π) S1) fun y S2 => liftR (r S2 x y) S2 := rfl
@[simp] theorem unM_ap {r : Store → D → Option D} : unM r f ρ π S = bindR (f ρ (0 :: π) S) fun x S1 => liftR (r S1 x) S1 := rfl
@[simp] theorem op2L_ap {r : Store → D → D → Option (List D)} : op2L r f g ρ π S = bindR (f ρ (0 :: π) S) fun x S1 => bindR (g ρ (1 :: π) S1) fun y S2 => liftR (r S2 x y) S2 := rfl
@[simp] theorem frzM_ap : frzM fa ρ π S = bindR (fa ρ (0 :: π) S) fun xs S1 => okR (.lst xs) S1 := rfl
@[simp] theorem stoM_ap : stoM fa ρ π S = bindR (fa ρ (0 :: π) S) fun xs S1 => okR (.ref (1 :: π)) (put S1 (1 :: π) (.lst xs)) := rfl
@[simp] theorem tupM_ap : tupM fa ρ π S = bindR (fa ρ π S) fun xs S1 => if xs.length ≤ sizeLine then okR (.tup xs) S1 else none := rfl
@[simp] theorem dispM_ap : dispM fa ρ π S = bindR (fa ρ π S) fun xs S1 => if xs.length ≤ sizeLine then okR xs S1 else none := rfl
@[simp] theorem nilM_ap : nilM ρ π S = okR [] S := rfl
@[simp] theorem consM_ap : consM f fa ρ π S = bindR (f ρ (0 :: π) S) fun d S1 => bindR (fa ρ (1 :: π) S1) fun ds S2 => okR (d :: ds) S2 := rfl
@[simp] theorem truM_ap : truM f ρ π S = bindR (f ρ π S) fun d S1 => liftR (truD S1 d) S1 := rfl
@[simp] theorem blM_ap : blM f ρ π S = bindR (f ρ π S) fun d S1 => match d with
  | .bl b => okR b S1
  | _ => none := rfl
@[simp] theorem andB_ap : andB b c ρ π S = bindR (b ρ (0 :: π) S) fun b S1 => if b = true then c ρ (1 :: π) S1 else okR false S1 := rfl
@[simp] theorem orB_ap : orB b c ρ π S = bindR (b ρ (0 :: π) S) fun b S1 => if b = true then okR true S1 else c ρ (1 :: π) S1 := rfl
@[simp] theorem notB_ap : notB b ρ π S = bindR (b ρ π S) fun b S1 => okR (!b) S1 := rfl
@[simp] theorem ifM_ap : ifM b f g ρ π S = bindR (b ρ (0 :: π) S) fun b S1 => if b = true then f ρ (1 :: π) S1 else g ρ (1 :: π) S1 := rfl
@[simp] theorem callM_ap {r : Store → List D → Option D} : callM r fa ρ π S = bindR (fa ρ π S) fun ds S1 => liftR (r S1 ds) S1 := rfl
@[simp] theorem callA_ap {r : Store → List D → Option (List D)} : callA r fa ρ π S = bindR (fa ρ π S) fun ds S1 => liftR (r S1 ds) S1 := rfl
@[simp] theorem yesB_ap : yesB ρ π S = okR true S := rfl
@[simp] theorem passS_ap : passS ρ π S = some (.nx, ρ, S) := rfl
@[simp] theorem seqS_ap : seqS u v ρ π S = bindS (u ρ (0 :: π) S) fun ρ1 S1 => v ρ1 (1 :: π) S1 := rfl
@[simp] theorem exprS_ap : exprS f ρ π S = exS (f ρ π S) ρ fun _ S1 => some (.nx, ρ, S1) := rfl
@[simp] theorem retS_ap : retS f ρ π S = exS (f ρ π S) ρ fun d S1 => some (.rt d, ρ, S1) := rfl
@[simp] theorem retN_ap : retN ρ π S = some (.rt .non, ρ, S) := rfl
@[simp] theorem ifS_ap : ifS b u v ρ π S = exS (b ρ (0 :: π) S) ρ fun b S1 => if b = true then u ρ (1 :: π) S1 else v ρ (1 :: π) S1 := rfl
@[simp] theorem asgS_ap {g : GM} : asgS f g ρ π S = exS (f ρ (0 :: π) S) ρ fun d S1 => nxO (g d ρ (1 :: π) S1) := rfl
@[simp] theorem nameG_ap {i : Nat} : nameG i d ρ π S = some (.nx, ρ.set i (some d), S) := rfl
@[simp] theorem gsNil_ap : gsNil [] ρ π S = some (.nx, ρ, S) := rfl
@[simp] theorem gsCons_ap {g : GM} {gs : GsM} : gsCons g gs (d :: ds) ρ π S = bindS (g d ρ (0 :: π) S) fun ρ1 S1 => gs ds ρ1 (1 :: π) S1 := rfl
@[simp] theorem tupG_ap {n : Nat} {gs : GsM} : tupG n gs d ρ π S = match seqD S d with
  | some xs => if xs.length = n then gs xs ρ π S else none
  | none => none := rfl
@[simp] theorem subG_ap {w : D} : subG f g w ρ π S = exS (f ρ (0 :: π) S) ρ fun o S1 => exS (g ρ (1 :: π) S1) ρ fun i S2 => match setD S2 o i w with
  | some S3 => some (.nx, ρ, S3)
  | none => none := rfl
@[simp] theorem fnM_ap {F : FM} {n : Nat} : fnM n F fa ρ π S = bindR (fa ρ (0 :: π) S) fun ds S1 => if ds.length = n then F ds (1 :: π) S1 else none := rfl
@[simp] theorem methM_ap {T : String} {r : MG} : methM T r f fa ρ π S = bindR (f ρ (0 :: π) S) fun d S1 => if tyN S1 d = some T then bindR (fa ρ (1 :: π) S1) fun ds S2 => (match r S2 d ds with
  | some (r, S3) => okR r S3
  | none => none) else none := rfl
@[simp] theorem excM_ap {x : Str} {ns : List Str} : excM x ns fa ρ π S = bindR (fa ρ π S) fun ds S1 => if ds.length = ns.length then okR (.exc x ns ds.reverse) S1 else none := rfl
@[simp] theorem xfM_ap {cs : List Str} {x : Str} : xfM cs x f ρ π S = bindR (f ρ π S) fun d S1 => liftR (excAt cs x d) S1 := rfl
@[simp] theorem seqI_ap : seqI f ρ π S = bindR (f ρ π S) fun d S1 => liftR (srcD S1 d) S1 := rfl
@[simp] theorem forS_ap {f : IM} {g : GM} : forS f g u ρ π S = exS (f ρ (0 :: π) S) ρ fun p S1 => forIts g u p.2 p.1 ρ (1 :: π) S1 := rfl
@[simp] theorem lcM_ap {f : IM} {g : GN} {t : BM} {e : EM} {vs : List Nat} : lcM f g t e vs ρ π S = bindR (f ρ (0 :: π) S) fun p S1 => (match lcIts g t e p.2 vs ρ p.1 (1 :: π) S1 with
  | some (ds, S2) => if ds.length ≤ sizeLine then okR ds S2 else none
  | none => none) := rfl
@[simp] theorem frzD_ap {f : DM} : frzD f ρ π S = bindR (f ρ (0 :: π) S) fun x S1 => okR (.dct x.1 x.2) S1 := rfl
@[simp] theorem nilD_ap : nilD ρ π S = okR ([], []) S := rfl
/-- what a def's body ends with -/
def endR : SR → Rs D
  | some (.nx, _, S) => okR .non S
  | some (.rt d, _, S) => okR d S
  | some (.ex e, _, S) => some (.ex e, S)
  | _ => none
@[simp] theorem endR_nx : endR (some (.nx, ρ, S)) = okR .non S := rfl
@[simp] theorem endR_rt : endR (some (.rt d, ρ, S)) = okR d S := rfl
@[simp] theorem endR_ex {e : Exc} : endR (some (.ex e, ρ, S)) = some (.ex e, S) := rfl
theorem defM_ap {n N : Nat} (e : ds.length = n) : defM n N u ds π S = endR (u (ds.map some ++ List.replicate (N - n) none) π S) := by
  unfold defM
  rw [if_pos e]
  rfl
end
end MI

set_option Elab.async false
set_option linter.all false
set_option maxRecDepth 100000
/-! MI: plain laws of meanings. -/
namespace MI
open PySem L2
theorem toP_ints (S : Store) (n : Nat) (xs : List Int) : (xs.map D.int).mapM (toP S (n + 1)) = some (xs.map PyData.int) := by
  induction xs with
  | nil => rfl
  | cons x r ih =>
    rw [List.map_cons, List.mapM_cons, ih]
    rfl
theorem canLay_ints (xs : List Int) : PyData.canLayAll0 (xs.map PyData.int) = true := by
  induction xs with
  | nil => rfl
  | cons x r ih => rw [List.map_cons, PyData.canLayAll0, ih]; rfl
theorem depth_ints (xs : List Int) : PyData.depthAll (xs.map PyData.int) = 0 := by
  induction xs with
  | nil => rfl
  | cons x r ih => rw [List.map_cons, PyData.depthAll, ih]; rfl
theorem shaped_ints (xs : List Int) : SeqAt.shaped (.list (xs.map PyData.int)) = true := by
  unfold SeqAt.shaped
  rw [PyData.canLay0, canLay_ints, PyData.depth, depth_ints]
  rfl
theorem neD_ref_nil {S : Store} {i : Id} {xs : List Int} (h : S i = some (.lst (xs.map .int))) : neD S (.ref i) (.lst []) = some (.bl (!xs.isEmpty)) := by
  have e1 : toP S 8 (.ref i) = some (.list (xs.map PyData.int)) := by
    show (match S i with
      | some (.lst xs) => (xs.mapM (toP S 7)).map PyData.list
      | _ => none) = _
    rw [h]
    show ((xs.map D.int).mapM (toP S 7)).map PyData.list = _
    rw [toP_ints]
    rfl
  have e2 : toP S 8 (.lst []) = some (.list []) := rfl
  show eqGen true S (.ref i) (.lst []) = _
  unfold eqGen
  rw [e1, e2]
  simp only [shaped_ints]
  have e3 : SeqAt.shaped (.list []) = true := by decide
  rw [e3]
  cases xs with
  | nil => rfl
  | cons x r => rfl
/-- a comprehension that leaves the store as it is -/
theorem lcIts_pure {g : GN} {t : BM} {e : EM} {c : Lives} {vs : List Nat} {ρ : MI.Env} {S : Store} (ρx : D → MI.Env) (b : D → Bool) (r : D → D) (hc : Still c S) : ∀ (xs : List D) (π : Id),
    (∀ x ∈ xs, g S x (wipeE ρ vs) = some (ρx x) ∧ (∀ π, t (ρx x) π S = okR (b x) S) ∧ (b x = true → ∀ π, e (ρx x) π S = okR (r x) S)) → lcIts g t e c vs ρ xs π S = some ((xs.filter b).map r, S)
  | [], π, h => by unfold lcIts; rw [if_pos hc]; rfl
  | x :: xs, π, h => by
    obtain ⟨h1, h2, h3⟩ := h x List.mem_cons_self
    have h2' := h2 (0 :: π)
    unfold lcIts
    rw [if_pos hc, h1]
    simp only [Option.bind_some, h2']
    cases hb : b x with
    | false =>
      rw [List.filter_cons_of_neg (by rw [hb]; decide)]
      exact lcIts_pure ρx b r hc xs (2 :: π) fun y hy => h y (List.mem_cons_of_mem _ hy)
    | true =>
      rw [List.filter_cons_of_pos hb]
      have h3' := h3 hb (1 :: π)
      simp only [okR, h3']
      rw [lcIts_pure ρx b r hc xs (2 :: π) fun y hy => h y (List.mem_cons_of_mem _ hy)]
      rfl
/-- a loop that keeps what is said -/
theorem forIts_inv {g : GM} {b : SM} {c : Lives} (P : Nat → Id → MI.Env → Store → Prop) : ∀ (xs : List D) (i : Nat) (ρ : MI.Env) (π : Id) (S : Store),
    (∀ j x ρ π S, xs[j]? = some x → P (i + j) π ρ S → Still c S ∧ ∃ ρ1 S1, g x ρ (0 :: π) S = some (.nx, ρ1, S1) ∧ ∃ ρ2 S2 fl, b ρ1 (1 :: π) S1 = some (fl, ρ2, S2) ∧ (fl = .nx ∨ fl = .ct) ∧ P (i + j + 1) (2 :: π) ρ2 S2) →
    (∀ π ρ S, P (i + xs.length) π ρ S → Still c S) → P i π ρ S → ∃ ρ' S' π', forIts g b c xs ρ π S = some (.nx, ρ', S') ∧ P (i + xs.length) π' ρ' S'
  | [], i, ρ, π, S, _, hs, h => by
    refine ⟨ρ, S, π, ?_, h⟩
    unfold forIts
    rw [if_pos (hs π ρ S h)]
  | x :: xs, i, ρ, π, S, st, hs, h => by
    obtain ⟨hc, ρ1, S1, e1, ρ2, S2, fl, e2, hf, hp⟩ := st 0 x ρ π S rfl h
    have e := forIts_inv P xs (i + 1) ρ2 (2 :: π) S2 (fun j y ρ π S hy hq => by
      have z := st (j + 1) y ρ π S (by simpa using hy)
      rw [show i + (j + 1) = i + 1 + j by omega] at z
      exact z hq) (fun π ρ S hq => hs π ρ S (by rw [List.length_cons, show i + (xs.length + 1) = i + 1 + xs.length by omega]; exact hq)) hp
    obtain ⟨ρ', S', π', e3, e4⟩ := e
    refine ⟨ρ', S', π', ?_, by rw [List.length_cons, show i + (xs.length + 1) = i + 1 + xs.length by omega]; exact e4⟩
    unfold forIts
    rw [if_pos hc, e1]
    simp only [nxO_nx, bindS_nx, e2]
    rcases hf with rfl | rfl <;> exact e3
end MI

set_option Elab.async false
set_option linter.all false
set_option maxRecDepth 100000
set_option maxHeartbeats 4000000
namespace LW
open PySem PySem.Spec PyProof.Rows L2 MI
def top (i : Nat) : Stmt := PySem.Challenge.pw_savelines_k06_errors_and_limits.main.body.getD i (.Pass ⟨0, 0, 0, 0⟩)
abbrev s__law_state : Stmt := top 20
abbrev s__law_same : Stmt := top 23
abbrev s__law_errors : Stmt := top 25
abbrev s__law_draw : Stmt := top 21
abbrev s__law_odd : Stmt := top 22
abbrev s__law_flags : Stmt := top 24
abbrev s__law_fields : Stmt := top 26
abbrev s_law : Stmt := top 27
abbrev s_Refused_init : Stmt := clsStmt (top 10) 0
abbrev s_BadStep_init : Stmt := clsStmt (top 9) 0
abbrev s_TooManySteps_init : Stmt := clsStmt (top 6) 0
abbrev s_NoRule_init : Stmt := clsStmt (top 5) 0
abbrev s_TwoStates_init : Stmt := clsStmt (top 3) 0
abbrev s_BadEvent_init : Stmt := clsStmt (top 2) 0
abbrev s_NotTogether_init : Stmt := clsStmt (top 4) 0
abbrev s_BadHistory_init : Stmt := clsStmt (top 13) 0
abbrev s_BadText_init : Stmt := clsStmt (top 12) 0
abbrev s_BadProcesses_init : Stmt := clsStmt (top 11) 0
abbrev s_NoMessage_init : Stmt := clsStmt (top 15) 0
abbrev s_NoProcess_init : Stmt := clsStmt (top 14) 0
def tabL : List (PySem.Str × List PySem.Str × List String) := [("LineError", ["LineError"], ["ValueError"]), ("BadEvent", ["BadEvent", "LineError"], ["ValueError"]), ("TwoStates", ["TwoStates", "LineError"], ["ValueError"]), ("NotTogether", ["NotTogether", "LineError"], ["ValueError"]), ("NoRule", ["NoRule", "LineError"], ["ValueError"]), ("TooManySteps", ["TooManySteps", "LineError"], ["ValueError"]), ("Full", ["Full", "LineError"], ["ValueError"]), ("NothingToUndo", ["NothingToUndo", "LineError"], ["ValueError"]), ("BadStep", ["BadStep", "LineError"], ["ValueError"]), ("Refused", ["Refused", "LineError"], ["ValueError"]), ("BadProcesses", ["BadProcesses", "LineError"], ["ValueError"]), ("BadText", ["BadText", "LineError"], ["ValueError"]), ("BadHistory", ["BadHistory", "LineError"], ["ValueError"]), ("NoProcess", ["NoProcess"], ["LookupError"]), ("NoMessage", ["NoMessage"], ["LookupError"])]
def usL : List PySem.Str := ["LineError", "BadEvent", "TwoStates", "NotTogether", "NoRule", "TooManySteps", "Full", "NothingToUndo", "BadStep", "Refused", "BadProcesses", "BadText", "BadHistory", "NoProcess", "NoMessage"]
def tsL : List String := ["ValueError", "LookupError"]
abbrev subL : PySem.Str → D → Option Bool := subT tabL usL tsL
structure Txt (K : PySem.W.Frag) (mg : PySem.Str → Option Value) : Prop where
  f__law_state : ∃ fd, FunD K "_law_state" "_law_state" (defArgs s__law_state) (defBody s__law_state) (defScope s__law_state) [] [] (He.ga K "_law_state") fd
  m__law_state : mg "_law_state" = some (.ref (He.ga K "_law_state"))
  f__law_same : ∃ fd, FunD K "_law_same" "_law_same" (defArgs s__law_same) (defBody s__law_same) (defScope s__law_same) [] [] (He.ga K "_law_same") fd
  m__law_same : mg "_law_same" = some (.ref (He.ga K "_law_same"))
  f__law_errors : ∃ fd, FunD K "_law_errors" "_law_errors" (defArgs s__law_errors) (defBody s__law_errors) (defScope s__law_errors) [] [] (He.ga K "_law_errors") fd
  m__law_errors : mg "_law_errors" = some (.ref (He.ga K "_law_errors"))
  f__law_draw : ∃ fd, FunD K "_law_draw" "_law_draw" (defArgs s__law_draw) (defBody s__law_draw) (defScope s__law_draw) [] [] (He.ga K "_law_draw") fd
  m__law_draw : mg "_law_draw" = some (.ref (He.ga K "_law_draw"))
  f__law_odd : ∃ fd, FunD K "_law_odd" "_law_odd" (defArgs s__law_odd) (defBody s__law_odd) (defScope s__law_odd) [] [] (He.ga K "_law_odd") fd
  m__law_odd : mg "_law_odd" = some (.ref (He.ga K "_law_odd"))
  f__law_flags : ∃ fd, FunD K "_law_flags" "_law_flags" (defArgs s__law_flags) (defBody s__law_flags) (defScope s__law_flags) [] [] (He.ga K "_law_flags") fd
  m__law_flags : mg "_law_flags" = some (.ref (He.ga K "_law_flags"))
  f__law_fields : ∃ fd, FunD K "_law_fields" "_law_fields" (defArgs s__law_fields) (defBody s__law_fields) (defScope s__law_fields) [] [] (He.ga K "_law_fields") fd
  m__law_fields : mg "_law_fields" = some (.ref (He.ga K "_law_fields"))
  f_law : ∃ fd, FunD K "law" "law" (defArgs s_law) (defBody s_law) (defScope s_law) [] [] (He.ga K "law") fd
  m_law : mg "law" = some (.ref (He.ga K "law"))
  m_Refused : mg "Refused" = some (.ref (He.ga K "Refused"))
  x_Refused : ∃ fd, FunD K "__init__" "Refused.__init__" (defArgs s_Refused_init) (defBody s_Refused_init) (defScope s_Refused_init) [] [] (He.ma K (He.ga K "Refused") "__init__") fd
  e_Refused : exiB K (He.ga K "Refused") "ValueError" "ValueError.__new__" ["index"] = true
  m_BadStep : mg "BadStep" = some (.ref (He.ga K "BadStep"))
  x_BadStep : ∃ fd, FunD K "__init__" "BadStep.__init__" (defArgs s_BadStep_init) (defBody s_BadStep_init) (defScope s_BadStep_init) [] [] (He.ma K (He.ga K "BadStep") "__init__") fd
  e_BadStep : exiB K (He.ga K "BadStep") "ValueError" "ValueError.__new__" ["index"] = true
  m_TooManySteps : mg "TooManySteps" = some (.ref (He.ga K "TooManySteps"))
  x_TooManySteps : ∃ fd, FunD K "__init__" "TooManySteps.__init__" (defArgs s_TooManySteps_init) (defBody s_TooManySteps_init) (defScope s_TooManySteps_init) [] [] (He.ma K (He.ga K "TooManySteps") "__init__") fd
  e_TooManySteps : exiB K (He.ga K "TooManySteps") "ValueError" "ValueError.__new__" ["limit"] = true
  m_NoRule : mg "NoRule" = some (.ref (He.ga K "NoRule"))
  x_NoRule : ∃ fd, FunD K "__init__" "NoRule.__init__" (defArgs s_NoRule_init) (defBody s_NoRule_init) (defScope s_NoRule_init) [] [] (He.ma K (He.ga K "NoRule") "__init__") fd
  e_NoRule : exiB K (He.ga K "NoRule") "ValueError" "ValueError.__new__" ["value"] = true
  m_TwoStates : mg "TwoStates" = some (.ref (He.ga K "TwoStates"))
  x_TwoStates : ∃ fd, FunD K "__init__" "TwoStates.__init__" (defArgs s_TwoStates_init) (defBody s_TwoStates_init) (defScope s_TwoStates_init) [] [] (He.ma K (He.ga K "TwoStates") "__init__") fd
  e_TwoStates : exiB K (He.ga K "TwoStates") "ValueError" "ValueError.__new__" ["process"] = true
  m_BadEvent : mg "BadEvent" = some (.ref (He.ga K "BadEvent"))
  x_BadEvent : ∃ fd, FunD K "__init__" "BadEvent.__init__" (defArgs s_BadEvent_init) (defBody s_BadEvent_init) (defScope s_BadEvent_init) [] [] (He.ma K (He.ga K "BadEvent") "__init__") fd
  e_BadEvent : exiB K (He.ga K "BadEvent") "ValueError" "ValueError.__new__" ["event"] = true
  m_Full : mg "Full" = some (.ref (He.ga K "Full"))
  e_Full : ex0B K (He.ga K "Full") "ValueError" "ValueError.__new__" = true
  m_NotTogether : mg "NotTogether" = some (.ref (He.ga K "NotTogether"))
  x_NotTogether : ∃ fd, FunD K "__init__" "NotTogether.__init__" (defArgs s_NotTogether_init) (defBody s_NotTogether_init) (defScope s_NotTogether_init) [] [] (He.ma K (He.ga K "NotTogether") "__init__") fd
  e_NotTogether : exiB K (He.ga K "NotTogether") "ValueError" "ValueError.__new__" ["other", "one"] = true
  m_BadHistory : mg "BadHistory" = some (.ref (He.ga K "BadHistory"))
  x_BadHistory : ∃ fd, FunD K "__init__" "BadHistory.__init__" (defArgs s_BadHistory_init) (defBody s_BadHistory_init) (defScope s_BadHistory_init) [] [] (He.ma K (He.ga K "BadHistory") "__init__") fd
  e_BadHistory : exiB K (He.ga K "BadHistory") "ValueError" "ValueError.__new__" ["error"] = true
  m_BadText : mg "BadText" = some (.ref (He.ga K "BadText"))
  x_BadText : ∃ fd, FunD K "__init__" "BadText.__init__" (defArgs s_BadText_init) (defBody s_BadText_init) (defScope s_BadText_init) [] [] (He.ma K (He.ga K "BadText") "__init__") fd
  e_BadText : exiB K (He.ga K "BadText") "ValueError" "ValueError.__new__" ["index"] = true
  m_BadProcesses : mg "BadProcesses" = some (.ref (He.ga K "BadProcesses"))
  x_BadProcesses : ∃ fd, FunD K "__init__" "BadProcesses.__init__" (defArgs s_BadProcesses_init) (defBody s_BadProcesses_init) (defScope s_BadProcesses_init) [] [] (He.ma K (He.ga K "BadProcesses") "__init__") fd
  e_BadProcesses : exiB K (He.ga K "BadProcesses") "ValueError" "ValueError.__new__" ["value"] = true
  m_NoMessage : mg "NoMessage" = some (.ref (He.ga K "NoMessage"))
  x_NoMessage : ∃ fd, FunD K "__init__" "NoMessage.__init__" (defArgs s_NoMessage_init) (defBody s_NoMessage_init) (defScope s_NoMessage_init) [] [] (He.ma K (He.ga K "NoMessage") "__init__") fd
  e_NoMessage : exiB K (He.ga K "NoMessage") "LookupError" "LookupError.__new__" ["value"] = true
  m_NoProcess : mg "NoProcess" = some (.ref (He.ga K "NoProcess"))
  x_NoProcess : ∃ fd, FunD K "__init__" "NoProcess.__init__" (defArgs s_NoProcess_init) (defBody s_NoProcess_init) (defScope s_NoProcess_init) [] [] (He.ma K (He.ga K "NoProcess") "__init__") fd
  e_NoProcess : exiB K (He.ga K "NoProcess") "LookupError" "LookupError.__new__" ["value"] = true
  m_NothingToUndo : mg "NothingToUndo" = some (.ref (He.ga K "NothingToUndo"))
  e_NothingToUndo : ex0B K (He.ga K "NothingToUndo") "ValueError" "ValueError.__new__" = true
  m_LineError : mg "LineError" = some (.ref (He.ga K "LineError"))
  a_BadEvent_event : atxB K (He.ga K "BadEvent") "event" = true
  a_BadHistory_error : atxB K (He.ga K "BadHistory") "error" = true
  a_BadProcesses_value : atxB K (He.ga K "BadProcesses") "value" = true
  a_BadStep_index : atxB K (He.ga K "BadStep") "index" = true
  a_BadText_index : atxB K (He.ga K "BadText") "index" = true
  a_NoMessage_value : atxB K (He.ga K "NoMessage") "value" = true
  a_NoProcess_value : atxB K (He.ga K "NoProcess") "value" = true
  a_NoRule_value : atxB K (He.ga K "NoRule") "value" = true
  a_NotTogether_one : atxB K (He.ga K "NotTogether") "one" = true
  a_NotTogether_other : atxB K (He.ga K "NotTogether") "other" = true
  a_Refused_index : atxB K (He.ga K "Refused") "index" = true
  a_TooManySteps_limit : atxB K (He.ga K "TooManySteps") "limit" = true
  a_TwoStates_process : atxB K (He.ga K "TwoStates") "process" = true
  isx : isTab K tabL usL tsL = true
  v_MAX_EVENTS : ∃ u, mg "MAX_EVENTS" = some u ∧ L2.RelV (.int 60) u
  v_MAX_MESSAGES : ∃ u, mg "MAX_MESSAGES" = some u ∧ L2.RelV (.int 24) u
  v_MAX_PROCESSES : ∃ u, mg "MAX_PROCESSES" = some u ∧ L2.RelV (.int 6) u
  n_LookupError : mg "LookupError" = none
  n_ValueError : mg "ValueError" = none
  n_abs : mg "abs" = none
  n_isinstance : mg "isinstance" = none
  n_len : mg "len" = none
  n_range : mg "range" = none
  n_repr : mg "repr" = none
theorem c_Refused {P : Program} {w : World} {K : PySem.W.Frag} {mg : PySem.Str → Option Value} {base : Heap} (T : Txt K mg) : ExI P w K mg base (He.ga K "Refused") ["index"] := by
  obtain ⟨fd, hF⟩ := T.x_Refused
  exact exi_ok1 T.e_Refused .ve hF ⟨rfl, rfl, rfl, by decide +kernel, rfl, by decide +kernel, by decide +kernel⟩ rfl rfl rfl (FunD.bindsN hF fun _ _ _ _ _ _ us hl => match us, hl with | [_, _], _ => rfl)
theorem c_BadStep {P : Program} {w : World} {K : PySem.W.Frag} {mg : PySem.Str → Option Value} {base : Heap} (T : Txt K mg) : ExI P w K mg base (He.ga K "BadStep") ["index"] := by
  obtain ⟨fd, hF⟩ := T.x_BadStep
  exact exi_ok1 T.e_BadStep .ve hF ⟨rfl, rfl, rfl, by decide +kernel, rfl, by decide +kernel, by decide +kernel⟩ rfl rfl rfl (FunD.bindsN hF fun _ _ _ _ _ _ us hl => match us, hl with | [_, _], _ => rfl)
theorem c_TooManySteps {P : Program} {w : World} {K : PySem.W.Frag} {mg : PySem.Str → Option Value} {base : Heap} (T : Txt K mg) : ExI P w K mg base (He.ga K "TooManySteps") ["limit"] := by
  obtain ⟨fd, hF⟩ := T.x_TooManySteps
  exact exi_ok1 T.e_TooManySteps .ve hF ⟨rfl, rfl, rfl, by decide +kernel, rfl, by decide +kernel, by decide +kernel⟩ rfl rfl rfl (FunD.bindsN hF fun _ _ _ _ _ _ us hl => match us, hl with | [_, _], _ => rfl)
theorem c_NoRule {P : Program} {w : World} {K : PySem.W.Frag} {mg : PySem.Str → Option Value} {base : Heap} (T : Txt K mg) : ExI P w K mg base (He.ga K "NoRule") ["value"] := by
  obtain ⟨fd, hF⟩ := T.x_NoRule
  exact exi_ok1 T.e_NoRule .ve hF ⟨rfl, rfl, rfl, by decide +kernel, rfl, by decide +kernel, by decide +kernel⟩ rfl rfl rfl (FunD.bindsN hF fun _ _ _ _ _ _ us hl => match us, hl with | [_, _], _ => rfl)
theorem c_TwoStates {P : Program} {w : World} {K : PySem.W.Frag} {mg : PySem.Str → Option Value} {base : Heap} (T : Txt K mg) : ExI P w K mg base (He.ga K "TwoStates") ["process"] := by
  obtain ⟨fd, hF⟩ := T.x_TwoStates
  exact exi_ok1 T.e_TwoStates .ve hF ⟨rfl, rfl, rfl, by decide +kernel, rfl, by decide +kernel, by decide +kernel⟩ rfl rfl rfl (FunD.bindsN hF fun _ _ _ _ _ _ us hl => match us, hl with | [_, _], _ => rfl)
theorem c_BadEvent {P : Program} {w : World} {K : PySem.W.Frag} {mg : PySem.Str → Option Value} {base : Heap} (T : Txt K mg) : ExI P w K mg base (He.ga K "BadEvent") ["event"] := by
  obtain ⟨fd, hF⟩ := T.x_BadEvent
  exact exi_ok1 T.e_BadEvent .ve hF ⟨rfl, rfl, rfl, by decide +kernel, rfl, by decide +kernel, by decide +kernel⟩ rfl rfl rfl (FunD.bindsN hF fun _ _ _ _ _ _ us hl => match us, hl with | [_, _], _ => rfl)
theorem c_NotTogether {P : Program} {w : World} {K : PySem.W.Frag} {mg : PySem.Str → Option Value} {base : Heap} (T : Txt K mg) : ExI P w K mg base (He.ga K "NotTogether") ["other", "one"] := by
  obtain ⟨fd, hF⟩ := T.x_NotTogether
  exact exi_ok2 T.e_NotTogether .ve hF ⟨rfl, rfl, rfl, by decide +kernel, rfl, by decide +kernel, by decide +kernel⟩ rfl rfl rfl rfl (FunD.bindsN hF fun _ _ _ _ _ _ us hl => match us, hl with | [_, _, _], _ => rfl)
theorem c_BadHistory {P : Program} {w : World} {K : PySem.W.Frag} {mg : PySem.Str → Option Value} {base : Heap} (T : Txt K mg) : ExI P w K mg base (He.ga K "BadHistory") ["error"] := by
  obtain ⟨fd, hF⟩ := T.x_BadHistory
  exact exi_ok1 T.e_BadHistory .ve hF ⟨rfl, rfl, rfl, by decide +kernel, rfl, by decide +kernel, by decide +kernel⟩ rfl rfl rfl (FunD.bindsN hF fun _ _ _ _ _ _ us hl => match us, hl with | [_, _], _ => rfl)
theorem c_BadText {P : Program} {w : World} {K : PySem.W.Frag} {mg : PySem.Str → Option Value} {base : Heap} (T : Txt K mg) : ExI P w K mg base (He.ga K "BadText") ["index"] := by
  obtain ⟨fd, hF⟩ := T.x_BadText
  exact exi_ok1 T.e_BadText .ve hF ⟨rfl, rfl, rfl, by decide +kernel, rfl, by decide +kernel, by decide +kernel⟩ rfl rfl rfl (FunD.bindsN hF fun _ _ _ _ _ _ us hl => match us, hl with | [_, _], _ => rfl)
theorem c_BadProcesses {P : Program} {w : World} {K : PySem.W.Frag} {mg : PySem.Str → Option Value} {base : Heap} (T : Txt K mg) : ExI P w K mg base (He.ga K "BadProcesses") ["value"] := by
  obtain ⟨fd, hF⟩ := T.x_BadProcesses
  exact exi_ok1 T.e_BadProcesses .ve hF ⟨rfl, rfl, rfl, by decide +kernel, rfl, by decide +kernel, by decide +kernel⟩ rfl rfl rfl (FunD.bindsN hF fun _ _ _ _ _ _ us hl => match us, hl with | [_, _], _ => rfl)
theorem c_NoMessage {P : Program} {w : World} {K : PySem.W.Frag} {mg : PySem.Str → Option Value} {base : Heap} (T : Txt K mg) : ExI P w K mg base (He.ga K "NoMessage") ["value"] := by
  obtain ⟨fd, hF⟩ := T.x_NoMessage
  exact exi_ok1 T.e_NoMessage .le hF ⟨rfl, rfl, rfl, by decide +kernel, rfl, by decide +kernel, by decide +kernel⟩ rfl rfl rfl (FunD.bindsN hF fun _ _ _ _ _ _ us hl => match us, hl with | [_, _], _ => rfl)
theorem c_NoProcess {P : Program} {w : World} {K : PySem.W.Frag} {mg : PySem.Str → Option Value} {base : Heap} (T : Txt K mg) : ExI P w K mg base (He.ga K "NoProcess") ["value"] := by
  obtain ⟨fd, hF⟩ := T.x_NoProcess
  exact exi_ok1 T.e_NoProcess .le hF ⟨rfl, rfl, rfl, by decide +kernel, rfl, by decide +kernel, by decide +kernel⟩ rfl rfl rfl (FunD.bindsN hF fun _ _ _ _ _ _ us hl => match us, hl with | [_, _], _ => rfl)
noncomputable def m__law_state : SM :=
  seqS (asgS (frzM (lcM (seqI (varM 0)) (nameN 2) (yesB) (callM absD (consM (varM 2) (nilM))) (([("_law_cell", 2)] : List (PySem.Str × Nat)).map (·.2)))) (nameG 1)) (
  retS (stoM (dispM (consM (stoM (lcM (seqI (varM 1)) (nameN 2) (blM (opM geD (varM 2) (opM powD (litM (.int 10)) (litM (.int 18))))) (varM 2) (([("_law_cell", 2)] : List (PySem.Str × Nat)).map (·.2)))) (consM (frzM (op2L catL (varM 1) (frzM (dispM (consM (opM addD (callM lenD (consM (varM 1) (nilM))) (litM (.int 7))) (nilM)))))) (consM (litM (.int 0)) (nilM)))))))
noncomputable def F__law_state : FM := defM 1 3 m__law_state
theorem sc__law_state : FnScope ["_law_script", "_law_cells", "_law_cell"] ["_law_script"] (defScope s__law_state) := ⟨rfl, rfl, rfl, by decide +kernel, rfl, by decide +kernel, by decide +kernel⟩
theorem i__law_state {P : Program} {w : World} {K : PySem.W.Frag} {mg : PySem.Str → Option Value} {base : Heap} (T : Txt K mg) : FnI P w K mg base 1 (He.ga K "_law_state") F__law_state 1 := by
  obtain ⟨fd, hF⟩ := T.f__law_state
  have sc := sc__law_state
  refine ⟨⟨fd, ["_law_script"], fn_def hF sc__law_state rfl fun cdv A outer s H E hr hgu => ?_, FunD.bindsN hF fun _ _ _ _ _ _ us hl => match us, hl with | [_], _ => rfl⟩, hF.kp⟩
  have hu := hr.units
  have hu65 := (show _ + 65 < cLine by have := hr.un; omega : (A.deeper (envOfC "_law_state" (defScope s__law_state) s.heap.objs.size (He.ga K "_law_state") cdv)).units + 65 < cLine)
  have tk : Takes (cxOf (L2.CX P w) P w K mg base ["_law_script", "_law_cells", "_law_cell"] "_law_state" (defScope s__law_state) (He.ga K "_law_state") cdv A outer s H E) (fun c dd _ H => E c dd H) := takes_of rfl rfl rfl rfl
  have hp : PassesOwn (model P w) (A.deeper (envOfC "_law_state" (defScope s__law_state) s.heap.objs.size (He.ga K "_law_state") cdv)) (envOfC "_law_state" (defScope s__law_state) s.heap.objs.size (He.ga K "_law_state") cdv) (cxOf (L2.CX P w) P w K mg base ["_law_script", "_law_cells", "_law_cell"] "_law_state" (defScope s__law_state) (He.ga K "_law_state") cdv A outer s H E).xe := PassesOwn.leaving
  exact (ss_cons (ss_setLcF [("_law_cell", 2)] rfl sc.nd rfl rfl (sw_true rfl rfl rfl rfl) (si_seq (se_var 0)) (blkOk_by (by kernel_rfl)) (fun s H C cl fp => (sgn_name 2 sc.nd rfl (.inl rfl) (by decide))) (fun s H C cl fp => sts_nil) (fun s H C cl fp => (se_call call_absD boot_abs rfl T.n_abs (sa_cons (se_var 2) sa_nil))))
  (ss_one (ss_ret (se_sto (sn_lst (sa_cons (se_sto (sn_lc [("_law_cell", 2)] rfl sc.nd (si_seq (se_var 1)) (blkOk_by (by kernel_rfl)) (fun s H C cl fp => (sgn_name 2 sc.nd rfl (.inl rfl) (by decide))) (fun s H C cl fp => (sts_one (st_cmp op_geD (se_var 2) (se_op op_powD se_int se_int)))) (fun s H C cl fp => (se_var 2)))) (sa_cons (se_frz (sn_op op_catL (se_var 1) (se_frz (sn_lst (sa_cons (se_op op_addD (se_call call_lenD' boot_len rfl T.n_len (sa_cons (se_var 1) sa_nil)) se_int) sa_nil))))) (sa_cons se_int sa_nil))))))))
noncomputable def m__law_same : SM :=
  retS (opM eqD (callM reprD (consM (varM 0) (nilM))) (callM reprD (consM (varM 1) (nilM))))
noncomputable def F__law_same : FM := defM 2 2 m__law_same
theorem sc__law_same : FnScope ["_law_found", "_law_due"] ["_law_found", "_law_due"] (defScope s__law_same) := ⟨rfl, rfl, rfl, by decide +kernel, rfl, by decide +kernel, by decide +kernel⟩
theorem i__law_same {P : Program} {w : World} {K : PySem.W.Frag} {mg : PySem.Str → Option Value} {base : Heap} (T : Txt K mg) : FnI P w K mg base 1 (He.ga K "_law_same") F__law_same 2 := by
  obtain ⟨fd, hF⟩ := T.f__law_same
  have sc := sc__law_same
  refine ⟨⟨fd, ["_law_found", "_law_due"], fn_def hF sc__law_same rfl fun cdv A outer s H E hr hgu => ?_, FunD.bindsN hF fun _ _ _ _ _ _ us hl => match us, hl with | [_, _], _ => rfl⟩, hF.kp⟩
  have hu := hr.units
  have hu65 := (show _ + 65 < cLine by have := hr.un; omega : (A.deeper (envOfC "_law_same" (defScope s__law_same) s.heap.objs.size (He.ga K "_law_same") cdv)).units + 65 < cLine)
  have tk : Takes (cxOf (L2.CX P w) P w K mg base ["_law_found", "_law_due"] "_law_same" (defScope s__law_same) (He.ga K "_law_same") cdv A outer s H E) (fun c dd _ H => E c dd H) := takes_of rfl rfl rfl rfl
  have hp : PassesOwn (model P w) (A.deeper (envOfC "_law_same" (defScope s__law_same) s.heap.objs.size (He.ga K "_law_same") cdv)) (envOfC "_law_same" (defScope s__law_same) s.heap.objs.size (He.ga K "_law_same") cdv) (cxOf (L2.CX P w) P w K mg base ["_law_found", "_law_due"] "_law_same" (defScope s__law_same) (He.ga K "_law_same") cdv A outer s H E).xe := PassesOwn.leaving
  exact (ss_one (ss_ret (se_cmp (op_eqDD hu) (se_call (call_reprD hgu hu) PyProof.Rows.boot_repr rfl T.n_repr (sa_cons (se_var 0) sa_nil)) (se_call (call_reprD hgu hu) PyProof.Rows.boot_repr rfl T.n_repr (sa_cons (se_var 1) sa_nil)))))
noncomputable def m__law_errors : SM :=
  seqS (asgS (frzM (dispM (consM (excM "BadEvent" ["event"] (consM (varM 0) (nilM))) (consM (excM "TwoStates" ["process"] (consM (varM 0) (nilM))) (consM (excM "NoRule" ["value"] (consM (varM 0) (nilM))) (consM (excM "TooManySteps" ["limit"] (consM (varM 0) (nilM))) (consM (excM "BadStep" ["index"] (consM (varM 0) (nilM))) (consM (excM "Refused" ["index"] (consM (varM 0) (nilM))) (nilM))))))))) (nameG 2)) (
  seqS (asgS (frzM (op2L catL (varM 2) (frzM (dispM (consM (excM "BadProcesses" ["value"] (consM (varM 0) (nilM))) (consM (excM "BadText" ["index"] (consM (varM 0) (nilM))) (consM (excM "BadHistory" ["error"] (consM (varM 0) (nilM))) (consM (excM "NotTogether" ["other", "one"] (consM (varM 0) (consM (varM 1) (nilM)))) (consM (litM (.exc "Full" [] [])) (nilM)))))))))) (nameG 2)) (
  retS (frzM (op2L catL (varM 2) (frzM (dispM (consM (litM (.exc "NothingToUndo" [] [])) (consM (excM "NoProcess" ["value"] (consM (varM 0) (nilM))) (consM (excM "NoMessage" ["value"] (consM (varM 0) (nilM))) (nilM))))))))))
noncomputable def F__law_errors : FM := defM 2 3 m__law_errors
theorem sc__law_errors : FnScope ["_law_value", "_law_other", "_law_found"] ["_law_value", "_law_other"] (defScope s__law_errors) := ⟨rfl, rfl, rfl, by decide +kernel, rfl, by decide +kernel, by decide +kernel⟩
theorem i__law_errors {P : Program} {w : World} {K : PySem.W.Frag} {mg : PySem.Str → Option Value} {base : Heap} (T : Txt K mg) : FnI P w K mg base 3 (He.ga K "_law_errors") F__law_errors 2 := by
  obtain ⟨fd, hF⟩ := T.f__law_errors
  have sc := sc__law_errors
  refine ⟨⟨fd, ["_law_value", "_law_other"], fn_def hF sc__law_errors rfl fun cdv A outer s H E hr hgu => ?_, FunD.bindsN hF fun _ _ _ _ _ _ us hl => match us, hl with | [_, _], _ => rfl⟩, hF.kp⟩
  have hu := hr.units
  have hu65 := (show _ + 65 < cLine by have := hr.un; omega : (A.deeper (envOfC "_law_errors" (defScope s__law_errors) s.heap.objs.size (He.ga K "_law_errors") cdv)).units + 65 < cLine)
  have tk : Takes (cxOf (L2.CX P w) P w K mg base ["_law_value", "_law_other", "_law_found"] "_law_errors" (defScope s__law_errors) (He.ga K "_law_errors") cdv A outer s H E) (fun c dd _ H => E c dd H) := takes_of rfl rfl rfl rfl
  have hp : PassesOwn (model P w) (A.deeper (envOfC "_law_errors" (defScope s__law_errors) s.heap.objs.size (He.ga K "_law_errors") cdv)) (envOfC "_law_errors" (defScope s__law_errors) s.heap.objs.size (He.ga K "_law_errors") cdv) (cxOf (L2.CX P w) P w K mg base ["_law_value", "_law_other", "_law_found"] "_law_errors" (defScope s__law_errors) (He.ga K "_law_errors") cdv A outer s H E).xe := PassesOwn.leaving
  exact (ss_cons (ss_asg (se_frz (sn_lst (sa_cons (se_newX (c_BadEvent T) hr (by decide) hgu rfl T.m_BadEvent (sa_cons (se_var 0) sa_nil)) (sa_cons (se_newX (c_TwoStates T) hr (by decide) hgu rfl T.m_TwoStates (sa_cons (se_var 0) sa_nil)) (sa_cons (se_newX (c_NoRule T) hr (by decide) hgu rfl T.m_NoRule (sa_cons (se_var 0) sa_nil)) (sa_cons (se_newX (c_TooManySteps T) hr (by decide) hgu rfl T.m_TooManySteps (sa_cons (se_var 0) sa_nil)) (sa_cons (se_newX (c_BadStep T) hr (by decide) hgu rfl T.m_BadStep (sa_cons (se_var 0) sa_nil)) (sa_cons (se_newX (c_Refused T) hr (by decide) hgu rfl T.m_Refused (sa_cons (se_var 0) sa_nil)) sa_nil)))))))) (sg_name 2 sc.nd rfl (by first | exact .inl rfl | exact .inr rfl)))
  (ss_cons (ss_asg (se_frz (sn_op op_catL (se_var 2) (se_frz (sn_lst (sa_cons (se_newX (c_BadProcesses T) hr (by decide) hgu rfl T.m_BadProcesses (sa_cons (se_var 0) sa_nil)) (sa_cons (se_newX (c_BadText T) hr (by decide) hgu rfl T.m_BadText (sa_cons (se_var 0) sa_nil)) (sa_cons (se_newX (c_BadHistory T) hr (by decide) hgu rfl T.m_BadHistory (sa_cons (se_var 0) sa_nil)) (sa_cons (se_newX (c_NotTogether T) hr (by decide) hgu rfl T.m_NotTogether (sa_cons (se_var 0) (sa_cons (se_var 1) sa_nil))) (sa_cons (se_newX0 .ve (ex0B_ok T.e_Full).1 (ex0B_ok T.e_Full).2 rfl T.m_Full) sa_nil))))))))) (sg_name 2 sc.nd rfl (by first | exact .inl rfl | exact .inr rfl)))
  (ss_one (ss_ret (se_frz (sn_op op_catL (se_var 2) (se_frz (sn_lst (sa_cons (se_newX0 .ve (ex0B_ok T.e_NothingToUndo).1 (ex0B_ok T.e_NothingToUndo).2 rfl T.m_NothingToUndo) (sa_cons (se_newX (c_NoProcess T) hr (by decide) hgu rfl T.m_NoProcess (sa_cons (se_var 0) sa_nil)) (sa_cons (se_newX (c_NoMessage T) hr (by decide) hgu rfl T.m_NoMessage (sa_cons (se_var 0) sa_nil)) sa_nil)))))))))))
noncomputable def m__law_draw : SM :=
  seqS (whileS (blM (opM neD (opM ixD (varM 0) (litM (.int 0))) (frzM (dispM (nilM))))) (seqS (asgS (opM ixD (opM ixD (varM 0) (litM (.int 0))) (litM (.int 0))) (nameG 4)) (
  seqS (ifS (blM (opM gtD (varM 4) (litM (.int 0)))) (seqS (asgS (opM fdivD (varM 4) (varM 1)) (subG (opM ixD (varM 0) (litM (.int 0))) (litM (.int 0)))) (
  retS (opM modD (varM 4) (varM 1)))) (passS)) (
  exprS (methM "list" popG (opM ixD (varM 0) (litM (.int 0))) (consM (litM (.int 0)) (nilM))))))) (
  seqS (asgS (opM addD (opM ixD (varM 0) (litM (.int 2))) (litM (.int 1))) (subG (varM 0) (litM (.int 2)))) (
  seqS (asgS (opM modD (opM ixD (opM ixD (varM 0) (litM (.int 1))) (opM modD (opM ixD (varM 0) (litM (.int 2))) (callM lenD (consM (opM ixD (varM 0) (litM (.int 1))) (nilM))))) (litM (.int 2147483629))) (nameG 2)) (
  seqS (asgS (opM addD (opM mulD (varM 2) (opM addD (litM (.int 69621)) (opM mulD (litM (.int 2)) (opM ixD (varM 0) (litM (.int 2)))))) (litM (.int 30011))) (nameG 3)) (
  seqS (asgS (opM modD (opM addD (varM 3) (opM mulD (opM mulD (litM (.int 48271)) (opM ixD (varM 0) (litM (.int 2)))) (opM ixD (varM 0) (litM (.int 2))))) (litM (.int 2147483587))) (nameG 3)) (
  retS (opM modD (opM fdivD (opM modD (opM mulD (varM 3) (varM 3)) (litM (.int 2147483563))) (litM (.int 16))) (varM 1)))))))
noncomputable def F__law_draw : FM := defM 2 5 m__law_draw
theorem sc__law_draw : FnScope ["_law_state_here", "_law_below", "_law_cell", "_law_mixed", "_law_rest"] ["_law_state_here", "_law_below"] (defScope s__law_draw) := ⟨rfl, rfl, rfl, by decide +kernel, rfl, by decide +kernel, by decide +kernel⟩
theorem i__law_draw {P : Program} {w : World} {K : PySem.W.Frag} {mg : PySem.Str → Option Value} {base : Heap} (T : Txt K mg) : FnI P w K mg base 1 (He.ga K "_law_draw") F__law_draw 2 := by
  obtain ⟨fd, hF⟩ := T.f__law_draw
  have sc := sc__law_draw
  refine ⟨⟨fd, ["_law_state_here", "_law_below"], fn_def hF sc__law_draw rfl fun cdv A outer s H E hr hgu => ?_, FunD.bindsN hF fun _ _ _ _ _ _ us hl => match us, hl with | [_, _], _ => rfl⟩, hF.kp⟩
  have hu := hr.units
  have hu65 := (show _ + 65 < cLine by have := hr.un; omega : (A.deeper (envOfC "_law_draw" (defScope s__law_draw) s.heap.objs.size (He.ga K "_law_draw") cdv)).units + 65 < cLine)
  have tk : Takes (cxOf (L2.CX P w) P w K mg base ["_law_state_here", "_law_below", "_law_cell", "_law_mixed", "_law_rest"] "_law_draw" (defScope s__law_draw) (He.ga K "_law_draw") cdv A outer s H E) (fun c dd _ H => E c dd H) := takes_of rfl rfl rfl rfl
  have hp : PassesOwn (model P w) (A.deeper (envOfC "_law_draw" (defScope s__law_draw) s.heap.objs.size (He.ga K "_law_draw") cdv)) (envOfC "_law_draw" (defScope s__law_draw) s.heap.objs.size (He.ga K "_law_draw") cdv) (cxOf (L2.CX P w) P w K mg base ["_law_state_here", "_law_below", "_law_cell", "_law_mixed", "_law_rest"] "_law_draw" (defScope s__law_draw) (He.ga K "_law_draw") cdv A outer s H E).xe := PassesOwn.leaving
  exact (ss_cons (ss_while hp (st_cmp (op_neDD hu) (se_ix hu (se_var 0) se_int) (se_frz (sn_lst sa_nil))) (ss_cons (ss_asg (se_ix hu (se_ix hu (se_var 0) se_int) se_int) (sg_name 4 sc.nd rfl (by first | exact .inl rfl | exact .inr rfl)))
  (ss_cons (ss_if (st_cmp op_gtD (se_var 4) se_int) (ss_cons (ss_asg (se_op op_fdivD (se_var 4) (se_var 1)) (sg_sub hu (se_ix hu (se_var 0) se_int) se_int))
  (ss_one (ss_ret (se_op op_modD (se_var 4) (se_var 1))))) ss_nil)
  (ss_one (ss_expr (se_meth PySem.F.plainAttrs_list PySem.F.slot_list_pop PySem.F.type_list_pop (by simp) mt_popD (se_ix hu (se_var 0) se_int) (sa_cons se_int sa_nil)))))))
  (ss_cons (ss_asg (se_op op_addD (se_ix hu (se_var 0) se_int) se_int) (sg_sub hu (se_var 0) se_int))
  (ss_cons (ss_asg (se_op op_modD (se_ix hu (se_ix hu (se_var 0) se_int) (se_op op_modD (se_ix hu (se_var 0) se_int) (se_call call_lenD' boot_len rfl T.n_len (sa_cons (se_ix hu (se_var 0) se_int) sa_nil)))) se_int) (sg_name 2 sc.nd rfl (by first | exact .inl rfl | exact .inr rfl)))
  (ss_cons (ss_asg (se_op op_addD (se_op op_mulD (se_var 2) (se_op op_addD se_int (se_op op_mulD se_int (se_ix hu (se_var 0) se_int)))) se_int) (sg_name 3 sc.nd rfl (by first | exact .inl rfl | exact .inr rfl)))
  (ss_cons (ss_asg (se_op op_modD (se_op op_addD (se_var 3) (se_op op_mulD (se_op op_mulD se_int (se_ix hu (se_var 0) se_int)) (se_ix hu (se_var 0) se_int))) se_int) (sg_name 3 sc.nd rfl (by first | exact .inl rfl | exact .inr rfl)))
  (ss_one (ss_ret (se_op op_modD (se_op op_fdivD (se_op op_modD (se_op op_mulD (se_var 3) (se_var 3)) se_int) se_int) (se_var 1)))))))))
noncomputable def m__law_odd : SM :=
  seqS (asgS (frzM (dispM (consM (litM .non) (consM (litM (.bl true)) (consM (litM (.bl false)) (consM (unM negD (litM (.int 1))) (consM (litM (.int 0)) (consM (litM (.int 1)) (consM (litM (.int 2)) (consM (litM (.int 6)) (consM (litM (.int 24)) (consM (litM (.int 25)) (consM (unM negD (litM (.int 25))) (consM (opM powD (litM (.int 10)) (litM (.int 29))) (consM (litM (.str "")) (consM (litM (.str "0")) (consM (litM (.str "+1")) (consM (tupM (nilM)) (consM (frzM (dispM (nilM))) (consM (frzD (nilD)) (consM (tupM (consM (litM (.int 0)) (nilM))) (consM (frzM (dispM (consM (litM (.int 0)) (nilM)))) (consM (tupM (consM (tupM (nilM)) (nilM))) (nilM)))))))))))))))))))))))) (nameG 1)) (
  retS (opM ixD (frzM (op2L catL (varM 1) (frzM (dispM (consM (tupM (consM (litM (.int 0)) (consM (litM (.int 0)) (nilM)))) (consM (tupM (consM (litM (.int 0)) (consM (litM (.int 1)) (nilM)))) (consM (frzD (dispD [(litM (.str "a"), litM (.int 1))])) (nilM)))))))) (fnM 2 F__law_draw (consM (varM 0) (consM (litM (.int 24)) (nilM))))))
noncomputable def F__law_odd : FM := defM 1 2 m__law_odd
theorem sc__law_odd : FnScope ["_law_state_here", "_law_some"] ["_law_state_here"] (defScope s__law_odd) := ⟨rfl, rfl, rfl, by decide +kernel, rfl, by decide +kernel, by decide +kernel⟩
theorem i__law_odd {P : Program} {w : World} {K : PySem.W.Frag} {mg : PySem.Str → Option Value} {base : Heap} (T : Txt K mg) : FnI P w K mg base 2 (He.ga K "_law_odd") F__law_odd 1 := by
  obtain ⟨fd, hF⟩ := T.f__law_odd
  have sc := sc__law_odd
  refine ⟨⟨fd, ["_law_state_here"], fn_def hF sc__law_odd rfl fun cdv A outer s H E hr hgu => ?_, FunD.bindsN hF fun _ _ _ _ _ _ us hl => match us, hl with | [_], _ => rfl⟩, hF.kp⟩
  have hu := hr.units
  have hu65 := (show _ + 65 < cLine by have := hr.un; omega : (A.deeper (envOfC "_law_odd" (defScope s__law_odd) s.heap.objs.size (He.ga K "_law_odd") cdv)).units + 65 < cLine)
  have tk : Takes (cxOf (L2.CX P w) P w K mg base ["_law_state_here", "_law_some"] "_law_odd" (defScope s__law_odd) (He.ga K "_law_odd") cdv A outer s H E) (fun c dd _ H => E c dd H) := takes_of rfl rfl rfl rfl
  have hp : PassesOwn (model P w) (A.deeper (envOfC "_law_odd" (defScope s__law_odd) s.heap.objs.size (He.ga K "_law_odd") cdv)) (envOfC "_law_odd" (defScope s__law_odd) s.heap.objs.size (He.ga K "_law_odd") cdv) (cxOf (L2.CX P w) P w K mg base ["_law_state_here", "_law_some"] "_law_odd" (defScope s__law_odd) (He.ga K "_law_odd") cdv A outer s H E).xe := PassesOwn.leaving
  exact (ss_cons (ss_asg (se_frz (sn_lst (sa_cons se_non (sa_cons se_bl (sa_cons se_bl (sa_cons (se_un un_negD se_int) (sa_cons se_int (sa_cons se_int (sa_cons se_int (sa_cons se_int (sa_cons se_int (sa_cons se_int (sa_cons (se_un un_negD se_int) (sa_cons (se_op op_powD se_int se_int) (sa_cons se_str (sa_cons se_str (sa_cons se_str (sa_cons (se_tup sa_nil) (sa_cons (se_frz (sn_lst sa_nil)) (sa_cons (se_frzD sd_nil) (sa_cons (se_tup (sa_cons se_int sa_nil)) (sa_cons (se_frz (sn_lst (sa_cons se_int sa_nil))) (sa_cons (se_tup (sa_cons (se_tup sa_nil) sa_nil)) sa_nil))))))))))))))))))))))) (sg_name 1 sc.nd rfl (by first | exact .inl rfl | exact .inr rfl)))
  (ss_one (ss_ret (se_ix hu (se_frz (sn_op op_catL (se_var 1) (se_frz (sn_lst (sa_cons (se_tup (sa_cons se_int (sa_cons se_int sa_nil))) (sa_cons (se_tup (sa_cons se_int (sa_cons se_int sa_nil))) (sa_cons (se_frzD (sd_disp (sps_cons se_str se_int sps_nil))) sa_nil))))))) (se_fn (i__law_draw T) hr (by decide) hgu tk T.m__law_draw rfl (sa_cons (se_var 0) (sa_cons se_int sa_nil)))))))
noncomputable def m__law_flags : SM :=
  seqS (asgS (frzM (dispM (consM (callM (orG isiD (isxD subL)) (consM (varM 0) (consM (litM (.cls "BadEvent")) (nilM)))) (consM (callM (orG isiD (isxD subL)) (consM (varM 0) (consM (litM (.cls "TwoStates")) (nilM)))) (consM (callM (orG isiD (isxD subL)) (consM (varM 0) (consM (litM (.cls "NoRule")) (nilM)))) (consM (callM (orG isiD (isxD subL)) (consM (varM 0) (consM (litM (.cls "TooManySteps")) (nilM)))) (nilM))))))) (nameG 1)) (
  seqS (asgS (frzM (op2L catL (varM 1) (frzM (dispM (consM (callM (orG isiD (isxD subL)) (consM (varM 0) (consM (litM (.cls "BadStep")) (nilM)))) (consM (callM (orG isiD (isxD subL)) (consM (varM 0) (consM (litM (.cls "Refused")) (nilM)))) (consM (callM (orG isiD (isxD subL)) (consM (varM 0) (consM (litM (.cls "BadProcesses")) (nilM)))) (nilM)))))))) (nameG 1)) (
  seqS (asgS (frzM (op2L catL (varM 1) (frzM (dispM (consM (callM (orG isiD (isxD subL)) (consM (varM 0) (consM (litM (.cls "BadText")) (nilM)))) (consM (callM (orG isiD (isxD subL)) (consM (varM 0) (consM (litM (.cls "BadHistory")) (nilM)))) (consM (callM (orG isiD (isxD subL)) (consM (varM 0) (consM (litM (.cls "NotTogether")) (nilM)))) (nilM)))))))) (nameG 1)) (
  seqS (asgS (frzM (op2L catL (varM 1) (frzM (dispM (consM (callM (orG isiD (isxD subL)) (consM (varM 0) (consM (litM (.cls "Full")) (nilM)))) (consM (callM (orG isiD (isxD subL)) (consM (varM 0) (consM (litM (.cls "NothingToUndo")) (nilM)))) (nilM))))))) (nameG 1)) (
  retS (frzM (op2L catL (varM 1) (frzM (dispM (consM (callM (orG isiD (isxD subL)) (consM (varM 0) (consM (litM (.cls "NoProcess")) (nilM)))) (consM (callM (orG isiD (isxD subL)) (consM (varM 0) (consM (litM (.cls "NoMessage")) (nilM)))) (nilM)))))))))))
noncomputable def F__law_flags : FM := defM 1 2 m__law_flags
theorem sc__law_flags : FnScope ["_law_e", "_law_found"] ["_law_e"] (defScope s__law_flags) := ⟨rfl, rfl, rfl, by decide +kernel, rfl, by decide +kernel, by decide +kernel⟩
theorem i__law_flags {P : Program} {w : World} {K : PySem.W.Frag} {mg : PySem.Str → Option Value} {base : Heap} (T : Txt K mg) : FnI P w K mg base 1 (He.ga K "_law_flags") F__law_flags 1 := by
  obtain ⟨fd, hF⟩ := T.f__law_flags
  have sc := sc__law_flags
  refine ⟨⟨fd, ["_law_e"], fn_def hF sc__law_flags rfl fun cdv A outer s H E hr hgu => ?_, FunD.bindsN hF fun _ _ _ _ _ _ us hl => match us, hl with | [_], _ => rfl⟩, hF.kp⟩
  have hu := hr.units
  have hu65 := (show _ + 65 < cLine by have := hr.un; omega : (A.deeper (envOfC "_law_flags" (defScope s__law_flags) s.heap.objs.size (He.ga K "_law_flags") cdv)).units + 65 < cLine)
  have tk : Takes (cxOf (L2.CX P w) P w K mg base ["_law_e", "_law_found"] "_law_flags" (defScope s__law_flags) (He.ga K "_law_flags") cdv A outer s H E) (fun c dd _ H => E c dd H) := takes_of rfl rfl rfl rfl
  have hp : PassesOwn (model P w) (A.deeper (envOfC "_law_flags" (defScope s__law_flags) s.heap.objs.size (He.ga K "_law_flags") cdv)) (envOfC "_law_flags" (defScope s__law_flags) s.heap.objs.size (He.ga K "_law_flags") cdv) (cxOf (L2.CX P w) P w K mg base ["_law_e", "_law_found"] "_law_flags" (defScope s__law_flags) (He.ga K "_law_flags") cdv A outer s H E).xe := PassesOwn.leaving
  exact (ss_cons (ss_asg (se_frz (sn_lst (sa_cons (se_call (call_isiD.or (call_isxD (isTab_ok T.isx))) boot_isinstance rfl T.n_isinstance (sa_cons (se_var 0) (sa_cons (se_cls rfl T.m_BadEvent) sa_nil))) (sa_cons (se_call (call_isiD.or (call_isxD (isTab_ok T.isx))) boot_isinstance rfl T.n_isinstance (sa_cons (se_var 0) (sa_cons (se_cls rfl T.m_TwoStates) sa_nil))) (sa_cons (se_call (call_isiD.or (call_isxD (isTab_ok T.isx))) boot_isinstance rfl T.n_isinstance (sa_cons (se_var 0) (sa_cons (se_cls rfl T.m_NoRule) sa_nil))) (sa_cons (se_call (call_isiD.or (call_isxD (isTab_ok T.isx))) boot_isinstance rfl T.n_isinstance (sa_cons (se_var 0) (sa_cons (se_cls rfl T.m_TooManySteps) sa_nil))) sa_nil)))))) (sg_name 1 sc.nd rfl (by first | exact .inl rfl | exact .inr rfl)))
  (ss_cons (ss_asg (se_frz (sn_op op_catL (se_var 1) (se_frz (sn_lst (sa_cons (se_call (call_isiD.or (call_isxD (isTab_ok T.isx))) boot_isinstance rfl T.n_isinstance (sa_cons (se_var 0) (sa_cons (se_cls rfl T.m_BadStep) sa_nil))) (sa_cons (se_call (call_isiD.or (call_isxD (isTab_ok T.isx))) boot_isinstance rfl T.n_isinstance (sa_cons (se_var 0) (sa_cons (se_cls rfl T.m_Refused) sa_nil))) (sa_cons (se_call (call_isiD.or (call_isxD (isTab_ok T.isx))) boot_isinstance rfl T.n_isinstance (sa_cons (se_var 0) (sa_cons (se_cls rfl T.m_BadProcesses) sa_nil))) sa_nil))))))) (sg_name 1 sc.nd rfl (by first | exact .inl rfl | exact .inr rfl)))
  (ss_cons (ss_asg (se_frz (sn_op op_catL (se_var 1) (se_frz (sn_lst (sa_cons (se_call (call_isiD.or (call_isxD (isTab_ok T.isx))) boot_isinstance rfl T.n_isinstance (sa_cons (se_var 0) (sa_cons (se_cls rfl T.m_BadText) sa_nil))) (sa_cons (se_call (call_isiD.or (call_isxD (isTab_ok T.isx))) boot_isinstance rfl T.n_isinstance (sa_cons (se_var 0) (sa_cons (se_cls rfl T.m_BadHistory) sa_nil))) (sa_cons (se_call (call_isiD.or (call_isxD (isTab_ok T.isx))) boot_isinstance rfl T.n_isinstance (sa_cons (se_var 0) (sa_cons (se_cls rfl T.m_NotTogether) sa_nil))) sa_nil))))))) (sg_name 1 sc.nd rfl (by first | exact .inl rfl | exact .inr rfl)))
  (ss_cons (ss_asg (se_frz (sn_op op_catL (se_var 1) (se_frz (sn_lst (sa_cons (se_call (call_isiD.or (call_isxD (isTab_ok T.isx))) boot_isinstance rfl T.n_isinstance (sa_cons (se_var 0) (sa_cons (se_cls rfl T.m_Full) sa_nil))) (sa_cons (se_call (call_isiD.or (call_isxD (isTab_ok T.isx))) boot_isinstance rfl T.n_isinstance (sa_cons (se_var 0) (sa_cons (se_cls rfl T.m_NothingToUndo) sa_nil))) sa_nil)))))) (sg_name 1 sc.nd rfl (by first | exact .inl rfl | exact .inr rfl)))
  (ss_one (ss_ret (se_frz (sn_op op_catL (se_var 1) (se_frz (sn_lst (sa_cons (se_call (call_isiD.or (call_isxD (isTab_ok T.isx))) boot_isinstance rfl T.n_isinstance (sa_cons (se_var 0) (sa_cons (se_cls rfl T.m_NoProcess) sa_nil))) (sa_cons (se_call (call_isiD.or (call_isxD (isTab_ok T.isx))) boot_isinstance rfl T.n_isinstance (sa_cons (se_var 0) (sa_cons (se_cls rfl T.m_NoMessage) sa_nil))) sa_nil))))))))))))
noncomputable def m__law_fields : SM :=
  seqS (asgS (frzM (dispM (consM (xfM ["BadEvent"] "event" (excM "BadEvent" ["event"] (consM (varM 0) (nilM)))) (consM (xfM ["TwoStates"] "process" (excM "TwoStates" ["process"] (consM (varM 0) (nilM)))) (consM (xfM ["NoRule"] "value" (excM "NoRule" ["value"] (consM (varM 0) (nilM)))) (consM (xfM ["TooManySteps"] "limit" (excM "TooManySteps" ["limit"] (consM (varM 0) (nilM)))) (nilM))))))) (nameG 2)) (
  seqS (asgS (frzM (op2L catL (varM 2) (frzM (dispM (consM (xfM ["BadStep"] "index" (excM "BadStep" ["index"] (consM (varM 0) (nilM)))) (consM (xfM ["Refused"] "index" (excM "Refused" ["index"] (consM (varM 0) (nilM)))) (consM (xfM ["BadProcesses"] "value" (excM "BadProcesses" ["value"] (consM (varM 0) (nilM)))) (consM (xfM ["BadText"] "index" (excM "BadText" ["index"] (consM (varM 0) (nilM)))) (nilM))))))))) (nameG 2)) (
  seqS (asgS (frzM (op2L catL (varM 2) (frzM (dispM (consM (xfM ["BadHistory"] "error" (excM "BadHistory" ["error"] (consM (varM 0) (nilM)))) (consM (xfM ["NotTogether"] "one" (excM "NotTogether" ["other", "one"] (consM (varM 0) (consM (varM 1) (nilM))))) (consM (xfM ["NoProcess"] "value" (excM "NoProcess" ["value"] (consM (varM 0) (nilM)))) (nilM)))))))) (nameG 2)) (
  retS (frzM (op2L catL (varM 2) (frzM (dispM (consM (xfM ["NoMessage"] "value" (excM "NoMessage" ["value"] (consM (varM 0) (nilM)))) (nilM)))))))))
noncomputable def F__law_fields : FM := defM 2 3 m__law_fields
theorem sc__law_fields : FnScope ["_law_value", "_law_other", "_law_found"] ["_law_value", "_law_other"] (defScope s__law_fields) := ⟨rfl, rfl, rfl, by decide +kernel, rfl, by decide +kernel, by decide +kernel⟩
theorem i__law_fields {P : Program} {w : World} {K : PySem.W.Frag} {mg : PySem.Str → Option Value} {base : Heap} (T : Txt K mg) : FnI P w K mg base 3 (He.ga K "_law_fields") F__law_fields 2 := by
  obtain ⟨fd, hF⟩ := T.f__law_fields
  have sc := sc__law_fields
  refine ⟨⟨fd, ["_law_value", "_law_other"], fn_def hF sc__law_fields rfl fun cdv A outer s H E hr hgu => ?_, FunD.bindsN hF fun _ _ _ _ _ _ us hl => match us, hl with | [_, _], _ => rfl⟩, hF.kp⟩
  have hu := hr.units
  have hu65 := (show _ + 65 < cLine by have := hr.un; omega : (A.deeper (envOfC "_law_fields" (defScope s__law_fields) s.heap.objs.size (He.ga K "_law_fields") cdv)).units + 65 < cLine)
  have tk : Takes (cxOf (L2.CX P w) P w K mg base ["_law_value", "_law_other", "_law_found"] "_law_fields" (defScope s__law_fields) (He.ga K "_law_fields") cdv A outer s H E) (fun c dd _ H => E c dd H) := takes_of rfl rfl rfl rfl
  have hp : PassesOwn (model P w) (A.deeper (envOfC "_law_fields" (defScope s__law_fields) s.heap.objs.size (He.ga K "_law_fields") cdv)) (envOfC "_law_fields" (defScope s__law_fields) s.heap.objs.size (He.ga K "_law_fields") cdv) (cxOf (L2.CX P w) P w K mg base ["_law_value", "_law_other", "_law_found"] "_law_fields" (defScope s__law_fields) (He.ga K "_law_fields") cdv A outer s H E).xe := PassesOwn.leaving
  exact (ss_cons (ss_asg (se_frz (sn_lst (sa_cons (se_xf (cs := ["BadEvent"]) (fun c hc => by simp only [List.mem_cons, List.not_mem_nil, or_false] at hc; subst hc; exact T.a_BadEvent_event) (se_newX (c_BadEvent T) hr (by decide) hgu rfl T.m_BadEvent (sa_cons (se_var 0) sa_nil))) (sa_cons (se_xf (cs := ["TwoStates"]) (fun c hc => by simp only [List.mem_cons, List.not_mem_nil, or_false] at hc; subst hc; exact T.a_TwoStates_process) (se_newX (c_TwoStates T) hr (by decide) hgu rfl T.m_TwoStates (sa_cons (se_var 0) sa_nil))) (sa_cons (se_xf (cs := ["NoRule"]) (fun c hc => by simp only [List.mem_cons, List.not_mem_nil, or_false] at hc; subst hc; exact T.a_NoRule_value) (se_newX (c_NoRule T) hr (by decide) hgu rfl T.m_NoRule (sa_cons (se_var 0) sa_nil))) (sa_cons (se_xf (cs := ["TooManySteps"]) (fun c hc => by simp only [List.mem_cons, List.not_mem_nil, or_false] at hc; subst hc; exact T.a_TooManySteps_limit) (se_newX (c_TooManySteps T) hr (by decide) hgu rfl T.m_TooManySteps (sa_cons (se_var 0) sa_nil))) sa_nil)))))) (sg_name 2 sc.nd rfl (by first | exact .inl rfl | exact .inr rfl)))
  (ss_cons (ss_asg (se_frz (sn_op op_catL (se_var 2) (se_frz (sn_lst (sa_cons (se_xf (cs := ["BadStep"]) (fun c hc => by simp only [List.mem_cons, List.not_mem_nil, or_false] at hc; subst hc; exact T.a_BadStep_index) (se_newX (c_BadStep T) hr (by decide) hgu rfl T.m_BadStep (sa_cons (se_var 0) sa_nil))) (sa_cons (se_xf (cs := ["Refused"]) (fun c hc => by simp only [List.mem_cons, List.not_mem_nil, or_false] at hc; subst hc; exact T.a_Refused_index) (se_newX (c_Refused T) hr (by decide) hgu rfl T.m_Refused (sa_cons (se_var 0) sa_nil))) (sa_cons (se_xf (cs := ["BadProcesses"]) (fun c hc => by simp only [List.mem_cons, List.not_mem_nil, or_false] at hc; subst hc; exact T.a_BadProcesses_value) (se_newX (c_BadProcesses T) hr (by decide) hgu rfl T.m_BadProcesses (sa_cons (se_var 0) sa_nil))) (sa_cons (se_xf (cs := ["BadText"]) (fun c hc => by simp only [List.mem_cons, List.not_mem_nil, or_false] at hc; subst hc; exact T.a_BadText_index) (se_newX (c_BadText T) hr (by decide) hgu rfl T.m_BadText (sa_cons (se_var 0) sa_nil))) sa_nil)))))))) (sg_name 2 sc.nd rfl (by first | exact .inl rfl | exact .inr rfl)))
  (ss_cons (ss_asg (se_frz (sn_op op_catL (se_var 2) (se_frz (sn_lst (sa_cons (se_xf (cs := ["BadHistory"]) (fun c hc => by simp only [List.mem_cons, List.not_mem_nil, or_false] at hc; subst hc; exact T.a_BadHistory_error) (se_newX (c_BadHistory T) hr (by decide) hgu rfl T.m_BadHistory (sa_cons (se_var 0) sa_nil))) (sa_cons (se_xf (cs := ["NotTogether"]) (fun c hc => by simp only [List.mem_cons, List.not_mem_nil, or_false] at hc; subst hc; exact T.a_NotTogether_one) (se_newX (c_NotTogether T) hr (by decide) hgu rfl T.m_NotTogether (sa_cons (se_var 0) (sa_cons (se_var 1) sa_nil)))) (sa_cons (se_xf (cs := ["NoProcess"]) (fun c hc => by simp only [List.mem_cons, List.not_mem_nil, or_false] at hc; subst hc; exact T.a_NoProcess_value) (se_newX (c_NoProcess T) hr (by decide) hgu rfl T.m_NoProcess (sa_cons (se_var 0) sa_nil))) sa_nil))))))) (sg_name 2 sc.nd rfl (by first | exact .inl rfl | exact .inr rfl)))
  (ss_one (ss_ret (se_frz (sn_op op_catL (se_var 2) (se_frz (sn_lst (sa_cons (se_xf (cs := ["NoMessage"]) (fun c hc => by simp only [List.mem_cons, List.not_mem_nil, or_false] at hc; subst hc; exact T.a_NoMessage_value) (se_newX (c_NoMessage T) hr (by decide) hgu rfl T.m_NoMessage (sa_cons (se_var 0) sa_nil))) sa_nil))))))))))
noncomputable def m_law : SM :=
  seqS (asgS (fnM 1 F__law_state (consM (varM 0) (nilM))) (nameG 1)) (
  seqS (forS (rngI1 (consM (litM (.int 4)) (nilM))) (nameG 2) (seqS (asgS (tupM (consM (fnM 1 F__law_odd (consM (varM 1) (nilM))) (consM (fnM 1 F__law_odd (consM (varM 1) (nilM))) (nilM)))) (tupG 2 (gsCons (nameG 5) (gsCons (nameG 6) (gsNil))))) (
  seqS (asgS (fnM 2 F__law_errors (consM (varM 5) (consM (varM 6) (nilM)))) (nameG 3)) (
  seqS (forS (rngI1 (consM (litM (.int 14)) (nilM))) (nameG 4) (seqS (asgS (stoM (dispM (consM (callM (orG isiD (isxD subL)) (consM (opM ixD (varM 3) (varM 4)) (consM (litM (.cls "LineError")) (nilM)))) (consM (callM (orG isiD (isxD subL)) (consM (opM ixD (varM 3) (varM 4)) (consM (litM (.ty "ValueError")) (nilM)))) (nilM))))) (nameG 7)) (
  seqS (exprS (methM "list" appendG (varM 7) (consM (callM (orG isiD (isxD subL)) (consM (opM ixD (varM 3) (varM 4)) (consM (litM (.ty "LookupError")) (nilM)))) (nilM)))) (
  ifS (orB (blM (opM neD (fnM 1 F__law_flags (consM (opM ixD (varM 3) (varM 4)) (nilM))) (frzM (lcM (rngI1 (consM (litM (.int 14)) (nilM))) (nameN 9) (yesB) (opM eqD (varM 9) (varM 4)) (([("_law_j", 9)] : List (PySem.Str × Nat)).map (·.2)))))) (blM (opM neD (varM 7) (frzM (dispM (consM (opM ltD (varM 4) (litM (.int 12))) (consM (opM ltD (varM 4) (litM (.int 12))) (consM (opM geD (varM 4) (litM (.int 12))) (nilM))))))))) (retS (litM (.bl false))) (passS))))) (
  seqS (ifS (blM (opM neD (frzM (lcM (seqI (fnM 2 F__law_fields (consM (varM 5) (consM (varM 6) (nilM))))) (nameN 8) (notB (truM (fnM 2 F__law_same (consM (varM 8) (consM (varM 5) (nilM)))))) (varM 8) (([("_law_field", 8)] : List (PySem.Str × Nat)).map (·.2)))) (frzM (dispM (nilM))))) (retS (litM (.bl false))) (passS)) (
  ifS (notB (truM (fnM 2 F__law_same (consM (xfM ["NotTogether"] "other" (excM "NotTogether" ["other", "one"] (consM (varM 5) (consM (varM 6) (nilM))))) (consM (varM 6) (nilM)))))) (retS (litM (.bl false))) (passS))))))) (
  retS (fnM 2 F__law_same (consM (frzM (dispM (consM (litM (.int 6)) (consM (litM (.int 24)) (consM (litM (.int 60)) (nilM)))))) (consM (frzM (dispM (consM (litM (.int 6)) (consM (litM (.int 24)) (consM (litM (.int 60)) (nilM)))))) (nilM))))))
noncomputable def F_law : FM := defM 1 10 m_law
theorem sc_law : FnScope ["_law_script", "_law_state_here", "_law_turn", "_law_errors_here", "_law_k", "_law_value", "_law_other", "_law_bases", "_law_field", "_law_j"] ["_law_script"] (defScope s_law) := ⟨rfl, rfl, rfl, by decide +kernel, rfl, by decide +kernel, by decide +kernel⟩
theorem g_law {P : Program} {w : World} {K : PySem.W.Frag} {mg : PySem.Str → Option Value} {base : Heap} {fd : FuncData} (T : Txt K mg) (hF : FunD K "law" "law" (defArgs s_law) (defBody s_law) (defScope s_law) [] [] (He.ga K "law") fd) : FnG P w K mg base 4 (He.ga K "law") fd ["_law_script"] (FnS K F_law 1) := by
  have sc := sc_law
  refine fn_def hF sc_law rfl fun cdv A outer s H E hr hgu => ?_
  have hu := hr.units
  have hu65 := (show _ + 65 < cLine by have := hr.un; omega : (A.deeper (envOfC "law" (defScope s_law) s.heap.objs.size (He.ga K "law") cdv)).units + 65 < cLine)
  have tk : Takes (cxOf (L2.CX P w) P w K mg base ["_law_script", "_law_state_here", "_law_turn", "_law_errors_here", "_law_k", "_law_value", "_law_other", "_law_bases", "_law_field", "_law_j"] "law" (defScope s_law) (He.ga K "law") cdv A outer s H E) (fun c dd _ H => E c dd H) := takes_of rfl rfl rfl rfl
  have hp : PassesOwn (model P w) (A.deeper (envOfC "law" (defScope s_law) s.heap.objs.size (He.ga K "law") cdv)) (envOfC "law" (defScope s_law) s.heap.objs.size (He.ga K "law") cdv) (cxOf (L2.CX P w) P w K mg base ["_law_script", "_law_state_here", "_law_turn", "_law_errors_here", "_law_k", "_law_value", "_law_other", "_law_bases", "_law_field", "_law_j"] "law" (defScope s_law) (He.ga K "law") cdv A outer s H E).xe := PassesOwn.leaving
  exact (ss_cons (ss_asg (se_fn (i__law_state T) hr (by decide) hgu tk T.m__law_state rfl (sa_cons (se_var 0) sa_nil)) (sg_name 1 sc.nd rfl (by first | exact .inl rfl | exact .inr rfl)))
  (ss_cons (ss_for hp rfl (si_range1 rfl T.n_range (sa_cons se_int sa_nil)) (sg_name 2 sc.nd rfl (by first | exact .inl rfl | exact .inr rfl)) (ss_cons (ss_asg (se_tup (sa_cons (se_fn (i__law_odd T) hr (by decide) hgu tk T.m__law_odd rfl (sa_cons (se_var 1) sa_nil)) (sa_cons (se_fn (i__law_odd T) hr (by decide) hgu tk T.m__law_odd rfl (sa_cons (se_var 1) sa_nil)) sa_nil))) (sg_tup rfl (sgs_cons (sg_name 5 sc.nd rfl (by first | exact .inl rfl | exact .inr rfl)) (sgs_cons (sg_name 6 sc.nd rfl (by first | exact .inl rfl | exact .inr rfl)) sgs_nil))))
  (ss_cons (ss_asg (se_fn (i__law_errors T) hr (by decide) hgu tk T.m__law_errors rfl (sa_cons (se_var 5) (sa_cons (se_var 6) sa_nil))) (sg_name 3 sc.nd rfl (by first | exact .inl rfl | exact .inr rfl)))
  (ss_cons (ss_for hp rfl (si_range1 rfl T.n_range (sa_cons se_int sa_nil)) (sg_name 4 sc.nd rfl (by first | exact .inl rfl | exact .inr rfl)) (ss_cons (ss_asg (se_sto (sn_lst (sa_cons (se_call (call_isiD.or (call_isxD (isTab_ok T.isx))) boot_isinstance rfl T.n_isinstance (sa_cons (se_ix hu (se_var 3) (se_var 4)) (sa_cons (se_cls rfl T.m_LineError) sa_nil))) (sa_cons (se_call (call_isiD.or (call_isxD (isTab_ok T.isx))) boot_isinstance rfl T.n_isinstance (sa_cons (se_ix hu (se_var 3) (se_var 4)) (sa_cons (se_bty (by decide +kernel) rfl T.n_ValueError) sa_nil))) sa_nil)))) (sg_name 7 sc.nd rfl (by first | exact .inl rfl | exact .inr rfl)))
  (ss_cons (ss_expr (se_meth PySem.F.plainAttrs_list PySem.F.slot_list_append PySem.F.type_list_append (by simp) mt_appendD (se_var 7) (sa_cons (se_call (call_isiD.or (call_isxD (isTab_ok T.isx))) boot_isinstance rfl T.n_isinstance (sa_cons (se_ix hu (se_var 3) (se_var 4)) (sa_cons (se_bty (by decide +kernel) rfl T.n_LookupError) sa_nil))) sa_nil)))
  (ss_one (ss_if (st_w (sw_or (st_cmp (op_neDD hu) (se_fn (i__law_flags T) hr (by decide) hgu tk T.m__law_flags rfl (sa_cons (se_ix hu (se_var 3) (se_var 4)) sa_nil)) (se_frz (sn_lc [("_law_j", 9)] rfl sc.nd (si_range1 rfl T.n_range (sa_cons se_int sa_nil)) (blkOk_by (by kernel_rfl)) (fun s H C cl fp => (sgn_name 9 sc.nd rfl (.inl rfl) (by decide))) (fun s H C cl fp => sts_nil) (fun s H C cl fp => (se_cmp (op_eqDD hu) (se_var 9) (se_var 4)))))) (sw_or1 (st_cmp (op_neDD hu) (se_var 7) (se_frz (sn_lst (sa_cons (se_cmp op_ltD (se_var 4) se_int) (sa_cons (se_cmp op_ltD (se_var 4) se_int) (sa_cons (se_cmp op_geD (se_var 4) se_int) sa_nil))))))))) (ss_one (ss_ret se_bl)) ss_nil)))))
  (ss_cons (ss_if (st_cmp (op_neDD hu) (se_frz (sn_lc [("_law_field", 8)] rfl sc.nd (si_seq (se_fn (i__law_fields T) hr (by decide) hgu tk T.m__law_fields rfl (sa_cons (se_var 5) (sa_cons (se_var 6) sa_nil)))) (blkOk_by (by kernel_rfl)) (fun s H C cl fp => (sgn_name 8 sc.nd rfl (.inl rfl) (by decide))) (fun s H C cl fp => (sts_one (st_not (st_tru (se_fn (i__law_same T) hr (by decide) hgu takes0 T.m__law_same rfl (sa_cons (se_var 8) (sa_cons (se_var 5) sa_nil))))))) (fun s H C cl fp => (se_var 8)))) (se_frz (sn_lst sa_nil))) (ss_one (ss_ret se_bl)) ss_nil)
  (ss_one (ss_if (st_not (st_tru (se_fn (i__law_same T) hr (by decide) hgu tk T.m__law_same rfl (sa_cons (se_xf (cs := ["NotTogether"]) (fun c hc => by simp only [List.mem_cons, List.not_mem_nil, or_false] at hc; subst hc; exact T.a_NotTogether_other) (se_newX (c_NotTogether T) hr (by decide) hgu rfl T.m_NotTogether (sa_cons (se_var 5) (sa_cons (se_var 6) sa_nil)))) (sa_cons (se_var 6) sa_nil))))) (ss_one (ss_ret se_bl)) ss_nil)))))))
  (ss_one (ss_ret (se_fn (i__law_same T) hr (by decide) hgu tk T.m__law_same rfl (sa_cons (se_frz (sn_lst (sa_cons (se_glob rfl T.v_MAX_PROCESSES (fun w => by simp only [RD])) (sa_cons (se_glob rfl T.v_MAX_MESSAGES (fun w => by simp only [RD])) (sa_cons (se_glob rfl T.v_MAX_EVENTS (fun w => by simp only [RD])) sa_nil))))) (sa_cons (se_frz (sn_lst (sa_cons se_int (sa_cons se_int (sa_cons se_int sa_nil))))) sa_nil)))))))
end LW

set_option Elab.async false
set_option linter.all false
set_option maxRecDepth 100000
set_option maxHeartbeats 4000000
namespace LW
open PySem L2 MI
/-- the state as it stands -/
structure DS (i0 i1 : Id) (cells big : List Int) (c : Int) (S : Store) : Prop where
  h0 : S i0 = some (.lst [.ref i1, .lst (cells.map .int), .int c])
  h1 : S i1 = some (.lst (big.map .int))
def dCond : BM := blM (opM neD (opM ixD (varM 0) (litM (.int 0))) (frzM (dispM (nilM))))
noncomputable def dBody : SM := seqS (asgS (opM ixD (opM ixD (varM 0) (litM (.int 0))) (litM (.int 0))) (nameG 4)) (
  seqS (ifS (blM (opM gtD (varM 4) (litM (.int 0)))) (seqS (asgS (opM fdivD (varM 4) (varM 1)) (subG (opM ixD (varM 0) (litM (.int 0))) (litM (.int 0)))) (
  retS (opM modD (varM 4) (varM 1)))) (passS)) (
  exprS (methM "list" popG (opM ixD (varM 0) (litM (.int 0))) (consM (litM (.int 0)) (nilM)))))
theorem draw_while {i0 i1 : Id} (ne : i0 ≠ i1) {cells : List Int} {c below : Int} (b0 : 0 < below) (b1 : below < 1000) : ∀ (big : List Int) (S : Store) (π : Id) (x : Option D), DS i0 i1 cells big c S →
    ∃ r, whileN dCond dBody (big.length + 1) [some (.ref i0), some (.int below), none, none, x] π S = some r ∧
      ((∃ x' S', r = (.nx, [some (.ref i0), some (.int below), none, none, x'], S') ∧ DS i0 i1 cells [] c S' ∧ ∀ j, j ≠ i1 → S' j = S j) ∨
       (∃ k big' ρ' S', r = (.rt (.int k), ρ', S') ∧ 0 ≤ k ∧ k < below ∧ DS i0 i1 cells big' c S' ∧ ∀ j, j ≠ i1 → S' j = S j)) := by
  intro big
  induction big with
  | nil =>
    intro S π x h
    refine ⟨_, ?_, .inl ⟨x, S, rfl, h, fun _ _ => rfl⟩⟩
    have e := neD_ref_nil (xs := []) h.h1
    unfold whileN
    simp [dCond, ixD, h.h0, atI, ixN, e]
  | cons a r ih =>
    intro S π x h
    have e := neD_ref_nil (xs := a :: r) h.h1
    have ne' : i1 ≠ i0 := fun z => ne z.symm
    by_cases ha : 0 < a
    · refine ⟨(.rt (.int (a % below)), [some (.ref i0), some (.int below), none, none, some (.int a)], put S i1 (.lst ((a / below :: r).map .int))), ?_, .inr ⟨a % below, a / below :: r, _, _, rfl, Int.emod_nonneg _ (by omega), Int.emod_lt_of_pos _ b0, ⟨(put_ne S _ ne).trans h.h0, put_same _ _ _⟩, fun j hj => put_ne S _ hj⟩⟩
      unfold whileN
      have b2 : below < 1073741824 := by omega
      simp [dCond, dBody, ixD, h.h0, h.h1, atI, ixN, e, ha, intB, fdivD, CDiv, b0, b2, modD, setD, setOb]
    · have d2 : DS i0 i1 cells r c (put S i1 (.lst (r.map .int))) := ⟨(put_ne S _ ne).trans h.h0, put_same _ _ _⟩
      obtain ⟨q, e1, e2⟩ := ih (put S i1 (.lst (r.map .int))) (2 :: π) (some (.int a)) d2
      refine ⟨q, ?_, ?_⟩
      · rw [← e1]
        conv => lhs; unfold whileN
        simp [dCond, dBody, ixD, h.h0, h.h1, atI, ixN, e, ha, intB, tyN, popG]
      · rcases e2 with ⟨x', S', q1, q2, q3⟩ | ⟨k, big', ρ', S', q1, q2, q3, q4, q5⟩
        · exact .inl ⟨x', S', q1, q2, fun j hj => (q3 j hj).trans (put_ne S _ hj)⟩
        · exact .inr ⟨k, big', ρ', S', q1, q2, q3, q4, fun j hj => (q5 j hj).trans (put_ne S _ hj)⟩
theorem F_draw_eq (ds : List D) (π : Id) (S : Store) (h : ds.length = 2) : F__law_draw ds π S = endR (m__law_draw (ds.map some ++ List.replicate 3 none) π S) := defM_ap h
theorem emod_rng {a b : Int} (h : 0 < b) : 0 ≤ a % b ∧ a % b < b := ⟨Int.emod_nonneg _ (by omega), Int.emod_lt_of_pos _ h⟩
theorem draw_ok {i0 i1 : Id} (ne : i0 ≠ i1) {cells big : List Int} {c below : Int} (hc : cells ≠ []) (c0 : 0 ≤ c) (c1 : c < 1000) (b0 : 0 < below) (b1 : below < 1000) {S : Store} (h : DS i0 i1 cells big c S) (π : Id) :
    ∃ k big' c' S', F__law_draw [.ref i0, .int below] π S = okR (.int k) S' ∧ 0 ≤ k ∧ k < below ∧ c ≤ c' ∧ c' ≤ c + 1 ∧ DS i0 i1 cells big' c' S' ∧ ∀ j, j ≠ i0 → j ≠ i1 → S' j = S j := by
  obtain ⟨r, e1, e2⟩ := draw_while ne b0 b1 big S (0 :: π) none h
  have ew := whileS_of e1
  rw [F_draw_eq _ _ _ rfl]
  have em : m__law_draw = seqS (whileS dCond dBody) (
  seqS (asgS (opM addD (opM ixD (varM 0) (litM (.int 2))) (litM (.int 1))) (subG (varM 0) (litM (.int 2)))) (
  seqS (asgS (opM modD (opM ixD (opM ixD (varM 0) (litM (.int 1))) (opM modD (opM ixD (varM 0) (litM (.int 2))) (callM lenD (consM (opM ixD (varM 0) (litM (.int 1))) (nilM))))) (litM (.int 2147483629))) (nameG 2)) (
  seqS (asgS (opM addD (opM mulD (varM 2) (opM addD (litM (.int 69621)) (opM mulD (litM (.int 2)) (opM ixD (varM 0) (litM (.int 2)))))) (litM (.int 30011))) (nameG 3)) (
  seqS (asgS (opM modD (opM addD (varM 3) (opM mulD (opM mulD (litM (.int 48271)) (opM ixD (varM 0) (litM (.int 2)))) (opM ixD (varM 0) (litM (.int 2))))) (litM (.int 2147483587))) (nameG 3)) (
  retS (opM modD (opM fdivD (opM modD (opM mulD (varM 3) (varM 3)) (litM (.int 2147483563))) (litM (.int 16))) (varM 1))))))) := rfl
  rw [em]
  rcases e2 with ⟨x', S1, rfl, q2, q3⟩ | ⟨k, big', ρ', S1, rfl, q2, q3, q4, q5⟩
  · have hl : (0 : Int) < cells.length := by
      cases cells with
      | nil => exact absurd rfl hc
      | cons _ _ => simp only [List.length_cons]; omega
    obtain ⟨g1, g2⟩ := emod_rng (a := c + 1) hl
    have hj : ((c + 1) % (cells.length : Int)).toNat < cells.length := by omega
    generalize hS2 : put S1 i0 (.lst [.ref i1, .lst (cells.map .int), .int (c + 1)]) = S2
    have k0 : S2 i0 = some (.lst [.ref i1, .lst (cells.map .int), .int (c + 1)]) := by rw [← hS2, put_same]
    have ix : L2.atI (cells.map D.int) ((c + 1) % (cells.length : Int)) = some (.int cells[((c + 1) % (cells.length : Int)).toNat]) := by
      unfold L2.atI L2.ixN
      rw [List.length_map, if_pos g1, if_pos g2]
      simp only [Option.bind_some]
      rw [List.getElem?_eq_getElem (by rw [List.length_map]; exact hj), List.getElem_map]
    generalize hx : cells[((c + 1) % (cells.length : Int)).toNat] = x at ix
    have m1 := emod_rng (a := x) (b := 2147483629) (by omega)
    generalize hy : x % 2147483629 = y at m1
    generalize hz : (y * (69621 + 2 * (c + 1)) + 30011 + 48271 * (c + 1) * (c + 1)) % 2147483587 = z
    have m2 := emod_rng (a := y * (69621 + 2 * (c + 1)) + 30011 + 48271 * (c + 1) * (c + 1)) (b := 2147483587) (by omega)
    rw [hz] at m2
    have m3 := emod_rng (a := z * z % 2147483563 / 16) b0
    refine ⟨z * z % 2147483563 / 16 % below, [], c + 1, S2, ?_, m3.1, m3.2, by omega, by omega, ⟨k0, ?_⟩, fun j h1 h2 => ?_⟩
    · have i2 : L2.atI [D.ref i1, .lst (cells.map .int), .int c] 2 = some (.int c) := rfl
      have i2' : L2.atI [D.ref i1, .lst (cells.map .int), .int (c + 1)] 2 = some (.int (c + 1)) := rfl
      have i1' : L2.atI [D.ref i1, .lst (cells.map .int), .int (c + 1)] 1 = some (.lst (cells.map .int)) := rfl
      have st : setD S1 (.ref i0) (.int 2) (.int (c + 1)) = some S2 := by
        simp [setD, q2.h0, setOb, ixN, hS2]
      have ln : lenD S2 [.lst (cells.map D.int)] = some (.int cells.length) := by show some (D.int (cells.map D.int).length) = _; rw [List.length_map]
      have c5 : CMul 2 (c + 1) := .inl (by omega)
      have c6 : CMul y (69621 + 2 * (c + 1)) := .inl (by omega)
      have c7 : CMul 48271 (c + 1) := .inl (by omega)
      have c8 : CMul (48271 * (c + 1)) (c + 1) := .inr (by omega)
      have c9 : CMul z z := .inl (by omega)
      have c10 : CDiv (z * z % 2147483563) 16 := ⟨by omega, by omega⟩
      have hlN : 0 < cells.length := by omega
      simp [hlN, ew, ixD, q2.h0, k0, i2, i2', i1', st, addD, ln, modD, hl, ix, hy, mulD, c5, c6, c7, c8, c9, c10, fdivD, hz, b0]
    · rw [← hS2]; exact (put_ne S1 _ (Ne.symm ne)).trans q2.h1
    · rw [← hS2]; exact (put_ne S1 _ h1).trans (q3 j h2)
  · exact ⟨k, big', c, S1, by simp [ew], q2, q3, by omega, by omega, q4, fun j _ h2 => q5 j h2⟩
def oddL : List D := [.non, .bl true, .bl false, .int (-1), .int 0, .int 1, .int 2, .int 6, .int 24, .int 25, .int (-25), .int 100000000000000000000000000000, .str "", .str "0", .str "+1", .tup [], .lst [], .dct [] [], .tup [.int 0], .lst [.int 0], .tup [.tup []], .tup [.int 0, .int 0], .tup [.int 0, .int 1], .dct [.inr "a"] [.int 1]]
theorem dispA (ρ : MI.Env) (π : Id) (S : Store) : dispD [(litM (.str "a"), litM (.int 1))] ρ π S = okR ([.inr "a"], [.int 1]) S := rfl
theorem F_odd_eq (ds : List D) (π : Id) (S : Store) (h : ds.length = 1) : F__law_odd ds π S = endR (m__law_odd (ds.map some ++ List.replicate 1 none) π S) := defM_ap h
theorem odd_ok {i0 i1 : Id} (ne : i0 ≠ i1) {cells big : List Int} {c : Int} (hc : cells ≠ []) (c0 : 0 ≤ c) (c1 : c < 1000) {S : Store} (h : DS i0 i1 cells big c S) (π : Id) :
    ∃ d big' c' S', F__law_odd [.ref i0] π S = okR d S' ∧ d ∈ oddL ∧ c ≤ c' ∧ c' ≤ c + 1 ∧ DS i0 i1 cells big' c' S' ∧ ∀ j, j ≠ i0 → j ≠ i1 → S' j = S j := by
  obtain ⟨k, big', c', S', e, k0, k1, h1, h2, h3, h4⟩ := draw_ok ne hc c0 c1 (below := 24) (by omega) (by omega) h (1 :: 1 :: 1 :: π)
  have hk : k.toNat < oddL.length := by show k.toNat < 24; omega
  refine ⟨oddL[k.toNat], big', c', S', ?_, List.getElem_mem hk, h1, h2, h3, h4⟩
  rw [F_odd_eq _ _ _ rfl]
  have ix : L2.atI oddL k = some oddL[k.toNat] := by
    unfold L2.atI L2.ixN
    rw [if_pos k0, if_pos (show k < (oddL.length : Int) from k1)]
    exact List.getElem?_eq_getElem hk
  have cp : CPow 10 29 := ⟨by omega, by omega, by decide⟩
  have z : ∀ n, n ≤ 100 → n ≤ sizeLine := fun n h => by rw [sizeLine_eq]; omega
  have z1 := z 21 (by omega)
  have z2 := z 24 (by omega)
  have z3 := z 3 (by omega)
  have z4 := z 1 (by omega)
  have z5 := z 2 (by omega)
  have ix' : L2.atI [D.non, .bl true, .bl false, .int (-1), .int 0, .int 1, .int 2, .int 6, .int 24, .int 25, .int (-25), .int 100000000000000000000000000000, .str "", .str "0", .str "+1", .tup [], .lst [], .dct [] [], .tup [.int 0], .lst [.int 0], .tup [.tup []], .tup [.int 0, .int 0], .tup [.int 0, .int 1], .dct [.inr "a"] [.int 1]] k = some oddL[k.toNat] := ix
  simp [m__law_odd, negD, powD, cp, z1, z2, z3, z4, z5, dispA, catL, seqD, e, ixD, ix']
/-! ### repr -/
def reprOk (d : D) : Bool := match shP (fun _ => none) d with
  | some p => p.showable && (decide (p.depth ≤ 60) && decide (p.shown.length ≤ sizeLine))
  | none => false
theorem odd_repr : oddL.all reprOk = true := by decide +kernel
theorem repr_of {d : D} {S : Store} (h : reprOk d = true) (e : shP S d = shP (fun _ => none) d) : ∃ s, reprD S [d] = some (.str s) := by
  unfold reprOk at h
  rw [← e] at h
  cases q : shP S d with
  | none => rw [q] at h; cases h
  | some p =>
    rw [q] at h
    simp only [Bool.and_eq_true, decide_eq_true_eq] at h
    refine ⟨p.shown, ?_⟩
    show (match shP S d with
      | some p => if p.showable = true ∧ p.depth ≤ 60 ∧ p.shown.length ≤ sizeLine then some (D.str p.shown) else none
      | none => none) = _
    rw [q]
    exact if_pos h
theorem odd_sh (S : Store) : ∀ d ∈ oddL, shP S d = shP (fun _ => none) d := by
  intro d hd
  simp only [oddL, List.mem_cons, List.not_mem_nil, or_false] at hd
  rcases hd with rfl | rfl | rfl | rfl | rfl | rfl | rfl | rfl | rfl | rfl | rfl | rfl | rfl | rfl | rfl | rfl | rfl | rfl | rfl | rfl | rfl | rfl | rfl | rfl <;> rfl
theorem F_same_eq (ds : List D) (π : Id) (S : Store) (h : ds.length = 2) : F__law_same ds π S = endR (m__law_same (ds.map some ++ List.replicate 0 none) π S) := defM_ap h
theorem same_of {d : D} {S : Store} (h : ∃ s, reprD S [d] = some (.str s)) (π : Id) : F__law_same [d, d] π S = okR (.bl true) S := by
  obtain ⟨s, e⟩ := h
  rw [F_same_eq _ _ _ rfl]
  simp [m__law_same, e, eqD]
theorem same_ok {d : D} (hd : d ∈ oddL) (S : Store) (π : Id) : F__law_same [d, d] π S = okR (.bl true) S := same_of (repr_of (List.all_eq_true.mp odd_repr d hd) (odd_sh S d hd)) π
/-! ### the errors -/
def errL (v o : D) : List D := [.exc "BadEvent" ["event"] [v], .exc "TwoStates" ["process"] [v], .exc "NoRule" ["value"] [v], .exc "TooManySteps" ["limit"] [v], .exc "BadStep" ["index"] [v], .exc "Refused" ["index"] [v], .exc "BadProcesses" ["value"] [v], .exc "BadText" ["index"] [v],
  .exc "BadHistory" ["error"] [v], .exc "NotTogether" ["other", "one"] [o, v], .exc "Full" [] [], .exc "NothingToUndo" [] [], .exc "NoProcess" ["value"] [v], .exc "NoMessage" ["value"] [v]]
theorem errors_ok (v o : D) (π : Id) (S : Store) : F__law_errors [v, o] π S = okR (.lst (errL v o)) S := by kernel_rfl
theorem fields_ok (v o : D) (π : Id) (S : Store) : F__law_fields [v, o] π S = okR (.lst (List.replicate 12 v)) S := by kernel_rfl
def flagL (k : Nat) : List D := (List.range 14).map fun (j : Nat) => D.bl (decide ((j : Int) = (k : Int)))
def isx (S : Store) (x c : D) : Option D := orG isiD (isxD subL) S [x, c]
theorem err_ok {k : Nat} (hk : k < 14) (v o : D) : ∃ x, L2.atI (errL v o) k = some x ∧ (∀ π S, F__law_flags [x] π S = okR (.lst (flagL k)) S) ∧ ∀ S, orG isiD (isxD subL) S [x, .cls "LineError"] = some (.bl (decide ((k : Int) < 12))) ∧ orG isiD (isxD subL) S [x, .ty "ValueError"] = some (.bl (decide ((k : Int) < 12))) ∧ orG isiD (isxD subL) S [x, .ty "LookupError"] = some (.bl (decide ((12 : Int) ≤ k))) := by
  have h : k = 0 ∨ k = 1 ∨ k = 2 ∨ k = 3 ∨ k = 4 ∨ k = 5 ∨ k = 6 ∨ k = 7 ∨ k = 8 ∨ k = 9 ∨ k = 10 ∨ k = 11 ∨ k = 12 ∨ k = 13 := by omega
  rcases h with rfl | rfl | rfl | rfl | rfl | rfl | rfl | rfl | rfl | rfl | rfl | rfl | rfl | rfl <;> exact ⟨_, rfl, fun π S => by kernel_rfl, fun S => ⟨by kernel_rfl, by kernel_rfl, by kernel_rfl⟩⟩
end LW
namespace LW
open PySem L2 MI
theorem F_state_eq (ds : List D) (π : Id) (S : Store) (h : ds.length = 1) : F__law_state ds π S = endR (m__law_state (ds.map some ++ List.replicate 2 none) π S) := defM_ap h
def av (i : Int) : Int := if i < 0 then -i else i
theorem map_filter_int (f : Int → Bool) (b : D → Bool) (h : ∀ i, b (.int i) = f i) : ∀ (ns : List Int), (ns.map D.int).filter b = (ns.filter f).map D.int
  | [] => rfl
  | i :: ns => by
    rw [List.map_cons]
    cases q : f i with
    | true => rw [List.filter_cons_of_pos (by rw [h, q]), List.filter_cons_of_pos q, List.map_cons, map_filter_int f b h ns]
    | false => rw [List.filter_cons_of_neg (by rw [h, q]; decide), List.filter_cons_of_neg (by rw [q]; decide), map_filter_int f b h ns]
def mapI (f : Int → Int) : D → D
  | .int i => .int (f i)
  | d => d
theorem map_mapI (f : Int → Int) : ∀ (ns : List Int), (ns.map D.int).map (mapI f) = (ns.map f).map D.int
  | [] => rfl
  | i :: ns => by simp only [List.map_cons]; rw [map_mapI f ns]; rfl
def bigB : D → Bool
  | .int i => decide (1000000000000000000 ≤ i)
  | _ => false
theorem state_ok (ns : List Int) (hn : ns.length ≤ 63) (π : Id) (S : Store) : ∃ cells big S', F__law_state [.lst (ns.map .int)] π S = okR (.ref (1 :: 1 :: π)) S' ∧ cells ≠ [] ∧ DS (1 :: 1 :: π) (1 :: 0 :: 0 :: 1 :: π) cells big 0 S' := by
  have z : ∀ n, n ≤ 100 → n ≤ sizeLine := fun n h => by rw [sizeLine_eq]; omega
  obtain ⟨cs, hcs⟩ : ∃ cs, cs = ns.map av := ⟨_, rfl⟩
  have lc : cs.length = ns.length := by rw [hcs, List.length_map]
  have e1 : ∀ π, lcIts (nameN 2) yesB (callM absD (consM (varM 2) nilM)) [] [2] [some (.lst (ns.map .int)), none, none] (ns.map .int) π S = some (cs.map .int, S) := by
    intro π
    refine (lcIts_pure (S := S) (fun x => [some (.lst (ns.map .int)), none, some x]) (fun _ => true) (mapI av) (show Still [] S from trivial) (ns.map D.int) π (fun x hx => ?_)).trans ?_
    · obtain ⟨i, _, rfl⟩ := List.mem_map.mp hx
      refine ⟨rfl, fun _ => rfl, fun _ π => ?_⟩
      simp [absD, mapI, av]
    · rw [List.filter_eq_self.mpr (fun _ _ => rfl), map_mapI, hcs]
  have cp : CPow 10 18 := ⟨by omega, by omega, by decide⟩
  have e2 : ∀ π, lcIts (nameN 2) (blM (opM geD (varM 2) (opM powD (litM (.int 10)) (litM (.int 18))))) (varM 2) [] [2] [some (.lst (ns.map .int)), some (.lst (cs.map .int)), none] (cs.map .int) π S = some ((cs.filter fun i => decide (1000000000000000000 ≤ i)).map .int, S) := by
    intro π
    refine (lcIts_pure (S := S) (fun x => [some (.lst (ns.map .int)), some (.lst (cs.map .int)), some x]) bigB id (show Still [] S from trivial) _ π (fun x hx => ?_)).trans ?_
    · obtain ⟨i, _, rfl⟩ := List.mem_map.mp hx
      refine ⟨rfl, fun π => ?_, fun _ π => by simp⟩
      simp [powD, cp, intB, bigB]
    · rw [map_filter_int (fun i => decide (1000000000000000000 ≤ i)) bigB (fun _ => rfl), List.map_id]
  generalize hb : cs.filter (fun i => decide (1000000000000000000 ≤ i)) = big at e2
  have lb : big.length ≤ 63 := by
    rw [← hb]
    exact Nat.le_trans (List.length_filter_le _ _) (by rw [lc]; exact hn)
  have z1 := z cs.length (by omega)
  have z2 := z big.length (by omega)
  have z3 := z (cs.length + 1) (by omega)
  have z4 := z 3 (by omega)
  have z5 := z 1 (by omega)
  generalize hi1 : (1 :: 0 :: 0 :: 1 :: π : Id) = i1
  generalize hi0 : (1 :: 1 :: π : Id) = i0
  have ne : i0 ≠ i1 := by
    rw [← hi0, ← hi1]
    intro h
    have := congrArg List.length h
    simp at this
  refine ⟨cs ++ [(cs.length : Int) + 7], big, put (put S i1 (.lst (big.map .int))) i0 (.lst [.ref i1, .lst ((cs ++ [(cs.length : Int) + 7]).map .int), .int 0]), ?_, by simp, ⟨put_same _ _ _, (put_ne _ _ (Ne.symm ne)).trans (put_same _ _ _)⟩⟩
  rw [F_state_eq _ _ _ rfl]
  simp [m__law_state, srcD, e1, e2, z1, z2, z3, z4, z5, catL, seqD, lenD, addD, hi0, hi1]
end LW
namespace LW
open PySem L2 MI
/-! ### the law -/
noncomputable def inB : SM := seqS (asgS (stoM (dispM (consM (callM (orG isiD (isxD subL)) (consM (opM ixD (varM 3) (varM 4)) (consM (litM (.cls "LineError")) (nilM)))) (consM (callM (orG isiD (isxD subL)) (consM (opM ixD (varM 3) (varM 4)) (consM (litM (.ty "ValueError")) (nilM)))) (nilM))))) (nameG 7)) (
  seqS (exprS (methM "list" appendG (varM 7) (consM (callM (orG isiD (isxD subL)) (consM (opM ixD (varM 3) (varM 4)) (consM (litM (.ty "LookupError")) (nilM)))) (nilM)))) (
  ifS (orB (blM (opM neD (fnM 1 F__law_flags (consM (opM ixD (varM 3) (varM 4)) (nilM))) (frzM (lcM (rngI1 (consM (litM (.int 14)) (nilM))) (nameN 9) (yesB) (opM eqD (varM 9) (varM 4)) (([("_law_j", 9)] : List (PySem.Str × Nat)).map (·.2)))))) (blM (opM neD (varM 7) (frzM (dispM (consM (opM ltD (varM 4) (litM (.int 12))) (consM (opM ltD (varM 4) (litM (.int 12))) (consM (opM geD (varM 4) (litM (.int 12))) (nilM))))))))) (retS (litM (.bl false))) (passS)))
noncomputable def outB : SM := seqS (asgS (tupM (consM (fnM 1 F__law_odd (consM (varM 1) (nilM))) (consM (fnM 1 F__law_odd (consM (varM 1) (nilM))) (nilM)))) (tupG 2 (gsCons (nameG 5) (gsCons (nameG 6) (gsNil))))) (
  seqS (asgS (fnM 2 F__law_errors (consM (varM 5) (consM (varM 6) (nilM)))) (nameG 3)) (
  seqS (forS (rngI1 (consM (litM (.int 14)) (nilM))) (nameG 4) inB) (
  seqS (ifS (blM (opM neD (frzM (lcM (seqI (fnM 2 F__law_fields (consM (varM 5) (consM (varM 6) (nilM))))) (nameN 8) (notB (truM (fnM 2 F__law_same (consM (varM 8) (consM (varM 5) (nilM)))))) (varM 8) (([("_law_field", 8)] : List (PySem.Str × Nat)).map (·.2)))) (frzM (dispM (nilM))))) (retS (litM (.bl false))) (passS)) (
  ifS (notB (truM (fnM 2 F__law_same (consM (xfM ["NotTogether"] "other" (excM "NotTogether" ["other", "one"] (consM (varM 5) (consM (varM 6) (nilM))))) (consM (varM 6) (nilM)))))) (retS (litM (.bl false))) (passS)))))
theorem law_eq : m_law = seqS (asgS (fnM 1 F__law_state (consM (varM 0) (nilM))) (nameG 1)) (seqS (forS (rngI1 (consM (litM (.int 4)) (nilM))) (nameG 2) outB) (
  retS (fnM 2 F__law_same (consM (frzM (dispM (consM (litM (.int 6)) (consM (litM (.int 24)) (consM (litM (.int 60)) (nilM)))))) (consM (frzM (dispM (consM (litM (.int 6)) (consM (litM (.int 24)) (consM (litM (.int 60)) (nilM)))))) (nilM)))))) := rfl
theorem rng14 (ρ : MI.Env) (π : Id) (S : Store) : rngI1 (consM (litM (.int 14)) nilM) ρ π S = okR ((List.range 14).map fun (k : Nat) => D.int k, []) S := by simp [rngI1]
theorem rng4 (ρ : MI.Env) (π : Id) (S : Store) : rngI1 (consM (litM (.int 4)) nilM) ρ π S = okR ((List.range 4).map fun (k : Nat) => D.int k, []) S := by simp [rngI1]
theorem neD_bools {S : Store} {i : Id} {p q : Bool} (h : S i = some (.lst [.bl p, .bl p, .bl q])) : neD S (.ref i) (.lst [.bl p, .bl p, .bl q]) = some (.bl false) := by
  have e : toP S 8 (.ref i) = some (.list [.bool p, .bool p, .bool q]) := by
    show (match S i with
      | some (.lst xs) => (xs.mapM (toP S 7)).map PyData.list
      | _ => none) = _
    rw [h]
    rfl
  have e2 : toP S 8 (.lst [.bl p, .bl p, .bl q]) = some (.list [.bool p, .bool p, .bool q]) := rfl
  show eqGen true S (.ref i) (.lst [.bl p, .bl p, .bl q]) = _
  unfold eqGen
  rw [e, e2]
  cases p <;> cases q <;> rfl
theorem neD_flags {k : Nat} (hk : k < 14) (S : Store) : neD S (.lst (flagL k)) (.lst (flagL k)) = some (.bl false) := by
  have h : k = 0 ∨ k = 1 ∨ k = 2 ∨ k = 3 ∨ k = 4 ∨ k = 5 ∨ k = 6 ∨ k = 7 ∨ k = 8 ∨ k = 9 ∨ k = 10 ∨ k = 11 ∨ k = 12 ∨ k = 13 := by omega
  rcases h with rfl | rfl | rfl | rfl | rfl | rfl | rfl | rfl | rfl | rfl | rfl | rfl | rfl | rfl <;> kernel_rfl
def eqK (k : Int) : D → D
  | .int i => .bl (decide (i = k))
  | d => d
theorem in_ok {k : Nat} (hk : k < 14) (v o : D) (a b t e5 e6 e7 e8 e9 : Option D) (π : Id) (S : Store) : ∃ S' e7', inB [a, b, t, some (.lst (errL v o)), some (.int k), e5, e6, e7, e8, e9] π S = some (.nx, [a, b, t, some (.lst (errL v o)), some (.int k), e5, e6, e7', e8, e9], S') ∧ ∀ j, j ≠ 1 :: 0 :: 0 :: π → S' j = S j := by
  obtain ⟨x, e1, e2, e3⟩ := err_ok hk v o
  generalize hi : (1 :: 0 :: 0 :: π : Id) = i
  have z : ∀ n, n ≤ 100 → n ≤ sizeLine := fun n h => by rw [sizeLine_eq]; omega
  have z2 := z 2 (by omega)
  have z3 := z 3 (by omega)
  have z14 := z 14 (by omega)
  have zl : 2 < sizeLine := by rw [sizeLine_eq]; omega
  have lc : ∀ (π : Id) (S : Store) (e7 : Option D), lcIts (nameN 9) yesB (opM eqD (varM 9) (varM 4)) [] [9] [a, b, t, some (.lst (errL v o)), some (.int k), e5, e6, e7, e8, e9] ((List.range 14).map fun (k : Nat) => D.int k) π S = some (flagL k, S) := by
    intro π S e7
    refine (lcIts_pure (S := S) (fun x => [a, b, t, some (.lst (errL v o)), some (.int k), e5, e6, e7, e8, some x]) (fun _ => true) (eqK k) (show Still [] S from trivial) _ π (fun x hx => ?_)).trans ?_
    · obtain ⟨i, _, rfl⟩ := List.mem_map.mp hx
      refine ⟨rfl, fun _ => rfl, fun _ π => ?_⟩
      simp [eqD, eqK]
    · rw [List.filter_eq_self.mpr (fun _ _ => rfl), List.map_map]
      rfl
  have f1 := fun S => (e3 S).1
  have f2 := fun S => (e3 S).2.1
  have f3 := fun S => (e3 S).2.2
  have ll : (flagL k).length = 14 := by unfold flagL; rw [List.length_map, List.length_range]
  generalize hS : put (put S i (.lst [.bl (decide ((k : Int) < 12)), .bl (decide ((k : Int) < 12))])) i (.lst [.bl (decide ((k : Int) < 12)), .bl (decide ((k : Int) < 12)), .bl (decide ((12 : Int) ≤ k))]) = S2
  have nb : neD S2 (.ref i) (.lst [.bl (decide ((k : Int) < 12)), .bl (decide ((k : Int) < 12)), .bl (decide ((12 : Int) ≤ k))]) = some (.bl false) := neD_bools (by rw [← hS, put_same])
  refine ⟨S2, some (.ref i), ?_, fun j hj => ?_⟩
  · simp [inB, ixD, e1, f1, f2, f3, z2, hi, tyN, put_same, appendG, zl, hS, e2, rng14, lc, ll, z14, neD_flags hk, intB, z3, nb]
  · rw [← hS]
    exact (put_ne _ _ hj).trans (put_ne _ _ hj)
end LW
namespace LW
open PySem L2 MI
/-- names that the loops give -/
def E1 (π : Id) : Prop := π.getLast? = some 1
theorem E1.cons {π : Id} (h : E1 π) (n : Nat) : E1 (n :: π) := by
  unfold E1 at h ⊢
  cases π with
  | nil => cases h
  | cons a r => rw [List.getLast?_cons_cons]; exact h
abbrev i0 : Id := [1, 1, 1, 0, 0]
abbrev i1 : Id := [1, 0, 0, 1, 1, 0, 0]
theorem E1.ne0 {π : Id} (h : E1 π) : i0 ≠ π := fun e => by rw [← e] at h; exact absurd h (by unfold E1; decide)
theorem E1.ne1 {π : Id} (h : E1 π) : i1 ≠ π := fun e => by rw [← e] at h; exact absurd h (by unfold E1; decide)
theorem DS.mono {cells big : List Int} {c : Int} {S S' : Store} (h : DS i0 i1 cells big c S) (e0 : S' i0 = S i0) (e1 : S' i1 = S i1) : DS i0 i1 cells big c S' := ⟨e0.trans h.h0, e1.trans h.h1⟩
theorem rng_at {n j : Nat} {x : D} (h : ((List.range n).map fun (k : Nat) => D.int k)[j]? = some x) : j < n ∧ x = .int j := by
  rw [List.getElem?_map] at h
  obtain ⟨i, e1, e2⟩ := Option.map_eq_some_iff.mp h
  obtain ⟨h1, h2⟩ := List.getElem?_eq_some_iff.mp e1
  rw [List.length_range] at h1
  rw [List.getElem_range] at h2
  exact ⟨h1, by rw [← e2, h2]⟩
theorem inner_ok {cells big : List Int} {c : Int} (v o : D) (a b t e4 e5 e6 e7 e8 e9 : Option D) (π : Id) (hπ : E1 π) (S : Store) (h : DS i0 i1 cells big c S) :
    ∃ S' e4' e7', forS (rngI1 (consM (litM (.int 14)) (nilM))) (nameG 4) inB [a, b, t, some (.lst (errL v o)), e4, e5, e6, e7, e8, e9] π S = some (.nx, [a, b, t, some (.lst (errL v o)), e4', e5, e6, e7', e8, e9], S') ∧ DS i0 i1 cells big c S' := by
  obtain ⟨ρ', S', π', e, _, ⟨e4', e7', hr⟩, hd⟩ := forIts_inv (g := nameG 4) (b := inB) (c := []) (fun k π ρ S => E1 π ∧ (∃ e4 e7, ρ = [a, b, t, some (.lst (errL v o)), e4, e5, e6, e7, e8, e9]) ∧ DS i0 i1 cells big c S)
    ((List.range 14).map fun (k : Nat) => D.int k) 0 [a, b, t, some (.lst (errL v o)), e4, e5, e6, e7, e8, e9] (1 :: π) S (fun j x ρ π S hx hp => by
      obtain ⟨hj, rfl⟩ := rng_at hx
      obtain ⟨hE, ⟨f4, f7, rfl⟩, hd⟩ := hp
      obtain ⟨S2, f7', e1, e2⟩ := in_ok hj v o a b t e5 e6 f7 e8 e9 (1 :: π) S
      refine ⟨trivial, _, S, rfl, _, S2, .nx, e1, .inl rfl, (hE.cons 2), ⟨_, _, rfl⟩, hd.mono (e2 _ ?_) (e2 _ ?_)⟩
      · exact (((hE.cons 1).cons 0).cons 0 |>.cons 1).ne0
      · exact (((hE.cons 1).cons 0).cons 0 |>.cons 1).ne1) (fun _ _ _ _ => trivial) ⟨hπ.cons 1, ⟨_, _, rfl⟩, h⟩
  subst hr
  refine ⟨S', e4', e7', ?_, hd⟩
  rw [forS_ap, rng14]
  exact e
theorem out_ok {cells big : List Int} {c : Int} (hc : cells ≠ []) (c0 : 0 ≤ c) (c1 : c < 900) (a t e3 e4 e5 e6 e7 e8 e9 : Option D) (π : Id) (hπ : E1 π) (S : Store) (h : DS i0 i1 cells big c S) :
    ∃ S' ρ' big' c', outB [a, some (.ref i0), t, e3, e4, e5, e6, e7, e8, e9] π S = some (.nx, ρ', S') ∧ (∃ e3 e4 e5 e6 e7 e8 e9, ρ' = [a, some (.ref i0), t, e3, e4, e5, e6, e7, e8, e9]) ∧ c ≤ c' ∧ c' ≤ c + 2 ∧ DS i0 i1 cells big' c' S' := by
  have ne : i0 ≠ i1 := by decide
  obtain ⟨v, big1, d1, S1, q1, hv, k1, k2, k3, _⟩ := odd_ok ne hc c0 (by omega) h (1 :: 0 :: 0 :: 0 :: π)
  obtain ⟨o, big2, d2, S2, q2, ho, l1, l2, l3, _⟩ := odd_ok ne hc (c := d1) (by omega) (by omega) k3 (1 :: 0 :: 1 :: 0 :: 0 :: π)
  obtain ⟨S3, f4, f7, q3, q4⟩ := inner_ok v o a (some (.ref i0)) t e4 (some v) (some o) e7 e8 e9 (0 :: 1 :: 1 :: π) (((hπ.cons 1).cons 1).cons 0) S2 l3
  have z : ∀ n, n ≤ 100 → n ≤ sizeLine := fun n h => by rw [sizeLine_eq]; omega
  have z2 := z 2 (by omega)
  have z0 := z 0 (by omega)
  have so := fun S π => same_ok ho S π
  have sv := fun S π => same_ok hv S π
  have lc : ∀ (π : Id) (S : Store), lcIts (nameN 8) (notB (truM (fnM 2 F__law_same (consM (varM 8) (consM (varM 5) (nilM)))))) (varM 8) [] [8] [a, some (.ref i0), t, some (.lst (errL v o)), f4, some v, some o, f7, e8, e9] (List.replicate 12 v) π S = some ([], S) := by
    intro π S
    refine (lcIts_pure (S := S) (fun x => [a, some (.ref i0), t, some (.lst (errL v o)), f4, some v, some o, f7, some x, e9]) (fun _ => false) id (show Still [] S from trivial) _ π (fun x hx => ?_)).trans ?_
    · obtain rfl : x = v := (List.mem_replicate.mp hx).2
      refine ⟨rfl, fun π => ?_, fun q => by cases q⟩
      simp [sv, truD]
    · rw [List.filter_eq_nil_iff.mpr (fun _ _ => by decide)]
      rfl
  have lc' : ∀ (π : Id) (S : Store), lcIts (nameN 8) (notB (truM (fnM 2 F__law_same (consM (varM 8) (consM (varM 5) (nilM)))))) (varM 8) [] [8] [a, some (.ref i0), t, some (.lst (errL v o)), f4, some v, some o, f7, e8, e9] [v, v, v, v, v, v, v, v, v, v, v, v] π S = some ([], S) := lc
  have nn : ∀ S, neD S (.lst []) (.lst []) = some (.bl false) := fun S => rfl
  have xf : excAt ["NotTogether"] "other" (.exc "NotTogether" ["other", "one"] [o, v]) = some o := rfl
  refine ⟨S3, [a, some (.ref i0), t, some (.lst (errL v o)), f4, some v, some o, f7, e8, e9], big2, d2, ?_, ⟨_, _, _, _, _, _, _, rfl⟩, by omega, by omega, q4⟩
  rw [forS_ap] at q3
  simp [outB, q1, q2, z2, seqD, errors_ok, q3, fields_ok, srcD, lc', nn, z0, xf, so, truD]
theorem F_law_eq (ds : List D) (π : Id) (S : Store) (h : ds.length = 1) : F_law ds π S = endR (m_law (ds.map some ++ List.replicate 9 none) π S) := defM_ap h
theorem law_ok (ns : List Int) (h : ns.length ≤ 63) : ∃ S, F_law [.lst (ns.map D.int)] [] (fun _ => none) = some (.ok (.bl true), S) := by
  obtain ⟨cells, big, S1, e1, hc, hd⟩ := state_ok ns h [1, 0, 0] (fun _ => none)
  have hd' : DS i0 i1 cells big 0 S1 := hd
  obtain ⟨ρ', S2, π', e2, _⟩ := forIts_inv (g := nameG 2) (b := outB) (c := []) (fun k π ρ S => E1 π ∧ (∃ a t e3 e4 e5 e6 e7 e8 e9, ρ = [a, some (.ref i0), t, e3, e4, e5, e6, e7, e8, e9]) ∧ ∃ big c, 0 ≤ c ∧ c ≤ 2 * (k : Int) ∧ DS i0 i1 cells big c S)
    ((List.range 4).map fun (k : Nat) => D.int k) 0 [some (.lst (ns.map D.int)), some (.ref i0), none, none, none, none, none, none, none, none] [1, 0, 1] S1 (fun j x ρ π S hx hp => by
      obtain ⟨hj, rfl⟩ := rng_at hx
      obtain ⟨hE, ⟨a, t, f3, f4, f5, f6, f7, f8, f9, rfl⟩, big, c, c0, c1, hd⟩ := hp
      obtain ⟨S3, ρ3, big3, c3, q1, q2, q3, q4, q5⟩ := out_ok hc c0 (by omega) a (some (.int j)) f3 f4 f5 f6 f7 f8 f9 (1 :: π) (hE.cons 1) S hd
      obtain ⟨g3, g4, g5, g6, g7, g8, g9, rfl⟩ := q2
      exact ⟨trivial, _, S, rfl, _, S3, .nx, q1, .inl rfl, hE.cons 2, ⟨_, _, _, _, _, _, _, _, _, rfl⟩, big3, c3, by omega, by omega, q5⟩) (fun _ _ _ _ => trivial) ⟨rfl, ⟨_, _, _, _, _, _, _, _, _, rfl⟩, big, 0, by omega, by omega, hd'⟩
  have z3 : 3 ≤ sizeLine := by rw [sizeLine_eq]; omega
  have sm : ∀ π S, F__law_same [.lst [.int 6, .int 24, .int 60], .lst [.int 6, .int 24, .int 60]] π S = okR (.bl true) S := fun π S => same_of (repr_of (S := S) (d := .lst [.int 6, .int 24, .int 60]) (by decide +kernel) rfl) π
  refine ⟨S2, ?_⟩
  rw [F_law_eq _ _ _ rfl, law_eq]
  simp [e1, rng4, e2, z3, sm]
  rfl
end LW

set_option Elab.async false
set_option linter.all false
set_option maxRecDepth 100000
set_option maxHeartbeats 0
namespace HX
open PySem PySem.Spec PyProof.Rows L2 MI LW
def d__law_state : He.DefD := ⟨("_law_state", none), "_law_state", "_law_state", defArgs s__law_state, defBody s__law_state, defScope s__law_state, [], []⟩
def d__law_same : He.DefD := ⟨("_law_same", none), "_law_same", "_law_same", defArgs s__law_same, defBody s__law_same, defScope s__law_same, [], []⟩
def d__law_errors : He.DefD := ⟨("_law_errors", none), "_law_errors", "_law_errors", defArgs s__law_errors, defBody s__law_errors, defScope s__law_errors, [], []⟩
def d__law_draw : He.DefD := ⟨("_law_draw", none), "_law_draw", "_law_draw", defArgs s__law_draw, defBody s__law_draw, defScope s__law_draw, [], []⟩
def d__law_odd : He.DefD := ⟨("_law_odd", none), "_law_odd", "_law_odd", defArgs s__law_odd, defBody s__law_odd, defScope s__law_odd, [], []⟩
def d__law_flags : He.DefD := ⟨("_law_flags", none), "_law_flags", "_law_flags", defArgs s__law_flags, defBody s__law_flags, defScope s__law_flags, [], []⟩
def d__law_fields : He.DefD := ⟨("_law_fields", none), "_law_fields", "_law_fields", defArgs s__law_fields, defBody s__law_fields, defScope s__law_fields, [], []⟩
def d_law : He.DefD := ⟨("law", none), "law", "law", defArgs s_law, defBody s_law, defScope s_law, [], []⟩
def d_Refused_init : He.DefD := ⟨("Refused", some "__init__"), "__init__", "Refused.__init__", defArgs s_Refused_init, defBody s_Refused_init, defScope s_Refused_init, [], []⟩
def d_BadStep_init : He.DefD := ⟨("BadStep", some "__init__"), "__init__", "BadStep.__init__", defArgs s_BadStep_init, defBody s_BadStep_init, defScope s_BadStep_init, [], []⟩
def d_TooManySteps_init : He.DefD := ⟨("TooManySteps", some "__init__"), "__init__", "TooManySteps.__init__", defArgs s_TooManySteps_init, defBody s_TooManySteps_init, defScope s_TooManySteps_init, [], []⟩
def d_NoRule_init : He.DefD := ⟨("NoRule", some "__init__"), "__init__", "NoRule.__init__", defArgs s_NoRule_init, defBody s_NoRule_init, defScope s_NoRule_init, [], []⟩
def d_TwoStates_init : He.DefD := ⟨("TwoStates", some "__init__"), "__init__", "TwoStates.__init__", defArgs s_TwoStates_init, defBody s_TwoStates_init, defScope s_TwoStates_init, [], []⟩
def d_BadEvent_init : He.DefD := ⟨("BadEvent", some "__init__"), "__init__", "BadEvent.__init__", defArgs s_BadEvent_init, defBody s_BadEvent_init, defScope s_BadEvent_init, [], []⟩
def d_NotTogether_init : He.DefD := ⟨("NotTogether", some "__init__"), "__init__", "NotTogether.__init__", defArgs s_NotTogether_init, defBody s_NotTogether_init, defScope s_NotTogether_init, [], []⟩
def d_BadHistory_init : He.DefD := ⟨("BadHistory", some "__init__"), "__init__", "BadHistory.__init__", defArgs s_BadHistory_init, defBody s_BadHistory_init, defScope s_BadHistory_init, [], []⟩
def d_BadText_init : He.DefD := ⟨("BadText", some "__init__"), "__init__", "BadText.__init__", defArgs s_BadText_init, defBody s_BadText_init, defScope s_BadText_init, [], []⟩
def d_BadProcesses_init : He.DefD := ⟨("BadProcesses", some "__init__"), "__init__", "BadProcesses.__init__", defArgs s_BadProcesses_init, defBody s_BadProcesses_init, defScope s_BadProcesses_init, [], []⟩
def d_NoMessage_init : He.DefD := ⟨("NoMessage", some "__init__"), "__init__", "NoMessage.__init__", defArgs s_NoMessage_init, defBody s_NoMessage_init, defScope s_NoMessage_init, [], []⟩
def d_NoProcess_init : He.DefD := ⟨("NoProcess", some "__init__"), "__init__", "NoProcess.__init__", defArgs s_NoProcess_init, defBody s_NoProcess_init, defScope s_NoProcess_init, [], []⟩
def fn : List He.DefD := [d__law_state, d__law_same, d__law_errors, d__law_draw, d__law_odd, d__law_flags, d__law_fields, d_law, d_Refused_init, d_BadStep_init, d_TooManySteps_init, d_NoRule_init, d_TwoStates_init, d_BadEvent_init, d_NotTogether_init, d_BadHistory_init, d_BadText_init, d_BadProcesses_init, d_NoMessage_init, d_NoProcess_init]
def fa : List He.Fa := [.glo "_law_state", .glo "_law_same", .glo "_law_errors", .glo "_law_draw", .glo "_law_odd", .glo "_law_flags", .glo "_law_fields", .glo "law", .glo "Refused", .glo "BadStep", .glo "TooManySteps", .glo "NoRule", .glo "TwoStates", .glo "BadEvent", .glo "Full", .glo "NotTogether", .glo "BadHistory", .glo "BadText", .glo "BadProcesses", .glo "NoMessage", .glo "NoProcess", .glo "NothingToUndo", .glo "LineError", .int "MAX_EVENTS" 60, .int "MAX_MESSAGES" 24, .int "MAX_PROCESSES" 6, .free "LookupError", .free "ValueError", .free "abs", .free "isinstance", .free "len", .free "range", .free "repr"]
def chkL : List (PySem.W.Frag → Bool) := [fun K => exiB K (He.ga K "Refused") "ValueError" "ValueError.__new__" ["index"], fun K => exiB K (He.ga K "BadStep") "ValueError" "ValueError.__new__" ["index"], fun K => exiB K (He.ga K "TooManySteps") "ValueError" "ValueError.__new__" ["limit"], fun K => exiB K (He.ga K "NoRule") "ValueError" "ValueError.__new__" ["value"], fun K => exiB K (He.ga K "TwoStates") "ValueError" "ValueError.__new__" ["process"], fun K => exiB K (He.ga K "BadEvent") "ValueError" "ValueError.__new__" ["event"], fun K => ex0B K (He.ga K "Full") "ValueError" "ValueError.__new__", fun K => exiB K (He.ga K "NotTogether") "ValueError" "ValueError.__new__" ["other", "one"], fun K => exiB K (He.ga K "BadHistory") "ValueError" "ValueError.__new__" ["error"], fun K => exiB K (He.ga K "BadText") "ValueError" "ValueError.__new__" ["index"], fun K => exiB K (He.ga K "BadProcesses") "ValueError" "ValueError.__new__" ["value"], fun K => exiB K (He.ga K "NoMessage") "LookupError" "LookupError.__new__" ["value"], fun K => exiB K (He.ga K "NoProcess") "LookupError" "LookupError.__new__" ["value"], fun K => ex0B K (He.ga K "NothingToUndo") "ValueError" "ValueError.__new__", fun K => atxB K (He.ga K "BadEvent") "event", fun K => atxB K (He.ga K "BadHistory") "error", fun K => atxB K (He.ga K "BadProcesses") "value", fun K => atxB K (He.ga K "BadStep") "index", fun K => atxB K (He.ga K "BadText") "index", fun K => atxB K (He.ga K "NoMessage") "value", fun K => atxB K (He.ga K "NoProcess") "value", fun K => atxB K (He.ga K "NoRule") "value", fun K => atxB K (He.ga K "NotTogether") "one", fun K => atxB K (He.ga K "NotTogether") "other", fun K => atxB K (He.ga K "Refused") "index", fun K => atxB K (He.ga K "TooManySteps") "limit", fun K => atxB K (He.ga K "TwoStates") "process", fun K => isTab K tabL usL tsL]
def chk (K : PySem.W.Frag) : Bool := chkL.all fun f => f K
theorem chk_at {K : PySem.W.Frag} (h : chk K = true) (i : Nat) {f : PySem.W.Frag → Bool} (e : chkL[i]? = some f) : f K = true := List.all_eq_true.mp h f (List.mem_of_getElem? e)
theorem val_int {o : Option Value} {i : Int} (h : ∃ t, o = some (.int i t)) : ∃ u, o = some u ∧ L2.RelV (.int i) u := let ⟨t, e⟩ := h; ⟨_, e, t, rfl⟩
theorem val_str {o : Option Value} {i : PySem.Str} (h : ∃ t, o = some (.str i t)) : ∃ u, o = some u ∧ L2.RelV (.str i) u := let ⟨t, e⟩ := h; ⟨_, e, t, rfl⟩
theorem txt {K : PySem.W.Frag} {h : Heap} {mg : PySem.Str → Option Value} (X : K.In h) (G : h.Ns mainGlobals mg) (hc : chk K = true) (c : He.SaysD fa fn K) : Txt K mg where
  f__law_state := c.def_ 0 (d := d__law_state) rfl
  m__law_state := He.glo_ok X G (c.fact 0 (f := .glo "_law_state") rfl)
  f__law_same := c.def_ 1 (d := d__law_same) rfl
  m__law_same := He.glo_ok X G (c.fact 1 (f := .glo "_law_same") rfl)
  f__law_errors := c.def_ 2 (d := d__law_errors) rfl
  m__law_errors := He.glo_ok X G (c.fact 2 (f := .glo "_law_errors") rfl)
  f__law_draw := c.def_ 3 (d := d__law_draw) rfl
  m__law_draw := He.glo_ok X G (c.fact 3 (f := .glo "_law_draw") rfl)
  f__law_odd := c.def_ 4 (d := d__law_odd) rfl
  m__law_odd := He.glo_ok X G (c.fact 4 (f := .glo "_law_odd") rfl)
  f__law_flags := c.def_ 5 (d := d__law_flags) rfl
  m__law_flags := He.glo_ok X G (c.fact 5 (f := .glo "_law_flags") rfl)
  f__law_fields := c.def_ 6 (d := d__law_fields) rfl
  m__law_fields := He.glo_ok X G (c.fact 6 (f := .glo "_law_fields") rfl)
  f_law := c.def_ 7 (d := d_law) rfl
  m_law := He.glo_ok X G (c.fact 7 (f := .glo "law") rfl)
  m_Refused := He.glo_ok X G (c.fact 8 (f := .glo "Refused") rfl)
  x_Refused := c.def_ 8 (d := d_Refused_init) rfl
  e_Refused := chk_at hc 0 rfl
  m_BadStep := He.glo_ok X G (c.fact 9 (f := .glo "BadStep") rfl)
  x_BadStep := c.def_ 9 (d := d_BadStep_init) rfl
  e_BadStep := chk_at hc 1 rfl
  m_TooManySteps := He.glo_ok X G (c.fact 10 (f := .glo "TooManySteps") rfl)
  x_TooManySteps := c.def_ 10 (d := d_TooManySteps_init) rfl
  e_TooManySteps := chk_at hc 2 rfl
  m_NoRule := He.glo_ok X G (c.fact 11 (f := .glo "NoRule") rfl)
  x_NoRule := c.def_ 11 (d := d_NoRule_init) rfl
  e_NoRule := chk_at hc 3 rfl
  m_TwoStates := He.glo_ok X G (c.fact 12 (f := .glo "TwoStates") rfl)
  x_TwoStates := c.def_ 12 (d := d_TwoStates_init) rfl
  e_TwoStates := chk_at hc 4 rfl
  m_BadEvent := He.glo_ok X G (c.fact 13 (f := .glo "BadEvent") rfl)
  x_BadEvent := c.def_ 13 (d := d_BadEvent_init) rfl
  e_BadEvent := chk_at hc 5 rfl
  m_Full := He.glo_ok X G (c.fact 14 (f := .glo "Full") rfl)
  e_Full := chk_at hc 6 rfl
  m_NotTogether := He.glo_ok X G (c.fact 15 (f := .glo "NotTogether") rfl)
  x_NotTogether := c.def_ 14 (d := d_NotTogether_init) rfl
  e_NotTogether := chk_at hc 7 rfl
  m_BadHistory := He.glo_ok X G (c.fact 16 (f := .glo "BadHistory") rfl)
  x_BadHistory := c.def_ 15 (d := d_BadHistory_init) rfl
  e_BadHistory := chk_at hc 8 rfl
  m_BadText := He.glo_ok X G (c.fact 17 (f := .glo "BadText") rfl)
  x_BadText := c.def_ 16 (d := d_BadText_init) rfl
  e_BadText := chk_at hc 9 rfl
  m_BadProcesses := He.glo_ok X G (c.fact 18 (f := .glo "BadProcesses") rfl)
  x_BadProcesses := c.def_ 17 (d := d_BadProcesses_init) rfl
  e_BadProcesses := chk_at hc 10 rfl
  m_NoMessage := He.glo_ok X G (c.fact 19 (f := .glo "NoMessage") rfl)
  x_NoMessage := c.def_ 18 (d := d_NoMessage_init) rfl
  e_NoMessage := chk_at hc 11 rfl
  m_NoProcess := He.glo_ok X G (c.fact 20 (f := .glo "NoProcess") rfl)
  x_NoProcess := c.def_ 19 (d := d_NoProcess_init) rfl
  e_NoProcess := chk_at hc 12 rfl
  m_NothingToUndo := He.glo_ok X G (c.fact 21 (f := .glo "NothingToUndo") rfl)
  e_NothingToUndo := chk_at hc 13 rfl
  m_LineError := He.glo_ok X G (c.fact 22 (f := .glo "LineError") rfl)
  a_BadEvent_event := chk_at hc 14 rfl
  a_BadHistory_error := chk_at hc 15 rfl
  a_BadProcesses_value := chk_at hc 16 rfl
  a_BadStep_index := chk_at hc 17 rfl
  a_BadText_index := chk_at hc 18 rfl
  a_NoMessage_value := chk_at hc 19 rfl
  a_NoProcess_value := chk_at hc 20 rfl
  a_NoRule_value := chk_at hc 21 rfl
  a_NotTogether_one := chk_at hc 22 rfl
  a_NotTogether_other := chk_at hc 23 rfl
  a_Refused_index := chk_at hc 24 rfl
  a_TooManySteps_limit := chk_at hc 25 rfl
  a_TwoStates_process := chk_at hc 26 rfl
  isx := chk_at hc 27 rfl
  v_MAX_EVENTS := val_int (He.int_ok X G (c.fact 23 (f := .int "MAX_EVENTS" 60) rfl))
  v_MAX_MESSAGES := val_int (He.int_ok X G (c.fact 24 (f := .int "MAX_MESSAGES" 24) rfl))
  v_MAX_PROCESSES := val_int (He.int_ok X G (c.fact 25 (f := .int "MAX_PROCESSES" 6) rfl))
  n_LookupError := He.free_ok X G (c.fact 26 (f := .free "LookupError") rfl)
  n_ValueError := He.free_ok X G (c.fact 27 (f := .free "ValueError") rfl)
  n_abs := He.free_ok X G (c.fact 28 (f := .free "abs") rfl)
  n_isinstance := He.free_ok X G (c.fact 29 (f := .free "isinstance") rfl)
  n_len := He.free_ok X G (c.fact 30 (f := .free "len") rfl)
  n_range := He.free_ok X G (c.fact 31 (f := .free "range") rfl)
  n_repr := He.free_ok X G (c.fact 32 (f := .free "repr") rfl)
abbrev R : PySem.W.OpenRow := PySem.W.OpenLaw.row PySem.Challenge.rw_savelines_k06_errors_and_limits
def as (g : Addr → Option Obj) : List Addr := He.asD g 5
abbrev hk : PySem.W.Hook := hookM as chk fa fn
def ob (s : PySem.W.SharedT) : AlM := obsM as chk fa fn (HandSHeadRun.getT s)
theorem ob_eq (s : PySem.W.SharedT) : ob s = hk.obs s.abs := obsM_eq (HandSHeadRun.getT_eq s)
def loose : List PySem.Str := (["LineError", "BadEvent", "TwoStates", "NotTogether", "NoRule", "TooManySteps", "Full", "NothingToUndo", "BadStep", "Refused", "BadProcesses", "BadText", "BadHistory", "NoProcess", "NoMessage", "MAX_PROCESSES", "MAX_MESSAGES", "MAX_EVENTS", "_law_state", "_law_draw", "_law_odd", "_law_same", "_law_flags", "_law_errors", "_law_fields"] : List PySem.Str)
theorem run (w : World) : HandSHeadRun.RunEq R (PySem.W.view R.prog [27]) hk ob 6000 loose w := by
  intro os
  kernel_rfl
theorem facts {w : World} {K : PySem.W.Frag} {h : Heap} {mg : PySem.Str → Option Value} {f : Addr} (X : K.In h) (G : h.Ns mainGlobals mg) (hfa : mg ("law" : PySem.Str) = some (.ref f)) (hc : chk K = true) (c : He.SaysD fa fn K) :
    ∃ fd : FuncData, (∀ (s : Shared) (v : Value), BindsTo s fd ⟨[v], []⟩ [("_law_script", v)]) ∧ ∀ base : Heap, K.In base → base.Ns mainGlobals mg → FnG R.prog w K mg base 4 f fd ["_law_script"] (FnS K F_law 1) := by
  have T := txt X G hc c
  have e := hfa.symm.trans T.m_law
  cases e
  obtain ⟨fd, hF⟩ := T.f_law
  have b := FunD.bindsA (ps := ["_law_script"]) hF fun _ _ _ _ _ _ us hl => match us, hl with | [_], _ => rfl
  exact ⟨fd, fun s v => b s [v] rfl, fun base _ _ => g_law T hF⟩
end HX
open PySem PySem.W PySem.Calls PyProof.Rows
theorem PySem.Challenge.cw_savelines_k06_errors_and_limits_holds : PySem.Challenge.rw_savelines_k06_errors_and_limits.Holds := by
  w_on; o_law
  refine HandSHeadRun.head_any (r := OpenLaw.row PySem.Challenge.rw_savelines_k06_errors_and_limits) (q := view (OpenLaw.row PySem.Challenge.rw_savelines_k06_errors_and_limits).prog [27]) (H := HX.hk) (ob := HX.ob) (M := 6000) (loose := HX.loose) (d := HandSHeadRun.topDef (OpenLaw.row PySem.Challenge.rw_savelines_k06_errors_and_limits).prog 27) (kwd := []) HX.ob_eq
    (by kernel_rfl) (fun s => by kernel_rfl) HX.run (by kernel_rfl) (by kernel_rfl) (by kernel_rfl) (by rfl) (by first | assumption | decide +kernel) (by decide +kernel) ⟨rfl, rfl, rfl, rfl, rfl, by decide +kernel⟩ ?hw ?hc
  case hw => w_witness2
  case hc =>
    refine MI.walk_ofG (l := PySem.Challenge.rw_savelines_k06_errors_and_limits) (n := 63) (k := 4) (x := "_law_script") rfl (by decide) (by kernel_rfl) ⟨rfl, by decide, by decide⟩ ?F
    intro w mg fa h Y G hmg0
    obtain ⟨K, KX, hc, c⟩ := Y
    have hmg : mg ("law" : PySem.Str) = some (.ref fa) := by
      have e : (HandSHeadRun.topDef (OpenLaw.row PySem.Challenge.rw_savelines_k06_errors_and_limits).prog 27).name = ("law" : PySem.Str) := by kernel_rfl
      rw [← e]
      exact hmg0
    obtain ⟨fd, hb, hF⟩ := HX.facts (w := w) KX G hmg hc c
    exact ⟨K, fd, MI.FnS K LW.F_law 1, KX, hb, fun H a ns hl hO hS => MI.law_sp hO hS (LW.law_ok ns hl), hF⟩
