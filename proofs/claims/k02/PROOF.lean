import PyProof.Rows.All
import Wide.All
import OpenK.AllK
import Wide.FinOn
import HandS.ForMost
import HandS.Exc
import HandS.WordsExc
import HandS.IsInst
import HandS.Lambda
import HandS.TupAny
import HandS.More
import HandS.Strs
import HandS.CallSlots
import HandS.Defaults
import HandS.Deep
import HandS.Wide
import HandS.StrMore
import HandS.DictComp
import HandS.Conv
import HandS.Head0
import HandS.Head1
import HandS.Head2
import HandS.HeadEnd
import HandS.HeadHook1
import HandS.HeadHook2
import HandS.Style
import HandS.SortInts
import HandS.NoneIn
import KE.KUnpackStar
import HandS.ExcValue
import HandS.ExcInit
import HandS.ExcField
import HandS.HotCalls
import HandS.TryMany
import HandS.HeadWalk
import HandS.HeadHook4
import HandS.TupSets
import HandS.SetBool
import HandS.SortRule
import HandS.Star
import PySem.Challenge.RW_stucklots_k02_rounds_told
set_option Elab.async false
set_option linter.all false
set_option maxRecDepth 100000
set_option maxHeartbeats 4000000
/-! SD: a shallow semantics on deep data over the layer HandS. A value is deep data (DV); lists, dicts and instances that are still to change live in a store (Sto) by number; the rest is frozen. -/
namespace SD
open PySem PySem.Spec PyProof.Rows L2

/-- built-in types -/
inductive T7 where | non | bl | int | str | tup | lst | dct
  deriving DecidableEq, Inhabited
def T7.name : T7 → String
  | .non => "NoneType" | .bl => "bool" | .int => "int" | .str => "str" | .tup => "tuple" | .lst => "list" | .dct => "dict"
/-- deep data -/
inductive DV where
  | non | bl (b : Bool) | int (i : Int) | str (x : Str)
  | tup (xs : List DV) | lst (xs : List DV) | scr (xs : List DV)
  | dct (ks : List Key) (xs : List DV)
  | cell (i : Nat)
  | obj (c : Nat) (ns : List Str) (xs : List DV)
  | gl (n : Nat) | ty (t : T7)
  | exn (c : Nat) (ns : List Str) (xs : List DV)
  deriving Inhabited

/-- what lives in the store -/
inductive CO where
  | dead
  | lst (xs : List DV)
  | ins (c : Nat) (ns : List Str) (xs : List DV)
  deriving Inhabited
abbrev Sto := List CO
/-- the cells' addresses; those of hidden lists that a comprehension is filling -/
structure KA where
  cs : List (Option Addr)
  gh : List Addr
def KA.has (κ : KA) (a : Addr) : Prop := some a ∈ κ.cs ∨ a ∈ κ.gh

/-- the written part, the addresses of classes and defs by number -/
structure Gc where
  K : PySem.W.Frag
  cls : Nat → Addr
  /-- the tables of code objects, the name that all of a table's bear -/
  T : List (Addr × Str)
  /-- the exception that is handled, its dict, its class -/
  ex : Option (Addr × Addr × Nat)

/-- o stands at a, and a is no cell -/
def At (κ : KA) (H : Hp) (a : Addr) (o : HO) : Prop := H a = some o ∧ ¬ κ.has a
def FrL (g : Gc) (κ : KA) (H : Hp) (a : Addr) (vs : List V) : Prop :=
  At κ H a (.lst vs) ∨ (∃ ob, At κ H a (.frz ob (.lst vs))) ∨
    ∃ (o : Obj) (its : Array Value) (n : Nat), g.K.lookup a = some o ∧ o.cls = .type "list" ∧ o.dict = none ∧ o.data = .seq its n ∧ its.size ≤ sizeLine ∧ Vals vs its.toList
def FrT (g : Gc) (κ : KA) (H : Hp) (a : Addr) (vs : List V) : Prop :=
  (∃ ob : Obj, ob.dict = none ∧ At κ H a (.frz ob (.tup vs))) ∨
    ∃ (o : Obj) (its : Array Value) (n : Nat), g.K.lookup a = some o ∧ o.cls = .type "tuple" ∧ o.dict = none ∧ o.data = .seq its n ∧ its.size ≤ sizeLine ∧ Vals vs its.toList
theorem FrL.sq {g : Gc} {κ : KA} {H : Hp} {a : Addr} {vs : List V} (h : FrL g κ H a vs) : SqL g.K H a vs := by
  rcases h with h | ⟨ob, h⟩ | h
  · exact .inl (.inl h.1)
  · exact .inl (.inr ⟨ob, h.1⟩)
  · exact .inr h
theorem FrT.sq {g : Gc} {κ : KA} {H : Hp} {a : Addr} {vs : List V} (h : FrT g κ H a vs) : SqT g.K H a vs := by
  rcases h with ⟨ob, _, h⟩ | ⟨o, its, n, h1, h2, _, h3⟩
  · exact .inl (.inr ⟨ob, h.1⟩)
  · exact .inr ⟨o, its, n, h1, h2, h3⟩

mutual
/-- the value v stands for the data d -/
def Rel (g : Gc) (κ : KA) (H : Hp) : DV → V → Prop
  | .non, v => v = .non
  | .bl b, v => v = .bl b
  | .int i, v => v = .int i
  | .str x, v => v = .str x
  | .ty t, v => v = .ty t.name
  | .gl n, v => v = .ref (g.cls n)
  | .tup xs, v => ∃ a vs, v = .ref a ∧ FrT g κ H a vs ∧ RelL g κ H xs vs
  | .lst xs, v => ∃ a vs, v = .ref a ∧ At κ H a (.lst vs) ∧ RelL g κ H xs vs
  | .scr xs, v => ∃ a vs, v = .ref a ∧ FrL g κ H a vs ∧ RelL g κ H xs vs
  | .dct ks xs, v => ∃ a vs, v = .ref a ∧ At κ H a (.dK (ks.zip vs)) ∧ ks.length = vs.length ∧ RelL g κ H xs vs
  | .cell i, v => i < κ.cs.length ∧ ∀ a, κ.cs[i]? = some (some a) → v = .ref a
  | .obj c ns xs, v => ∃ a dx vs, v = .ref a ∧ At κ H a (.ins (g.cls c) dx (ns.zip vs)) ∧ ns.length = vs.length ∧ RelL g κ H xs vs
  | .exn c ns xs, v => ∃ a d vs, g.ex = some (a, d, c) ∧ v = .ref a ∧ At κ H d (.xd (ns.zip vs)) ∧ ns.length = vs.length ∧ RelL g κ H xs vs
def RelL (g : Gc) (κ : KA) (H : Hp) : List DV → List V → Prop
  | [], vs => vs = []
  | x :: xs, vs => ∃ v r, vs = v :: r ∧ Rel g κ H x v ∧ RelL g κ H xs r
end

/-- a cell's content -/
def RelC (g : Gc) (κ : KA) (H : Hp) : CO → Option Addr → Prop
  | .dead, a => a = none
  | .lst xs, a => ∃ p vs, a = some p ∧ H p = some (.lst vs) ∧ RelL g κ H xs vs
  | .ins c ns xs, a => ∃ p dx vs, a = some p ∧ H p = some (.ins (g.cls c) dx (ns.zip vs)) ∧ ns.length = vs.length ∧ RelL g κ H xs vs

/-- a table of code objects: all of the name q -/
def TabK (κ : KA) (H : Hp) (P : Addr) (q : Str) : Prop := ∃ ps : Array Value, H P = some (.tbl ps) ∧ TriplesOk ps.toList ∧ ∀ (pos : Pos) (cv : Value), codeAmong pos ps.toList = some cv → ∃ c, cv = .ref c ∧ At κ H c (LamX.CodeO c q)
theorem TabK.move {κ κ' : KA} {H H' : Hp} {P : Addr} {q : Str} (t : TabK κ H P q) (hP : H' P = H P) (h : ∀ c, At κ H c (LamX.CodeO c q) → At κ' H' c (LamX.CodeO c q)) : TabK κ' H' P q := by
  obtain ⟨ps, h1, h2, h3⟩ := t
  refine ⟨ps, hP.trans h1, h2, fun pos cv hc => ?_⟩
  obtain ⟨c, e1, e2⟩ := h3 pos cv hc
  exact ⟨c, e1, h c e2⟩
theorem TabK.tbl {κ : KA} {H : Hp} {P : Addr} {q : Str} (t : TabK κ H P q) : ∃ ps, H P = some (.tbl ps) := let ⟨ps, h, _⟩ := t; ⟨ps, h⟩
def NoTbl (H : Hp) (a : Addr) : Prop := ∀ ps, H a ≠ some (.tbl ps)
theorem noTbl_none {H : Hp} {a : Addr} (h : H a = none) : NoTbl H a := fun ps e => by rw [h] at e; cases e
structure StoOk (g : Gc) (κ : KA) (H : Hp) (μ : Sto) : Prop where
  len : κ.cs.length = μ.length
  inj : ∀ (i j : Nat) (a : Addr), κ.cs[i]? = some (some a) → κ.cs[j]? = some (some a) → i = j
  at_ : ∀ (i : Nat) (c : CO), μ[i]? = some c → ∃ a, κ.cs[i]? = some a ∧ RelC g κ H c a
  gst : ∀ a ∈ κ.gh, (∃ o, H a = some o) ∧ some a ∉ κ.cs
  tbs : ∀ p ∈ g.T, p.1 ∈ κ.gh ∧ TabK κ H p.1 p.2

/-- what may have come to pass: what is frozen stays, cells may die, new ones may come -/
structure Ext0 (κ : KA) (H : Hp) (κ' : KA) (H' : Hp) : Prop where
  keep : ∀ a o, H a = some o → ¬ κ.has a → H' a = some o
  sep : ∀ a o, H a = some o → ¬ κ.has a → ¬ κ'.has a
  len : κ.cs.length ≤ κ'.cs.length
  old : ∀ (i : Nat) (a : Addr), i < κ.cs.length → κ'.cs[i]? = some (some a) → κ.cs[i]? = some (some a)
structure Ext (κ : KA) (H : Hp) (κ' : KA) (H' : Hp) : Prop extends Ext0 κ H κ' H' where
  ghs : κ'.gh = κ.gh
  ghv : ∀ a ∈ κ.gh, NoTbl H a → H' a = H a

theorem Ext.refl {κ : KA} {H : Hp} : Ext κ H κ H := ⟨⟨fun _ _ h _ => h, fun _ _ _ h => h, Nat.le_refl _, fun _ _ _ h => h⟩, rfl, fun _ _ _ => rfl⟩
theorem Ext0.trans {κ κ1 κ2 : KA} {H H1 H2 : Hp} (a : Ext0 κ H κ1 H1) (b : Ext0 κ1 H1 κ2 H2) : Ext0 κ H κ2 H2 where
  keep := fun x o h n => b.keep x o (a.keep x o h n) (a.sep x o h n)
  sep := fun x o h n => b.sep x o (a.keep x o h n) (a.sep x o h n)
  len := Nat.le_trans a.len b.len
  old := fun i x h e => a.old i x h (b.old i x (Nat.lt_of_lt_of_le h a.len) e)
theorem Ext.trans {κ κ1 κ2 : KA} {H H1 H2 : Hp} (a : Ext κ H κ1 H1) (b : Ext κ1 H1 κ2 H2) : Ext κ H κ2 H2 :=
  ⟨a.toExt0.trans b.toExt0, b.ghs.trans a.ghs, fun x hx n => (b.ghv x (by rw [a.ghs]; exact hx) (fun ps => by rw [a.ghv x hx n]; exact n ps)).trans (a.ghv x hx n)⟩
theorem Ext0.at {κ κ1 : KA} {H H1 : Hp} (e : Ext0 κ H κ1 H1) {a : Addr} {o : HO} (h : At κ H a o) : At κ1 H1 a o := ⟨e.keep a o h.1 h.2, e.sep a o h.1 h.2⟩
theorem FrL.ext0 {g : Gc} {κ κ1 : KA} {H H1 : Hp} {a : Addr} {vs : List V} (e : Ext0 κ H κ1 H1) (h : FrL g κ H a vs) : FrL g κ1 H1 a vs := by
  rcases h with h | ⟨ob, h⟩ | h
  · exact .inl (e.at h)
  · exact .inr (.inl ⟨ob, e.at h⟩)
  · exact .inr (.inr h)
theorem FrT.ext0 {g : Gc} {κ κ1 : KA} {H H1 : Hp} {a : Addr} {vs : List V} (e : Ext0 κ H κ1 H1) (h : FrT g κ H a vs) : FrT g κ1 H1 a vs := by
  rcases h with ⟨ob, d, h⟩ | h
  · exact .inl ⟨ob, d, e.at h⟩
  · exact .inr h

section
variable {g : Gc} {κ κ1 : KA} {H H1 : Hp}
mutual
theorem Rel.ext0 (e : Ext0 κ H κ1 H1) : ∀ {d : DV} {v : V}, Rel g κ H d v → Rel g κ1 H1 d v
  | .non, _, h => by simpa only [Rel] using h
  | .bl _, _, h => by simpa only [Rel] using h
  | .int _, _, h => by simpa only [Rel] using h
  | .str _, _, h => by simpa only [Rel] using h
  | .ty _, _, h => by simpa only [Rel] using h
  | .gl _, _, h => by simpa only [Rel] using h
  | .tup xs, v, h => by
    simp only [Rel] at h ⊢
    obtain ⟨a, vs, h1, h2, h3⟩ := h
    exact ⟨a, vs, h1, h2.ext0 e, RelL.ext0 e h3⟩
  | .lst xs, v, h => by
    simp only [Rel] at h ⊢
    obtain ⟨a, vs, h1, h2, h3⟩ := h
    exact ⟨a, vs, h1, e.at h2, RelL.ext0 e h3⟩
  | .scr xs, v, h => by
    simp only [Rel] at h ⊢
    obtain ⟨a, vs, h1, h2, h3⟩ := h
    exact ⟨a, vs, h1, h2.ext0 e, RelL.ext0 e h3⟩
  | .dct ks xs, v, h => by
    simp only [Rel] at h ⊢
    obtain ⟨a, vs, h1, h2, hl, h3⟩ := h
    exact ⟨a, vs, h1, e.at h2, hl, RelL.ext0 e h3⟩
  | .cell i, v, h => by
    simp only [Rel] at h ⊢
    exact ⟨Nat.lt_of_lt_of_le h.1 e.len, fun a ha => h.2 a (e.old i a h.1 ha)⟩
  | .obj c ns xs, v, h => by
    simp only [Rel] at h ⊢
    obtain ⟨a, dx, vs, h1, h2, hl, h3⟩ := h
    exact ⟨a, dx, vs, h1, e.at h2, hl, RelL.ext0 e h3⟩
  | .exn c ns xs, v, h => by
    simp only [Rel] at h ⊢
    obtain ⟨a, d, vs, h0, h1, h2, hl, h3⟩ := h
    exact ⟨a, d, vs, h0, h1, e.at h2, hl, RelL.ext0 e h3⟩
theorem RelL.ext0 (e : Ext0 κ H κ1 H1) : ∀ {xs : List DV} {vs : List V}, RelL g κ H xs vs → RelL g κ1 H1 xs vs
  | [], _, h => by simpa only [RelL] using h
  | x :: xs, vs, h => by
    simp only [RelL] at h ⊢
    obtain ⟨v, r, h1, h2, h3⟩ := h
    exact ⟨v, r, h1, Rel.ext0 e h2, RelL.ext0 e h3⟩
end
end
theorem FrL.ext {g : Gc} {κ κ1 : KA} {H H1 : Hp} {a : Addr} {vs : List V} (e : Ext κ H κ1 H1) (h : FrL g κ H a vs) : FrL g κ1 H1 a vs := h.ext0 e.toExt0
theorem FrT.ext {g : Gc} {κ κ1 : KA} {H H1 : Hp} {a : Addr} {vs : List V} (e : Ext κ H κ1 H1) (h : FrT g κ H a vs) : FrT g κ1 H1 a vs := h.ext0 e.toExt0
theorem Rel.ext {g : Gc} {κ κ1 : KA} {H H1 : Hp} {d : DV} {v : V} (e : Ext κ H κ1 H1) (h : Rel g κ H d v) : Rel g κ1 H1 d v := h.ext0 e.toExt0
theorem RelL.ext {g : Gc} {κ κ1 : KA} {H H1 : Hp} {d : List DV} {v : List V} (e : Ext κ H κ1 H1) (h : RelL g κ H d v) : RelL g κ1 H1 d v := h.ext0 e.toExt0
theorem RelL.length {g : Gc} {κ : KA} {H : Hp} : ∀ {xs : List DV} {vs : List V}, RelL g κ H xs vs → xs.length = vs.length
  | [], _, h => by simp only [RelL] at h; subst h; rfl
  | x :: xs, vs, h => by
    simp only [RelL] at h
    obtain ⟨v, r, h1, h2, h3⟩ := h
    subst h1
    simp [RelL.length h3]
theorem RelL.cons {g : Gc} {κ : KA} {H : Hp} {x : DV} {xs : List DV} {v : V} {vs : List V} (a : Rel g κ H x v) (b : RelL g κ H xs vs) : RelL g κ H (x :: xs) (v :: vs) := by
  simp only [RelL]; exact ⟨v, vs, rfl, a, b⟩
theorem RelL.nil {g : Gc} {κ : KA} {H : Hp} : RelL g κ H [] [] := by simp only [RelL]
theorem RelL.of_cons {g : Gc} {κ : KA} {H : Hp} {x : DV} {xs : List DV} {vs : List V} (h : RelL g κ H (x :: xs) vs) : ∃ v r, vs = v :: r ∧ Rel g κ H x v ∧ RelL g κ H xs r := by
  simpa only [RelL] using h
theorem RelL.of_nil {g : Gc} {κ : KA} {H : Hp} {vs : List V} (h : RelL g κ H [] vs) : vs = [] := by simpa only [RelL] using h
theorem RelL.append {g : Gc} {κ : KA} {H : Hp} : ∀ {xs ys : List DV} {vs ws : List V}, RelL g κ H xs vs → RelL g κ H ys ws → RelL g κ H (xs ++ ys) (vs ++ ws)
  | [], _, _, _, a, b => by cases a.of_nil; exact b
  | x :: xs, _, _, _, a, b => by
    obtain ⟨v, r, rfl, h1, h2⟩ := a.of_cons
    exact (RelL.cons h1 (RelL.append h2 b))
theorem RelL.get {g : Gc} {κ : KA} {H : Hp} : ∀ {xs : List DV} {vs : List V} {i : Nat} {d : DV}, RelL g κ H xs vs → xs[i]? = some d → ∃ v, vs[i]? = some v ∧ Rel g κ H d v
  | [], _, _, _, _, e => by simp at e
  | x :: xs, _, 0, d, a, e => by
    obtain ⟨v, r, rfl, h1, h2⟩ := a.of_cons
    simp at e; subst e; exact ⟨v, rfl, h1⟩
  | x :: xs, _, i + 1, d, a, e => by
    obtain ⟨v, r, rfl, h1, h2⟩ := a.of_cons
    obtain ⟨w, h3, h4⟩ := RelL.get (i := i) h2 (by simpa using e)
    exact ⟨w, by simpa using h3, h4⟩
theorem RelL.get' {g : Gc} {κ : KA} {H : Hp} : ∀ {xs : List DV} {vs : List V} {i : Nat} {v : V}, RelL g κ H xs vs → vs[i]? = some v → ∃ d, xs[i]? = some d ∧ Rel g κ H d v := fun {xs vs i v} h e => by
  have hl := h.length
  have hi : i < xs.length := by rw [hl]; exact (List.getElem?_eq_some_iff.mp e).1
  obtain ⟨w, h1, h2⟩ := h.get (List.getElem?_eq_getElem hi)
  rw [e] at h1; cases h1
  exact ⟨_, List.getElem?_eq_getElem hi, h2⟩
theorem RelL.set {g : Gc} {κ : KA} {H : Hp} {d : DV} {v : V} (r : Rel g κ H d v) : ∀ {xs : List DV} {vs : List V} (i : Nat), RelL g κ H xs vs → RelL g κ H (xs.set i d) (vs.set i v)
  | [], _, _, a => by cases a.of_nil; exact a
  | x :: xs, _, 0, a => by
    obtain ⟨v', r', rfl, h1, h2⟩ := a.of_cons
    exact RelL.cons r h2
  | x :: xs, _, i + 1, a => by
    obtain ⟨v', r', rfl, h1, h2⟩ := a.of_cons
    exact RelL.cons h1 (RelL.set r i h2)
theorem RelL.take {g : Gc} {κ : KA} {H : Hp} : ∀ {xs : List DV} {vs : List V} (n : Nat), RelL g κ H xs vs → RelL g κ H (xs.take n) (vs.take n)
  | xs, vs, 0, a => by simp [RelL]
  | [], _, n + 1, a => by cases a.of_nil; simp [RelL]
  | x :: xs, _, n + 1, a => by
    obtain ⟨v', r', rfl, h1, h2⟩ := a.of_cons
    exact RelL.cons h1 (RelL.take n h2)
theorem RelL.drop {g : Gc} {κ : KA} {H : Hp} : ∀ {xs : List DV} {vs : List V} (n : Nat), RelL g κ H xs vs → RelL g κ H (xs.drop n) (vs.drop n)
  | xs, vs, 0, a => a
  | [], _, n + 1, a => by cases a.of_nil; simp [RelL]
  | x :: xs, _, n + 1, a => by
    obtain ⟨v', r', rfl, h1, h2⟩ := a.of_cons
    exact RelL.drop n h2
theorem RelL.ints {g : Gc} {κ : KA} {H : Hp} : ∀ (ns : List Int), RelL g κ H (ns.map DV.int) (ns.map V.int)
  | [] => RelL.nil
  | n :: ns => RelL.cons (by simp [Rel]) (RelL.ints ns)

theorem RelC.ext0 {g : Gc} {κ κ1 : KA} {H H1 : Hp} (e : Ext0 κ H κ1 H1) {c : CO} {a : Option Addr} (k : ∀ p, a = some p → H1 p = H p) (h : RelC g κ H c a) : RelC g κ1 H1 c a := by
  cases c with
  | dead => exact h
  | lst xs =>
    obtain ⟨p, vs, rfl, h1, h2⟩ := h
    exact ⟨p, vs, rfl, (k p rfl).trans h1, h2.ext0 e⟩
  | ins c ns xs =>
    obtain ⟨p, dx, vs, rfl, h1, hl, h2⟩ := h
    exact ⟨p, dx, vs, rfl, (k p rfl).trans h1, hl, h2.ext0 e⟩
/-- a live cell stands in H -/
theorem StoOk.live {g : Gc} {κ : KA} {H : Hp} {μ : Sto} (s : StoOk g κ H μ) {i : Nat} {p : Addr} (h : κ.cs[i]? = some (some p)) : ∃ o, H p = some o := by
  have hi : i < μ.length := by rw [← s.len]; exact (List.getElem?_eq_some_iff.mp h).1
  obtain ⟨a, h1, h2⟩ := s.at_ i _ (List.getElem?_eq_getElem hi)
  rw [h] at h1; cases h1
  revert h2
  cases μ[i] with
  | dead => intro h2; exact nomatch h2
  | lst xs => intro ⟨q, vs, e, h3, _⟩; cases e; exact ⟨_, h3⟩
  | ins c ns xs => intro ⟨q, dx, vs, e, h3, _⟩; cases e; exact ⟨_, h3⟩
theorem StoOk.fresh {g : Gc} {κ : KA} {H : Hp} {μ : Sto} (s : StoOk g κ H μ) {p : Addr} (h : H p = none) : ¬ κ.has p := fun m => by
  rcases m with m | m
  · obtain ⟨i, hi⟩ := List.getElem?_of_mem m
    obtain ⟨o, ho⟩ := s.live hi
    rw [h] at ho; cases ho
  · obtain ⟨⟨o, ho⟩, _⟩ := s.gst p m
    rw [h] at ho; cases ho

/-- a new object that is no cell -/
theorem Ext0.new {κ : KA} {H : Hp} {p : Addr} {o : HO} (h : H p = none) : Ext0 κ H κ (upd H p o) :=
  ⟨fun a o' ha _ => by rw [upd_ne (ne_of_none ha h)]; exact ha, fun _ _ _ n => n, Nat.le_refl _, fun _ _ _ e => e⟩
theorem Ext.new {g : Gc} {κ : KA} {H : Hp} {μ : Sto} {p : Addr} {o : HO} (s : StoOk g κ H μ) (h : H p = none) : Ext κ H κ (upd H p o) :=
  ⟨Ext0.new h, rfl, fun a ha _ => by obtain ⟨⟨u, hu⟩, _⟩ := s.gst a ha; exact upd_ne (ne_of_none hu h)⟩
theorem StoOk.new {g : Gc} {κ : KA} {H : Hp} {μ : Sto} {p : Addr} {o : HO} (s : StoOk g κ H μ) (h : H p = none) : StoOk g κ (upd H p o) μ :=
  ⟨s.len, s.inj, fun i c hc => by
    obtain ⟨a, h1, h2⟩ := s.at_ i c hc
    refine ⟨a, h1, h2.ext0 (Ext0.new h) fun q hq => ?_⟩
    subst hq
    obtain ⟨o', ho'⟩ := s.live h1
    exact upd_ne (ne_of_none ho' h), fun a ha => by
    obtain ⟨⟨u, hu⟩, hn⟩ := s.gst a ha
    exact ⟨⟨u, by rw [upd_ne (ne_of_none hu h)]; exact hu⟩, hn⟩, fun q hq => by
    obtain ⟨m, t⟩ := s.tbs q hq
    obtain ⟨ps, e⟩ := t.tbl
    exact ⟨m, t.move (upd_ne (ne_of_none e h)) fun c z => (Ext0.new h).at z⟩⟩
/-- a new cell -/
def KA.more (κ : KA) (p : Addr) : KA := ⟨κ.cs ++ [some p], κ.gh⟩
theorem Ext.newCell {g : Gc} {κ : KA} {H : Hp} {μ : Sto} {p : Addr} {o : HO} (s : StoOk g κ H μ) (h : H p = none) : Ext κ H (κ.more p) (upd H p o) where
  keep := fun a o' ha _ => by rw [upd_ne (ne_of_none ha h)]; exact ha
  sep := fun a o' ha n m => by
    rcases m with m | m
    · rcases List.mem_append.mp m with m | m
      · exact n (.inl m)
      · have : a = p := by simpa using m
        rw [this, h] at ha; cases ha
    · exact n (.inr m)
  len := by simp [KA.more]
  old := fun i a hi e => by
    have e : (κ.cs ++ [some p])[i]? = some (some a) := e
    rwa [List.getElem?_append_left hi] at e
  ghs := rfl
  ghv := fun a ha _ => by obtain ⟨⟨u, hu⟩, _⟩ := s.gst a ha; exact upd_ne (ne_of_none hu h)
theorem StoOk.newCell {g : Gc} {κ : KA} {H : Hp} {μ : Sto} {p : Addr} {o : HO} {c : CO} (s : StoOk g κ H μ) (h : H p = none) (hc : RelC g (κ.more p) (upd H p o) c (some p)) : StoOk g (κ.more p) (upd H p o) (μ ++ [c]) where
  len := by simp [KA.more, s.len]
  inj := fun i j a hi hj => by
    have key : ∀ (i : Nat), (κ.cs ++ [some p])[i]? = some (some a) → (i < κ.cs.length ∧ κ.cs[i]? = some (some a)) ∨ (i = κ.cs.length ∧ a = p) := fun i hi => by
      by_cases hl : i < κ.cs.length
      · rw [List.getElem?_append_left hl] at hi; exact .inl ⟨hl, hi⟩
      · rw [List.getElem?_append_right (by omega)] at hi
        have : i - κ.cs.length = 0 := by
          have := (List.getElem?_eq_some_iff.mp hi).1
          simp at this; omega
        rw [this] at hi
        have e : p = a := by simpa using hi
        exact .inr ⟨by omega, e.symm⟩
    have nk : ∀ i : Nat, κ.cs[i]? = some (some p) → False := fun i hi => s.fresh h (.inl (List.mem_of_getElem? hi))
    rcases key i hi with ⟨h1, h2⟩ | ⟨h1, h2⟩ <;> rcases key j hj with ⟨h3, h4⟩ | ⟨h3, h4⟩
    · exact s.inj i j a h2 h4
    · rw [h4] at h2; exact (nk _ h2).elim
    · rw [h2] at h4; exact (nk _ h4).elim
    · omega
  at_ := fun i c' hc' => by
    by_cases hl : i < μ.length
    · rw [List.getElem?_append_left hl] at hc'
      obtain ⟨a, h1, h2⟩ := s.at_ i c' hc'
      refine ⟨a, ?_, h2.ext0 (Ext.newCell s h).toExt0 fun q hq => ?_⟩
      · show (κ.cs ++ [some p])[i]? = some a
        rw [List.getElem?_append_left (by rw [s.len]; exact hl)]; exact h1
      · subst hq
        obtain ⟨o', ho'⟩ := s.live h1
        exact upd_ne (ne_of_none ho' h)
    · rw [List.getElem?_append_right (by omega)] at hc'
      have e0 : i - μ.length = 0 := by
        have := (List.getElem?_eq_some_iff.mp hc').1
        simp at this; omega
      rw [e0] at hc'
      have ec : c = c' := by simpa using hc'
      subst ec
      refine ⟨some p, ?_, hc⟩
      show (κ.cs ++ [some p])[i]? = some (some p)
      rw [List.getElem?_append_right (by rw [s.len]; omega), s.len, e0]; rfl
  gst := fun a ha => by
    obtain ⟨⟨u, hu⟩, hn⟩ := s.gst a ha
    refine ⟨⟨u, by rw [upd_ne (ne_of_none hu h)]; exact hu⟩, fun m => ?_⟩
    rcases List.mem_append.mp m with m | m
    · exact hn m
    · have : a = p := by simpa using m
      rw [this, h] at hu; cases hu
  tbs := fun q hq => by
    obtain ⟨m, t⟩ := s.tbs q hq
    obtain ⟨ps, e⟩ := t.tbl
    exact ⟨m, t.move (upd_ne (ne_of_none e h)) fun c z => (Ext.newCell s h).at z⟩
/-- a cell is written -/
theorem Ext0.write {κ : KA} {H : Hp} {p : Addr} {o : HO} (h : κ.has p) : Ext0 κ H κ (upd H p o) :=
  ⟨fun a o' ha n => by rw [upd_ne (fun e => n (by rw [e]; exact h))]; exact ha, fun _ _ _ n => n, Nat.le_refl _, fun _ _ _ e => e⟩
theorem Ext.write {g : Gc} {κ : KA} {H : Hp} {μ : Sto} {i : Nat} {p : Addr} {o : HO} (s : StoOk g κ H μ) (h : κ.cs[i]? = some (some p)) : Ext κ H κ (upd H p o) :=
  ⟨Ext0.write (.inl (List.mem_of_getElem? h)), rfl, fun a ha _ => upd_ne fun e => (s.gst a ha).2 (by rw [e]; exact List.mem_of_getElem? h)⟩
theorem StoOk.write {g : Gc} {κ : KA} {H : Hp} {μ : Sto} {i : Nat} {p : Addr} {o : HO} {c : CO} (s : StoOk g κ H μ) (h : κ.cs[i]? = some (some p)) (hc : RelC g κ (upd H p o) c (some p)) : StoOk g κ (upd H p o) (μ.set i c) :=
  ⟨by simp [s.len], s.inj, fun j c' hc' => by
    by_cases hj : j = i
    · subst hj
      have hl : j < μ.length := by rw [← s.len]; exact (List.getElem?_eq_some_iff.mp h).1
      rw [List.getElem?_set_self hl] at hc'
      cases hc'
      exact ⟨some p, h, hc⟩
    · rw [List.getElem?_set_ne (fun e => hj e.symm)] at hc'
      obtain ⟨a, h1, h2⟩ := s.at_ j c' hc'
      refine ⟨a, h1, h2.ext0 (Ext.write s h).toExt0 fun q hq => ?_⟩
      subst hq
      exact upd_ne fun e => hj (s.inj j i q h1 (by rw [e]; exact h)), fun a ha => by
    obtain ⟨⟨u, hu⟩, hn⟩ := s.gst a ha
    exact ⟨⟨u, by rw [upd_ne (fun e => hn (by rw [e]; exact List.mem_of_getElem? h))]; exact hu⟩, hn⟩, fun q hq => by
    obtain ⟨m, t⟩ := s.tbs q hq
    exact ⟨m, t.move (upd_ne fun e => (s.gst _ m).2 (by rw [e]; exact List.mem_of_getElem? h)) fun c z => (Ext.write s h).at z⟩⟩
/-- a cell dies -/
def KA.kill (κ : KA) (i : Nat) : KA := ⟨κ.cs.set i none, κ.gh⟩
theorem Ext.kill {κ : KA} {H : Hp} {i : Nat} : Ext κ H (κ.kill i) H where
  keep := fun a o' ha n => ha
  sep := fun a o h n m => by
    rcases m with m | m
    · rcases List.mem_or_eq_of_mem_set m with m | m
      · exact n (.inl m)
      · exact nomatch m
    · exact n (.inr m)
  len := by simp [KA.kill]
  old := fun j a hj e => by
    have e : (κ.cs.set i none)[j]? = some (some a) := e
    by_cases hji : j = i
    · subst hji; rw [List.getElem?_set_self hj] at e; cases e
    · rwa [List.getElem?_set_ne (fun e => hji e.symm)] at e
  ghs := rfl
  ghv := fun _ _ _ => rfl
theorem StoOk.kill {g : Gc} {κ : KA} {H : Hp} {μ : Sto} {i : Nat} (s : StoOk g κ H μ) : StoOk g (κ.kill i) H (μ.set i .dead) where
  len := by simp [s.len, KA.kill]
  inj := fun j k a hj hk => s.inj j k a (Ext.kill (H := H).old j a (by have := (List.getElem?_eq_some_iff.mp hj).1; simpa [KA.kill] using this) hj) (Ext.kill (H := H).old k a (by have := (List.getElem?_eq_some_iff.mp hk).1; simpa [KA.kill] using this) hk)
  at_ := fun j c' hc' => by
    show ∃ a, (κ.cs.set i none)[j]? = some a ∧ _
    by_cases hj : j = i
    · subst hj
      have hl : j < μ.length := by have := (List.getElem?_eq_some_iff.mp hc').1; simpa using this
      rw [List.getElem?_set_self hl] at hc'
      cases hc'
      exact ⟨none, by rw [List.getElem?_set_self (by rw [s.len]; exact hl)], rfl⟩
    · rw [List.getElem?_set_ne (fun e => hj e.symm)] at hc'
      obtain ⟨a, h1, h2⟩ := s.at_ j c' hc'
      exact ⟨a, by rw [List.getElem?_set_ne (fun e => hj e.symm)]; exact h1, h2.ext0 Ext.kill.toExt0 fun _ _ => rfl⟩
  gst := fun a ha => by
    obtain ⟨hu, hn⟩ := s.gst a ha
    refine ⟨hu, fun m => ?_⟩
    rcases List.mem_or_eq_of_mem_set m with m | m
    · exact hn m
    · exact nomatch m
  tbs := fun q hq => by
    obtain ⟨m, t⟩ := s.tbs q hq
    exact ⟨m, t.move rfl fun c z => Ext.kill.at z⟩
/-- a frozen cell's list stands apart from all cells -/
theorem StoOk.frozen {g : Gc} {κ : KA} {H : Hp} {μ : Sto} (s : StoOk g κ H μ) {i : Nat} {p : Addr} (h : κ.cs[i]? = some (some p)) : ¬ (κ.kill i).has p := fun m => by
  rcases m with m | m
  · obtain ⟨j, hj⟩ := List.getElem?_of_mem m
    have hj : (κ.cs.set i none)[j]? = some (some p) := hj
    by_cases hji : j = i
    · subst hji
      have hl : j < κ.cs.length := (List.getElem?_eq_some_iff.mp h).1
      rw [List.getElem?_set_self hl] at hj; cases hj
    · rw [List.getElem?_set_ne (fun e => hji e.symm)] at hj
      exact hji (s.inj j i p hj h)
  · exact (s.gst p m).2 (List.mem_of_getElem? h)
/-- a hidden list comes, changes, is known at last -/
def KA.hide (κ : KA) (p : Addr) : KA := ⟨κ.cs, p :: κ.gh⟩
theorem Ext0.hide {κ : KA} {H : Hp} {p : Addr} {o : HO} (h : H p = none) : Ext0 κ H (κ.hide p) (upd H p o) where
  keep := fun a o' ha _ => by rw [upd_ne (ne_of_none ha h)]; exact ha
  sep := fun a o' ha n m => by
    rcases m with m | m
    · exact n (.inl m)
    · rcases List.mem_cons.mp m with m | m
      · rw [m, h] at ha; cases ha
      · exact n (.inr m)
  len := Nat.le_refl _
  old := fun _ _ _ e => e
theorem StoOk.hide {g : Gc} {κ : KA} {H : Hp} {μ : Sto} {p : Addr} {o : HO} (s : StoOk g κ H μ) (h : H p = none) : StoOk g (κ.hide p) (upd H p o) μ where
  len := s.len
  inj := s.inj
  at_ := fun i c hc => by
    obtain ⟨a, h1, h2⟩ := s.at_ i c hc
    refine ⟨a, h1, h2.ext0 (Ext0.hide h) fun q hq => ?_⟩
    subst hq
    obtain ⟨o', ho'⟩ := s.live h1
    exact upd_ne (ne_of_none ho' h)
  gst := fun a ha => by
    rcases List.mem_cons.mp ha with e | ha
    · subst e
      exact ⟨⟨o, upd_same⟩, fun m => s.fresh h (.inl m)⟩
    · obtain ⟨⟨u, hu⟩, hn⟩ := s.gst a ha
      exact ⟨⟨u, by rw [upd_ne (ne_of_none hu h)]; exact hu⟩, hn⟩
  tbs := fun q hq => by
    obtain ⟨m, t⟩ := s.tbs q hq
    obtain ⟨ps, e⟩ := t.tbl
    exact ⟨List.mem_cons_of_mem _ m, t.move (upd_ne (ne_of_none e h)) fun c z => (Ext0.hide h).at z⟩
theorem StoOk.fill {g : Gc} {κ : KA} {H : Hp} {μ : Sto} {p : Addr} {o : HO} (s : StoOk g κ H μ) (h : p ∈ κ.gh) (nt : NoTbl H p) : StoOk g κ (upd H p o) μ where
  len := s.len
  inj := s.inj
  at_ := fun i c hc => by
    obtain ⟨a, h1, h2⟩ := s.at_ i c hc
    refine ⟨a, h1, h2.ext0 (Ext0.write (.inr h)) fun q hq => ?_⟩
    subst hq
    exact upd_ne fun e => (s.gst p h).2 (by rw [← e]; exact List.mem_of_getElem? h1)
  gst := fun a ha => by
    obtain ⟨⟨u, hu⟩, hn⟩ := s.gst a ha
    by_cases e : a = p
    · subst e; exact ⟨⟨o, upd_same⟩, hn⟩
    · exact ⟨⟨u, by rw [upd_ne e]; exact hu⟩, hn⟩
  tbs := fun q hq => by
    obtain ⟨m, t⟩ := s.tbs q hq
    obtain ⟨ps, e⟩ := t.tbl
    exact ⟨m, t.move (upd_ne fun z => nt ps (by rw [← z]; exact e)) fun c z => (Ext0.write (.inr h)).at z⟩
theorem Ext0.show' {κ : KA} {H : Hp} {p : Addr} : Ext0 (κ.hide p) H κ H where
  keep := fun _ _ h _ => h
  sep := fun a o h n m => n (m.elim .inl fun m => .inr (List.mem_cons_of_mem _ m))
  len := Nat.le_refl _
  old := fun _ _ _ e => e
theorem StoOk.show' {g : Gc} {κ : KA} {H : Hp} {μ : Sto} {p : Addr} (s : StoOk g (κ.hide p) H μ) (nt : NoTbl H p) : StoOk g κ H μ where
  len := s.len
  inj := s.inj
  at_ := fun i c hc => by
    obtain ⟨a, h1, h2⟩ := s.at_ i c hc
    exact ⟨a, h1, h2.ext0 Ext0.show' fun _ _ => rfl⟩
  gst := fun a ha => s.gst a (List.mem_cons_of_mem _ ha)
  tbs := fun q hq => by
    obtain ⟨m, t⟩ := s.tbs q hq
    refine ⟨(List.mem_cons.mp m).resolve_left fun e => ?_, t.move rfl fun c z => Ext0.show'.at z⟩
    obtain ⟨ps, h⟩ := t.tbl
    exact nt ps (by rw [← e]; exact h)

/-! ### data below a bound: its cells -/
mutual
def DV.low (n : Nat) : DV → Bool
  | .tup xs => lowL n xs
  | .lst xs => lowL n xs
  | .scr xs => lowL n xs
  | .dct _ xs => lowL n xs
  | .obj _ _ xs => lowL n xs
  | .exn _ _ xs => lowL n xs
  | .cell i => decide (i < n)
  | _ => true
def lowL (n : Nat) : List DV → Bool
  | [] => true
  | x :: xs => x.low n && lowL n xs
end
def CO.low (n : Nat) : CO → Bool
  | .dead => true
  | .lst xs => lowL n xs
  | .ins _ _ xs => lowL n xs
mutual
theorem DV.low_mono {m n : Nat} (h : m ≤ n) : ∀ {d : DV}, d.low m = true → d.low n = true
  | .non, _ => rfl
  | .bl _, _ => rfl
  | .int _, _ => rfl
  | .str _, _ => rfl
  | .ty _, _ => rfl
  | .gl _, _ => rfl
  | .tup xs, e => by simp only [DV.low] at e ⊢; exact lowL_mono h e
  | .lst xs, e => by simp only [DV.low] at e ⊢; exact lowL_mono h e
  | .scr xs, e => by simp only [DV.low] at e ⊢; exact lowL_mono h e
  | .dct _ xs, e => by simp only [DV.low] at e ⊢; exact lowL_mono h e
  | .obj _ _ xs, e => by simp only [DV.low] at e ⊢; exact lowL_mono h e
  | .exn _ _ xs, e => by simp only [DV.low] at e ⊢; exact lowL_mono h e
  | .cell i, e => by simp only [DV.low, decide_eq_true_eq] at e ⊢; omega
theorem lowL_mono {m n : Nat} (h : m ≤ n) : ∀ {xs : List DV}, lowL m xs = true → lowL n xs = true
  | [], _ => rfl
  | x :: xs, e => by
    simp only [lowL, Bool.and_eq_true] at e ⊢
    exact ⟨DV.low_mono h e.1, lowL_mono h e.2⟩
end
section
variable {g : Gc} {κ : KA} {H : Hp} {n : Nat}
def KA.cut (κ : KA) (n : Nat) : KA := ⟨κ.cs.take n, κ.gh⟩
theorem mem_take_of {p : Addr} (h : ¬ κ.has p) : ¬ (κ.cut n).has p := fun m => h (m.elim (fun m => .inl (List.mem_of_mem_take m)) .inr)
theorem At.cut {a : Addr} {o : HO} (h : At κ H a o) : At (κ.cut n) H a o := ⟨h.1, mem_take_of h.2⟩
mutual
theorem Rel.cut (hn : n ≤ κ.cs.length) : ∀ {d : DV} {v : V}, Rel g κ H d v → d.low n = true → Rel g (κ.cut n) H d v
  | .non, _, h, _ => by simpa only [Rel] using h
  | .bl _, _, h, _ => by simpa only [Rel] using h
  | .int _, _, h, _ => by simpa only [Rel] using h
  | .str _, _, h, _ => by simpa only [Rel] using h
  | .ty _, _, h, _ => by simpa only [Rel] using h
  | .gl _, _, h, _ => by simpa only [Rel] using h
  | .tup xs, v, h, b => by
    simp only [Rel] at h ⊢
    simp only [DV.low] at b
    obtain ⟨a, vs, h1, h2, h3⟩ := h
    refine ⟨a, vs, h1, ?_, RelL.cut hn h3 b⟩
    rcases h2 with ⟨ob, d, h2⟩ | h2
    · exact .inl ⟨ob, d, h2.cut⟩
    · exact .inr h2
  | .lst xs, v, h, b => by
    simp only [Rel] at h ⊢
    simp only [DV.low] at b
    obtain ⟨a, vs, h1, h2, h3⟩ := h
    exact ⟨a, vs, h1, h2.cut, RelL.cut hn h3 b⟩
  | .scr xs, v, h, b => by
    simp only [Rel] at h ⊢
    simp only [DV.low] at b
    obtain ⟨a, vs, h1, h2, h3⟩ := h
    refine ⟨a, vs, h1, ?_, RelL.cut hn h3 b⟩
    rcases h2 with h2 | ⟨ob, h2⟩ | h2
    · exact .inl h2.cut
    · exact .inr (.inl ⟨ob, h2.cut⟩)
    · exact .inr (.inr h2)
  | .dct ks xs, v, h, b => by
    simp only [Rel] at h ⊢
    simp only [DV.low] at b
    obtain ⟨a, vs, h1, h2, hl, h3⟩ := h
    exact ⟨a, vs, h1, h2.cut, hl, RelL.cut hn h3 b⟩
  | .cell i, v, h, b => by
    simp only [Rel] at h ⊢
    simp only [DV.low, decide_eq_true_eq] at b
    refine ⟨by simp [KA.cut]; omega, fun a ha => h.2 a ?_⟩
    have ha : (κ.cs.take n)[i]? = some (some a) := ha
    rwa [List.getElem?_take_of_lt b] at ha
  | .obj c ns xs, v, h, b => by
    simp only [Rel] at h ⊢
    simp only [DV.low] at b
    obtain ⟨a, dx, vs, h1, h2, hl, h3⟩ := h
    exact ⟨a, dx, vs, h1, h2.cut, hl, RelL.cut hn h3 b⟩
  | .exn c ns xs, v, h, b => by
    simp only [Rel] at h ⊢
    simp only [DV.low] at b
    obtain ⟨a, d, vs, h0, h1, h2, hl, h3⟩ := h
    exact ⟨a, d, vs, h0, h1, h2.cut, hl, RelL.cut hn h3 b⟩
theorem RelL.cut (hn : n ≤ κ.cs.length) : ∀ {xs : List DV} {vs : List V}, RelL g κ H xs vs → lowL n xs = true → RelL g (κ.cut n) H xs vs
  | [], _, h, _ => by simpa only [RelL] using h
  | x :: xs, vs, h, b => by
    simp only [RelL] at h ⊢
    simp only [lowL, Bool.and_eq_true] at b
    obtain ⟨v, r, h1, h2, h3⟩ := h
    exact ⟨v, r, h1, Rel.cut hn h2 b.1, RelL.cut hn h3 b.2⟩
end
theorem Ext.cut {κ κ' : KA} {H H' : Hp} (e : Ext κ H κ' H') : Ext κ H (κ'.cut κ.cs.length) H' where
  keep := e.keep
  sep := fun a o h n => mem_take_of (e.sep a o h n)
  len := by have := e.len; simp [KA.cut]; omega
  old := fun i a hi h => e.old i a hi (by
    have h : (κ'.cs.take κ.cs.length)[i]? = some (some a) := h
    rwa [List.getElem?_take_of_lt hi] at h)
  ghs := e.ghs
  ghv := e.ghv
theorem StoOk.cut {μ : Sto} (s : StoOk g κ H μ) (hn : n ≤ κ.cs.length) (hb : ∀ c ∈ μ.take n, c.low n = true) : StoOk g (κ.cut n) H (μ.take n) where
  len := by simp [s.len, KA.cut]
  inj := fun i j a hi hj => by
    have hi : (κ.cs.take n)[i]? = some (some a) := hi
    have hj : (κ.cs.take n)[j]? = some (some a) := hj
    have hli := (List.getElem?_eq_some_iff.mp hi).1
    have hlj := (List.getElem?_eq_some_iff.mp hj).1
    rw [List.length_take] at hli hlj
    rw [List.getElem?_take_of_lt (by omega)] at hi hj
    exact s.inj i j a hi hj
  at_ := fun i c hc => by
    have hli := (List.getElem?_eq_some_iff.mp hc).1
    rw [List.length_take] at hli
    have hm := List.mem_of_getElem? hc
    rw [List.getElem?_take_of_lt (by omega)] at hc
    obtain ⟨a, h1, h2⟩ := s.at_ i c hc
    refine ⟨a, by show (κ.cs.take n)[i]? = some a; rw [List.getElem?_take_of_lt (by omega)]; exact h1, ?_⟩
    have b := hb c hm
    cases c with
    | dead => exact h2
    | lst xs =>
      obtain ⟨p, vs, rfl, h3, h4⟩ := h2
      exact ⟨p, vs, rfl, h3, h4.cut hn b⟩
    | ins c ns xs =>
      obtain ⟨p, dx, vs, rfl, h3, hl, h4⟩ := h2
      exact ⟨p, dx, vs, rfl, h3, hl, h4.cut hn b⟩
  gst := fun a ha => by
    obtain ⟨h1, h2⟩ := s.gst a ha
    exact ⟨h1, fun m => h2 (List.mem_of_mem_take m)⟩
  tbs := fun q hq => by
    obtain ⟨m, t⟩ := s.tbs q hq
    exact ⟨m, t.move rfl fun c z => z.cut⟩
end
end SD

set_option Elab.async false
set_option linter.all false
set_option maxRecDepth 100000
set_option maxHeartbeats 4000000
/-! Tuples told in full (the object without a dict of its own), so that their methods can be called: the rules that make them, the method rule. (To lie between SDa and SDb once FrT is turned.) -/
namespace L2
open PySem PySem.Spec PyProof.Rows
section
variable {X : Cx} {es : List Expr} {t : TA} {pos : Pos}
/-- (e, ..): a new tuple whose object is known -/
def tTupF (t : TA) : TE := fun σ H Q => t σ H fun xs H1 => xs.length ≤ sizeLine ∧ ∀ (p : Addr) (ob : Obj), H1 p = none → ob.dict = none → Q (.ref p) (upd H1 p (.frz ob (.tup xs)))
theorem pe_tupF {k : Nat} (h : PA X es t) : PE X (.Tuple es k pos) (tTupF t) := by
  refine ⟨fun pins s σ H Q I hq => wpAny_Tuple_spliced (thn (h.run pos pins s σ H _ I hq) fun us s1 z => ?_)⟩
  obtain ⟨xs, H1, I1, r, hz, q⟩ := z
  refine ⟨by rw [← r.length]; exact hz, ?_⟩
  have fr : H1 s1.heap.objs.size = none := I1.hok.fresh (Nat.le_refl _)
  have gt : (s1.heap.push { cls := .type "tuple", data := .seq us.toArray }).get? s1.heap.objs.size = some { cls := .type "tuple", data := .seq us.toArray } := Heap.get?_push_size _ rfl
  refine ⟨.ref s1.heap.objs.size, upd H1 s1.heap.objs.size (.frz { cls := .type "tuple", data := .seq us.toArray } (.tup xs)), I1.laid (t' := s1.toks) (fun b u e => Heap.get?_push_of_some _ e) (Nat.le_refl _) ?_, rfl, q _ _ fr rfl⟩
  exact ⟨gt, hz, us, r, _, gt, rfl, _, rfl⟩
/-- a new tuple laid, told in full -/
theorem Inv.tupF {pins : List (Addr × Obj)} {σ : St} {H : Hp} {s : Shared} {xs : List V} {us : List Value} {G : Heap} {tk : Nat} (I : Inv X pins σ H { s with heap := G }) (r : Vals xs us) (hz : xs.length ≤ sizeLine) :
    ∃ ob : Obj, ob.dict = none ∧ H G.objs.size = none ∧ Inv X pins σ (upd H G.objs.size (.frz ob (.tup xs))) { s with heap := G.push { cls := .type "tuple", data := .seq us.toArray }, toks := tk } := by
  have gt : (G.push { cls := .type "tuple", data := .seq us.toArray }).get? G.objs.size = some { cls := .type "tuple", data := .seq us.toArray } := Heap.get?_push_size _ rfl
  exact ⟨{ cls := .type "tuple", data := .seq us.toArray }, rfl, I.hok.fresh (Nat.le_refl _), I.laid (t' := tk) (fun b u e => Heap.get?_push_of_some _ e) (Nat.le_refl _) ⟨gt, hz, us, r, _, gt, rfl, _, rfl⟩⟩
/-- tuple(l), l a list -/
theorem call_tupleF : CallR X (.type "tuple") (fun xs H Q => ∃ p ys, xs = [.ref p] ∧ SqL X.K H p ys ∧ ∀ (l : Addr) (ob : Obj), H l = none → ob.dict = none → Q (.ref l) (upd H l (.frz ob (.tup ys)))) := by
  intro pins s σ H xs us Q I r h
  obtain ⟨p, ys, e, hq, q⟩ := h
  subst e
  obtain ⟨u, rfl, ru⟩ := vals1 r
  cases ru
  obtain ⟨its, rv, pl, hz⟩ := I.list hq
  have e1 := rv.length
  refine call_tuple_list pl.isList (fun G kp => ?_) (by simp only [List.size_toArray]; omega)
  obtain ⟨ob, d, n, J⟩ := Inv.tupF (tk := s.toks) (s := s) (I.kept (t' := s.toks) kp) rv hz
  exact ⟨.ref G.objs.size, _, J, rfl, q _ _ n d⟩
/-- t[a:b], not the whole -/
theorem sl_tupF : SlR X (fun x lo hi H Q => ∃ (a : Addr) (xs : List V), x = .ref a ∧ SqT X.K H a xs ∧ ¬ (HT.sIx xs.length 0 lo = 0 ∧ HT.sIx xs.length xs.length hi = xs.length) ∧
    ∀ (p : Addr) (ob : Obj), H p = none → ob.dict = none → Q (.ref p) (upd H p (.frz ob (.tup (cutV xs lo hi))))) := by
  intro pins s σ H x v vl vu lo hi sl Q I rx hs pl pu h
  obtain ⟨a, xs, e, hx, hw, q⟩ := h
  subst e
  cases rx
  obtain ⟨its, r, ht, hz⟩ := I.tuple hx
  have hl : its.toArray.size = xs.length := (List.size_toArray).trans r.length.symm
  refine ⟨"tuple", _, PyProof.Rows.slot_tuple_getitem.lookup, ht.typeIs, HT.getItem_tuple_cut ht hs pl pu (by rw [hl]; exact hw) ?_ (by rw [hl]; exact hz)⟩
  rw [hl]
  obtain ⟨ob, d, n, J⟩ := Inv.tupF (tk := s.toks) (s := s) I ((r.drop (HT.sIx xs.length 0 lo)).take (HT.sIx xs.length xs.length hi - HT.sIx xs.length 0 lo)) (Nat.le_trans (cutV_length xs lo hi) hz)
  exact ⟨.ref s.heap.objs.size, _, J, rfl, q _ _ n d⟩
/-- t[a:b]; the whole of it is t itself -/
theorem sl_tupFA : SlR X (fun x lo hi H Q => ∃ (a : Addr) (xs : List V), x = .ref a ∧ SqT X.K H a xs ∧ (HT.sIx xs.length 0 lo = 0 ∧ HT.sIx xs.length xs.length hi = xs.length → Q (.ref a) H) ∧
    (¬ (HT.sIx xs.length 0 lo = 0 ∧ HT.sIx xs.length xs.length hi = xs.length) → ∀ (p : Addr) (ob : Obj), H p = none → ob.dict = none → Q (.ref p) (upd H p (.frz ob (.tup (cutV xs lo hi)))))) := by
  intro pins s σ H x v vl vu lo hi sl Q I rx hs pl pu h
  obtain ⟨a, xs, e, hx, q1, q2⟩ := h
  by_cases hw : HT.sIx xs.length 0 lo = 0 ∧ HT.sIx xs.length xs.length hi = xs.length
  · exact sl_tupA pins s σ H x v vl vu lo hi sl Q I rx hs pl pu ⟨a, xs, e, hx, q1, fun n => absurd hw n⟩
  · exact sl_tupF pins s σ H x v vl vu lo hi sl Q I rx hs pl pu ⟨a, xs, e, hx, hw, q2 hw⟩
/-- t + u -/
theorem op_catF : OpR X (binaryOp .Add) (fun x y H Q => ∃ (a b : Addr) (xs ys : List V), x = .ref a ∧ y = .ref b ∧ SqT X.K H a xs ∧ SqT X.K H b ys ∧ xs.length + ys.length ≤ sizeLine ∧ (xs = [] → Q (.ref b) H) ∧ (xs ≠ [] → ys = [] → Q (.ref a) H) ∧
    (xs ≠ [] → ys ≠ [] → ∀ (p : Addr) (ob : Obj), H p = none → ob.dict = none → Q (.ref p) (upd H p (.frz ob (.tup (xs ++ ys)))))) := by
  intro pins s σ H x y v u Q I rx ry h
  obtain ⟨a, b, xs, ys, e1, e2, ha, hb, hz, q0, q1, q2⟩ := h
  by_cases hx : xs = []
  · exact op_catA pins s σ H x y v u Q I rx ry ⟨a, b, xs, ys, e1, e2, ha, hb, hz, q0, q1, fun n => absurd hx n⟩
  · by_cases hy : ys = []
    · exact op_catA pins s σ H x y v u Q I rx ry ⟨a, b, xs, ys, e1, e2, ha, hb, hz, q0, q1, fun _ n => absurd hy n⟩
    · subst e1 e2
      cases rx
      cases ry
      obtain ⟨its, r1, p1, _⟩ := I.tuple ha
      obtain ⟨its2, r2, p2, _⟩ := I.tuple hb
      refine HT.cat_tup p1 p2 (fun z => hx (r1.nil_iff.mp z)) (fun z => absurd (r2.nil_iff.mp z) hy) (fun z => ?_) (by rw [← r1.length, ← r2.length]; exact hz)
      obtain ⟨ob, d, n, J⟩ := Inv.tupF (tk := s.toks) (s := s) I (r1.append r2) (by rw [List.length_append]; exact hz)
      exact ⟨.ref s.heap.objs.size, _, J, rfl, q2 hx hy _ _ n d⟩
/-- t.m(e, ..), t a tuple told in full -/
def TupF (K : PySem.W.Frag) (H : Hp) (a : Addr) (zs : List V) : Prop :=
  (∃ ob : Obj, ob.dict = none ∧ H a = some (.frz ob (.tup zs))) ∨
    ∃ (o : Obj) (its : Array Value) (n : Nat), K.lookup a = some o ∧ o.cls = .type "tuple" ∧ o.dict = none ∧ o.data = .seq its n ∧ its.size ≤ sizeLine ∧ Vals zs its.toList
def tTM (K : PySem.W.Frag) (r : V → List V → Hp → VK → Prop) (to : TE) (ta : TA) : TE := fun σ H Q => to σ H fun x H1 => ∃ (a : Addr) (zs : List V), x = .ref a ∧ TupF K H1 a zs ∧ ta σ H1 fun vs H2 => r x vs H2 Q
theorem pe_tm {id : String} {name : Str} {r : V → List V → Hp → VK → Prop} {o e : Expr} {to : TE} {ta : TA} {apos cpos : Pos} (slot : Slot "tuple" name id) (hty : typeOf (.builtin id) = pure (.type "method_descriptor")) (hm : MtR X id r) (ho : PE X o to) (ha : PA X (e :: es) ta)
    (hb : attributeBase o name X.env (eval o X.env) = eval o X.env := by rfl)
    (hf : ((backTo cpos (starEach (e :: es) X.env)).all (fun x => !x.1) && (backToKw cpos (keywordEach [] X.env)).all (fun x => x.1.isSome) && decide ((e :: es).length + ([] : List Keyword).length + (if ([] : List Keyword).isEmpty then 0 else 1) < 30)) = true := by rfl)
    (hl : (apos.endLine == cpos.line) = true := by rfl) (hs : starEach (e :: es) X.env = (false, eval e X.env) :: starEach es X.env := by rfl) (hp : (backTo cpos (starEach es X.env)).any (·.1) = false := by rfl) :
    PE X (.Call (.Attribute o name apos) (e :: es) [] cpos) (tTM X.K r to ta) := by
  refine ⟨fun pins s σ H Q I h => wpAny_Call_method_late hb hf hl rfl (thn (ho.run pins s σ H _ I h) fun v s1 z => ?_)⟩
  obtain ⟨x, H1, I1, r1, a, zs, ex, hx, q1⟩ := z
  subst ex
  obtain rfl : v = Value.ref a := r1
  obtain ⟨ob, g1, hd, its, tp⟩ : ∃ ob : Obj, s1.heap.get? a = some ob ∧ ob.dict = none ∧ ∃ its, IsTup s1.heap a its := by
    rcases hx with ⟨ob, hd, hx⟩ | ⟨o, its, n, hk, hc, hd, hs, hz, r⟩
    · obtain ⟨g1, z1, its, _, tp⟩ := (show ObjOk X.prog X.w H1 s1.heap a (.frz ob (.tup zs)) from I1.hok a _ hx)
      exact ⟨ob, g1, hd, _, tp⟩
    · exact ⟨o, I1.kIn a o hk, hd, its, ⟨o, I1.kIn a o hk, hc, n, hs⟩⟩
  refine ⟨"tuple", id, PySem.F.plainAttrs_tuple, slot, hty, tp.typeIs, fun b eb => ?_, ?_⟩
  · cases eb
    exact ⟨ob, g1, hd⟩
  · have hA := ha.run cpos pins s1 σ H1 _ I1 q1
    rw [hs] at hA ⊢
    refine Calls.callWith_builtin (by show (false || (backTo cpos (starEach es X.env)).any (·.1)) = false; rw [hp]; rfl) (Calls.evalArgs_plain (thn hA fun us s2 z => ?_))
    obtain ⟨vs, H2, I2, r2, q2⟩ := z
    exact hm pins s2 σ H2 (.ref a) vs (.ref a) us Q I2 rfl r2 q2
/-- isinstance(x, t), t any tuple of classes -/
theorem call_isiS : CallR X (.builtin "isinstance") (fun xs H Q => ∃ (x : V) (tp : Addr) (cs : List V) (t : Value) (ws : List Value) (b : Bool), xs = [x, .ref tp] ∧ SqT X.K H tp cs ∧ Paired ClsV cs ws ∧ TyX X.K H x t ∧ PySem.W.kitAny X.K t ws = some b ∧ Q (.bl b) H) := by
  intro pins s σ H xs us Q I r h
  obtain ⟨x, tp, cs, t, ws, b, rfl, hT, k, ty, e, q⟩ := h
  obtain ⟨u1, u2, rfl, r1, r2⟩ := vals2 r
  cases (show u2 = Value.ref tp from r2)
  obtain ⟨P, Z, p, hx⟩ := kit_of I r1 ty
  obtain ⟨its, rv, ⟨o, h1, h2, n, h3⟩, _⟩ := I.tuple hT
  have e3 := ClsV.all k rv
  subst e3
  obtain ⟨oc, od, dt, sl⟩ := o
  simp only at h2 h3
  subst h2 h3
  exact PySem.W.kia_tup Z I.kIn p h1 e hx fun tk => ⟨.bl b, H, I.tok tk, rfl, q⟩
end
end L2

set_option Elab.async false
set_option linter.all false
set_option maxRecDepth 100000
set_option maxHeartbeats 4000000
/-! SD, second part: results, readings, the rules of expressions. -/
namespace SD
open PySem PySem.Spec PyProof.Rows L2

/-! ### results -/
inductive R (α : Type) where
  | ok (a : α) (μ : Sto)
  | ex (c : Nat) (ns : List Str) (xs : List DV) (μ : Sto)
  | stuck
def R.bind {α β : Type} (r : R α) (k : α → Sto → R β) : R β := match r with
  | .ok a μ => k a μ
  | .ex c ns xs μ => .ex c ns xs μ
  | .stuck => .stuck
def R.of {α : Type} (o : Option α) (μ : Sto) : R α := match o with
  | some a => .ok a μ
  | none => .stuck
def R.ofS {α : Type} (o : Option (α × Sto)) : R α := match o with
  | some (a, μ) => .ok a μ
  | none => .stuck
abbrev En := List (Option DV)
abbrev DE := En → Sto → R DV
abbrev DT := En → Sto → R Bool
abbrev DA := En → Sto → R (List DV)

/-- slots -/
structure RelE (g : Gc) (κ : KA) (H : Hp) (ρ : En) (σ : L2.St) : Prop where
  len : ρ.length = σ.length
  at_ : ∀ (i : Nat) (d : DV), ρ[i]? = some (some d) → ∃ v, σ[i]? = some (some v) ∧ Rel g κ H d v
theorem RelE.ext {g : Gc} {κ κ1 : KA} {H H1 : Hp} {ρ : En} {σ : L2.St} (e : Ext κ H κ1 H1) (h : RelE g κ H ρ σ) : RelE g κ1 H1 ρ σ := ⟨h.len, fun i d hd => by
  obtain ⟨v, h1, h2⟩ := h.at_ i d hd
  exact ⟨v, h1, h2.ext e⟩⟩
theorem RelE.set {g : Gc} {κ : KA} {H : Hp} {ρ : En} {σ : L2.St} {i : Nat} {d : DV} {v : V} (h : RelE g κ H ρ σ) (r : Rel g κ H d v) : RelE g κ H (ρ.set i (some d)) (σ.set i (some v)) := ⟨by simp [h.len], fun j e he => by
  by_cases hj : j = i
  · subst hj
    have hl : j < ρ.length := by have := (List.getElem?_eq_some_iff.mp he).1; simpa using this
    rw [List.getElem?_set_self hl] at he
    cases he
    exact ⟨v, by rw [List.getElem?_set_self (by rw [← h.len]; exact hl)], r⟩
  · rw [List.getElem?_set_ne (fun e => hj e.symm)] at he ⊢
    exact h.at_ j e he⟩
theorem RelE.unset {g : Gc} {κ : KA} {H : Hp} {ρ : En} {σ : L2.St} {i : Nat} (h : RelE g κ H ρ σ) : RelE g κ H (ρ.set i none) (σ.set i none) := ⟨by simp [h.len], fun j e he => by
  by_cases hj : j = i
  · subst hj
    have hl : j < ρ.length := by have := (List.getElem?_eq_some_iff.mp he).1; simpa using this
    rw [List.getElem?_set_self hl] at he
    cases he
  · rw [List.getElem?_set_ne (fun e => hj e.symm)] at he ⊢
    exact h.at_ j e he⟩

/-- what is wanted of a result -/
def wpR {α : Type} (g : Gc) (W : WX) (σ : L2.St) (κ : KA) (H : Hp) (r : R α) (Φ : α → Sto → KA → Hp → Prop) : Prop := match r with
  | .ok a μ' => ∀ κ' H', Ext κ H κ' H' → StoOk g κ' H' μ' → Φ a μ' κ' H'
  | .ex c ns xs μ' => ∀ κ' H', Ext κ H κ' H' → StoOk g κ' H' μ' → ∀ d vs, At κ' H' d (.xd (ns.zip vs)) → ns.length = vs.length → RelL g κ' H' xs vs → W (.ref (g.cls c)) (some d) σ H'
  | .stuck => False
section
variable {g : Gc} {W : WX} {σ : L2.St} {κ κ1 : KA} {H H1 : Hp}
theorem wpR.bind {α β : Type} {r : R α} {k : α → Sto → R β} {Φ : β → Sto → KA → Hp → Prop} (h : wpR g W σ κ H (r.bind k) Φ) :
    wpR g W σ κ H r (fun a μ' κ' H' => wpR g W σ κ' H' (k a μ') Φ) := by
  cases r with
  | ok a μ =>
    intro κ' H' e s
    have h : wpR g W σ κ H (k a μ) Φ := h
    show wpR g W σ κ' H' (k a μ) Φ
    revert h
    cases k a μ with
    | ok b μ2 => intro h κ2 H2 e2 s2; exact h κ2 H2 (e.trans e2) s2
    | ex c ns xs μ2 => intro h κ2 H2 e2 s2; exact h κ2 H2 (e.trans e2) s2
    | stuck => intro h; exact h
  | ex c ns xs μ => exact h
  | stuck => exact h
theorem wpR.mono {α : Type} {r : R α} {Φ Ψ : α → Sto → KA → Hp → Prop} (h : wpR g W σ κ H r Φ) (f : ∀ a μ' κ' H', Ext κ H κ' H' → StoOk g κ' H' μ' → Φ a μ' κ' H' → Ψ a μ' κ' H') : wpR g W σ κ H r Ψ := by
  cases r with
  | ok a μ => intro κ' H' e s; exact f a μ κ' H' e s (h κ' H' e s)
  | ex c ns xs μ => exact h
  | stuck => exact h
theorem wpR.ext {α : Type} {r : R α} {Φ : α → Sto → KA → Hp → Prop} (e : Ext κ H κ1 H1) (h : wpR g W σ κ H r Φ) : wpR g W σ κ1 H1 r Φ := by
  cases r with
  | ok a μ => intro κ2 H2 e2 s2; exact h κ2 H2 (e.trans e2) s2
  | ex c ns xs μ => intro κ2 H2 e2 s2; exact h κ2 H2 (e.trans e2) s2
  | stuck => exact h
end

/-- the readings -/
def tE (g : Gc) (W : WX) (f : DE) : TE := fun σ H Q => ∃ κ ρ μ, RelE g κ H ρ σ ∧ StoOk g κ H μ ∧ wpR g W σ κ H (f ρ μ) (fun d _ κ' H' => ∀ v, Rel g κ' H' d v → Q v H')
def tT (g : Gc) (W : WX) (f : DT) : TT := fun σ H Q => ∃ κ ρ μ, RelE g κ H ρ σ ∧ StoOk g κ H μ ∧ wpR g W σ κ H (f ρ μ) (fun b _ _ H' => Q b H')
def tA (g : Gc) (W : WX) (f : DA) : TA := fun σ H Q => ∃ κ ρ μ, RelE g κ H ρ σ ∧ StoOk g κ H μ ∧ wpR g W σ κ H (f ρ μ) (fun ds _ κ' H' => ∀ vs, RelL g κ' H' ds vs → Q vs H')
/-- the judgements -/
structure XG (g : Gc) (X : Cx) : Prop where
  K : X.K = g.K
abbrev GE (g : Gc) (W : WX) (X : Cx) (e : Expr) (f : DE) : Prop := PE X e (tE g W f)
abbrev GT (g : Gc) (W : WX) (X : Cx) (e : Expr) (f : DT) : Prop := PT X e (tT g W f)
abbrev GW (g : Gc) (W : WX) (X : Cx) (e : Expr) (f : DT) : Prop := PW X e (tT g W f)
abbrev GA (g : Gc) (W : WX) (X : Cx) (es : List Expr) (f : DA) : Prop := PA X es (tA g W f)

theorem PE.imp {X : Cx} {e : Expr} {t u : TE} (h : PE X e t) (f : ∀ σ H Q, u σ H Q → t σ H Q) : PE X e u := ⟨fun pins s σ H Q I q => h.run pins s σ H Q I (f _ _ _ q)⟩
theorem PT.imp {X : Cx} {e : Expr} {t u : TT} (h : PT X e t) (f : ∀ σ H Q, u σ H Q → t σ H Q) : PT X e u := ⟨fun pins s σ H Q I q => h.run pins s σ H Q I (f _ _ _ q)⟩
theorem PW.imp {X : Cx} {e : Expr} {t u : TT} (h : PW X e t) (f : ∀ σ H Q, u σ H Q → t σ H Q) : PW X e u := ⟨fun wh pins s σ H Q I q => h.run wh pins s σ H Q I (f _ _ _ q)⟩
theorem PA.imp {X : Cx} {es : List Expr} {t u : TA} (h : PA X es t) (f : ∀ σ H Q, u σ H Q → t σ H Q) : PA X es u := ⟨fun pos pins s σ H Q I q => h.run pos pins s σ H Q I (f _ _ _ q)⟩
theorem PS.imp {X : Cx} {st : Stmt} {t u : TS} (h : PS X st t) (f : ∀ D σ H, u D σ H → t D σ H) : PS X st u := ⟨fun pins s σ H D I q => h.run pins s σ H D I (f _ _ _ q)⟩
theorem PSs.imp {X : Cx} {st : List Stmt} {t u : TS} (h : PSs X st t) (f : ∀ D σ H, u D σ H → t D σ H) : PSs X st u := ⟨fun pins s σ H D I q => h.run pins s σ H D I (f _ _ _ q)⟩

section
variable {g : Gc} {W : WX} {X : Cx} {a b c e : Expr} {es : List Expr} {fa fb fc : DE} {pos : Pos}

/-! ### names, constants -/
def eVar (i : Nat) : DE := fun ρ μ => match ρ[i]? with
  | some (some d) => .ok d μ
  | _ => .stuck
theorem ge_var {i : Nat} (h : PE X e (tVar i)) : GE g W X e (eVar i) := by
  refine PE.imp h fun σ H Q q => ?_
  obtain ⟨κ, ρ, μ, he, hs, hw⟩ := q
  unfold eVar at hw
  cases e1 : ρ[i]? with
  | none => rw [e1] at hw; exact hw.elim
  | some o =>
    cases o with
    | none => rw [e1] at hw; exact hw.elim
    | some d =>
      rw [e1] at hw
      obtain ⟨v, h1, h2⟩ := he.at_ i d e1
      exact ⟨v, h1, hw κ H Ext.refl hs v h2⟩
def eC (d : DV) : DE := fun _ μ => .ok d μ
theorem ge_c {d : DV} {v : V} (h : PE X e (tC v)) (r : ∀ κ H, Rel g κ H d v := by intro κ H; simp only [Rel]) : GE g W X e (eC d) := by
  refine PE.imp h fun σ H Q q => ?_
  obtain ⟨κ, ρ, μ, he, hs, hw⟩ := q
  exact hw κ H Ext.refl hs v (r κ H)

/-! ### operators by values -/
abbrev V1 := DV → Sto → Option DV
abbrev V2 := DV → DV → Sto → Option DV
/-- a reading by values: the result may be new, the store stays -/
def rOut (g : Gc) (κ : KA) (H : Hp) (μ : Sto) (o : Option DV) (Q : VK) : Prop := match o with
  | some z => ∀ κ' H', Ext κ H κ' H' → StoOk g κ' H' μ → ∀ v, Rel g κ' H' z v → Q v H'
  | none => False
def r2 (g : Gc) (f : V2) : R2 := fun x y H Q => ∃ κ d e μ, Rel g κ H d x ∧ Rel g κ H e y ∧ StoOk g κ H μ ∧ rOut g κ H μ (f d e μ) Q
def r1 (g : Gc) (f : V1) : V → Hp → VK → Prop := fun x H Q => ∃ κ d μ, Rel g κ H d x ∧ StoOk g κ H μ ∧ rOut g κ H μ (f d μ) Q
def eUn (f : V1) (a : DE) : DE := fun ρ μ => (a ρ μ).bind fun x μ1 => R.of (f x μ1) μ1
def eBin (f : V2) (a b : DE) : DE := fun ρ μ => (a ρ μ).bind fun x μ1 => (b ρ μ1).bind fun y μ2 => R.of (f x y μ2) μ2
theorem out_of {κ : KA} {H : Hp} {μ : Sto} {o : Option DV} {Q : VK} {σ : L2.St} (h : wpR g W σ κ H (R.of o μ) (fun d _ κ' H' => ∀ v, Rel g κ' H' d v → Q v H')) : rOut g κ H μ o Q := by
  cases o with
  | none => exact h
  | some z => exact h
theorem ge_un {f : V1} {op : UnaryOp} (ho : UnR X (unaryOp op) (r1 g f)) (ha : GE g W X a fa) : GE g W X (.UnaryOp op a pos) (eUn f fa) := by
  refine PE.imp (pe_un ho ha) fun σ H Q q => ?_
  obtain ⟨κ, ρ, μ, he, hs, hw⟩ := q
  refine ⟨κ, ρ, μ, he, hs, hw.bind.mono fun x μ1 κ1 H1 e1 s1 h1 v rv => ?_⟩
  exact ⟨κ1, x, μ1, rv, s1, out_of h1⟩
theorem bin_read {f : V2} {r : R2} (hr : ∀ x y H Q, r2 g f x y H Q → r x y H Q) {σ : L2.St} {H : Hp} {Q : VK} (q : tE g W (eBin f fa fb) σ H Q) : tOp r (tE g W fa) (tE g W fb) σ H Q := by
  obtain ⟨κ, ρ, μ, he, hs, hw⟩ := q
  refine ⟨κ, ρ, μ, he, hs, hw.bind.mono fun x μ1 κ1 H1 e1 s1 h1 v rv => ?_⟩
  refine ⟨κ1, ρ, μ1, he.ext e1, s1, h1.bind.mono fun y μ2 κ2 H2 e2 s2 h2 w rw => ?_⟩
  exact hr _ _ _ _ ⟨κ2, x, y, μ2, rv.ext e2, rw, s2, out_of h2⟩
theorem ge_bin {f : V2} {op : Operator} (ho : OpR X (binaryOp op) (r2 g f)) (ha : GE g W X a fa) (hb : GE g W X b fb) : GE g W X (.BinOp a op b pos) (eBin f fa fb) :=
  PE.imp (pe_op ho ha hb) fun _ _ _ q => bin_read (fun _ _ _ _ h => h) q
theorem ge_cmp {f : V2} {op : CmpOp} (ho : OpR X (compareOp op) (r2 g f)) (ha : GE g W X a fa) (hb : GE g W X b fb) (hm : behindInMarks op b = false) : GE g W X (.Compare a [op] [b] pos) (eBin f fa fb) :=
  PE.imp (pe_cmpR ho ha hb hm) fun _ _ _ q => bin_read (fun _ _ _ _ h => h) q

/-! ### tests -/
/-- a value that is a bool, as a test -/
def asB : DV → Option Bool
  | .bl b => some b
  | _ => none
def tB' (f : DE) : DT := fun ρ μ => (f ρ μ).bind fun d μ1 => R.of (asB d) μ1
theorem asB_eq {d : DV} {k : Bool} (h : asB d = some k) : d = .bl k := by
  cases d <;> simp [asB] at h
  subst h; rfl
theorem test_read {t : TE} {f : DE} (ht : ∀ σ H Q, tE g W f σ H Q → t σ H Q) {σ : L2.St} {H : Hp} {Q : Bool → Hp → Prop} (q : tT g W (tB' f) σ H Q) : t σ H (fun x H1 => ∃ c, x = .bl c ∧ Q c H1) := by
  obtain ⟨κ, ρ, μ, he, hs, hw⟩ := q
  refine ht _ _ _ ⟨κ, ρ, μ, he, hs, hw.bind.mono fun x μ1 κ1 H1 e1 s1 h1 v rv => ?_⟩
  cases k : asB x with
  | none => rw [k] at h1; exact h1.elim
  | some b =>
    rw [k] at h1
    have ex := asB_eq k
    subst ex
    simp only [Rel] at rv
    exact ⟨b, rv, h1 κ1 H1 Ext.refl s1⟩
theorem gt_cmp {f : V2} {op : CmpOp} (ho : OpR X (compareOp op) (r2 g f)) (ha : GE g W X a fa) (hb : GE g W X b fb) (hm : behindInMarks op b = false) : GT g W X (.Compare a [op] [b] pos) (tB' (eBin f fa fb)) :=
  PT.imp (pt_cmpR ho ha hb hm) fun _ _ _ q => test_read (fun _ _ _ z => bin_read (fun _ _ _ _ h => h) z) q
theorem gt_val {f : DE} (h : GE g W X e f) (he : ∀ whole, isTrue e X.env whole = (do let v ← whole; standAt e.pos; holding [v] (truthy v)) := by intro _; rfl) : GT g W X e (tB' f) :=
  PT.imp (pt_val h he) fun _ _ _ q => test_read (fun _ _ _ z => z) q
/-- the chain a < b < c -/
def eChain (f f' : V2) (a b c : DE) : DE := fun ρ μ => (a ρ μ).bind fun x μ1 => (b ρ μ1).bind fun y μ2 => (R.of ((f x y μ2).bind asB) μ2).bind fun k μ3 =>
  if k = true then (c ρ μ3).bind fun z μ4 => R.of (f' y z μ4) μ4 else .ok (.bl false) μ3
theorem chain_read {f f' : V2} {σ : L2.St} {H : Hp} {Q : VK} (q : tE g W (eChain f f' fa fb fc) σ H Q) : tChain (r2 g f) (r2 g f') (tE g W fa) (tE g W fb) (tE g W fc) σ H Q := by
  obtain ⟨κ, ρ, μ, he, hs, hw⟩ := q
  refine ⟨κ, ρ, μ, he, hs, hw.bind.mono fun x μ1 κ1 H1 e1 s1 h1 v rv => ?_⟩
  refine ⟨κ1, ρ, μ1, he.ext e1, s1, h1.bind.mono fun y μ2 κ2 H2 e2 s2 h2 w rw => ?_⟩
  refine ⟨κ2, x, y, μ2, rv.ext e2, rw, s2, ?_⟩
  cases k : f x y μ2 with
  | none => rw [k] at h2; exact h2.elim
  | some z =>
    intro κ3 H3 e3 s3 v3 r3
    cases kb : asB z with
    | none => rw [k] at h2; simp only [Option.bind_some, kb] at h2; exact h2.elim
    | some b =>
      rw [k] at h2
      simp only [Option.bind_some, kb] at h2
      have ez := asB_eq kb
      subst ez
      simp only [Rel] at r3
      refine ⟨b, r3, ?_⟩
      have h3 := h2.ext e3
      cases b with
      | false =>
        rw [if_neg (by decide)]
        have h4 : wpR g W σ κ3 H3 (R.ok (DV.bl false) μ2) _ := h3
        exact h4 κ3 H3 Ext.refl s3 (.bl false) (by simp [Rel])
      | true =>
        rw [if_pos rfl]
        have h4 : wpR g W σ κ3 H3 ((fc ρ μ2).bind fun z μ4 => R.of (f' y z μ4) μ4) _ := h3
        refine ⟨κ3, ρ, μ2, (he.ext e1).ext (e2.trans e3), s3, h4.bind.mono fun z μ4 κ4 H4 e4 s4 h5 v4 r4 => ?_⟩
        exact ⟨κ4, y, z, μ4, rw.ext (e3.trans e4), r4, s4, out_of h5⟩
theorem ge_chain {f f' : V2} {op op' : CmpOp} (ho : OpR X (compareOp op) (r2 g f)) (ho' : OpR X (compareOp op') (r2 g f')) (ha : GE g W X a fa) (hb : GE g W X b fb) (hc : GE g W X c fc)
    (hm : lastMarks [op, op'] [b, c] = false := by with_unfolding_all rfl) : GE g W X (.Compare a [op, op'] [b, c] pos) (eChain f f' fa fb fc) :=
  PE.imp (pe_chain ho ho' ha hb hc hm) fun _ _ _ q => chain_read q
theorem gt_chain {f f' : V2} {op op' : CmpOp} (ho : OpR X (compareOp op) (r2 g f)) (ho' : OpR X (compareOp op') (r2 g f')) (ha : GE g W X a fa) (hb : GE g W X b fb) (hc : GE g W X c fc)
    (hm : lastMarks [op, op'] [b, c] = false := by with_unfolding_all rfl) : GT g W X (.Compare a [op, op'] [b, c] pos) (tB' (eChain f f' fa fb fc)) :=
  PT.imp (pt_chain ho ho' ha hb hc hm) fun _ _ _ q => test_read (fun _ _ _ z => chain_read z) q

/-! ### and, or, not, if -/
variable {ft fu : DT} {rest : List Expr}
def tAnd' (t u : DT) : DT := fun ρ μ => (t ρ μ).bind fun b μ1 => if b = true then u ρ μ1 else .ok false μ1
def tOr' (t u : DT) : DT := fun ρ μ => (t ρ μ).bind fun b μ1 => if b = true then .ok true μ1 else u ρ μ1
def tNot' (t : DT) : DT := fun ρ μ => (t ρ μ).bind fun b μ1 => .ok (!b) μ1
theorem gw_and1 (ha : GT g W X a ft) : GW g W X (.BoolOp .And [a] pos) ft := pw_and1 ha
theorem gw_or1 (ha : GT g W X a ft) : GW g W X (.BoolOp .Or [a] pos) ft := pw_or1 ha
theorem gw_and (ha : GT g W X a ft) (hb : GW g W X (.BoolOp .And (b :: rest) pos) fu) : GW g W X (.BoolOp .And (a :: b :: rest) pos) (tAnd' ft fu) := by
  refine PW.imp (pw_and ha hb) fun σ H Q q => ?_
  obtain ⟨κ, ρ, μ, he, hs, hw⟩ := q
  refine ⟨κ, ρ, μ, he, hs, hw.bind.mono fun k μ1 κ1 H1 e1 s1 h1 => ?_⟩
  cases k with
  | true => rw [if_pos rfl] at h1 ⊢; exact ⟨κ1, ρ, μ1, he.ext e1, s1, h1⟩
  | false => rw [if_neg (by decide)] at h1 ⊢; exact h1 κ1 H1 Ext.refl s1
theorem gw_or (ha : GT g W X a ft) (hb : GW g W X (.BoolOp .Or (b :: rest) pos) fu) : GW g W X (.BoolOp .Or (a :: b :: rest) pos) (tOr' ft fu) := by
  refine PW.imp (pw_or ha hb) fun σ H Q q => ?_
  obtain ⟨κ, ρ, μ, he, hs, hw⟩ := q
  refine ⟨κ, ρ, μ, he, hs, hw.bind.mono fun k μ1 κ1 H1 e1 s1 h1 => ?_⟩
  cases k with
  | true => rw [if_pos rfl] at h1 ⊢; exact h1 κ1 H1 Ext.refl s1
  | false => rw [if_neg (by decide)] at h1 ⊢; exact ⟨κ1, ρ, μ1, he.ext e1, s1, h1⟩
theorem gt_not (ha : GT g W X a ft) : GT g W X (.UnaryOp .Not a pos) (tNot' ft) := by
  refine PT.imp (pt_not ha) fun σ H Q q => ?_
  obtain ⟨κ, ρ, μ, he, hs, hw⟩ := q
  exact ⟨κ, ρ, μ, he, hs, hw.bind.mono fun k μ1 κ1 H1 e1 s1 h1 => h1 κ1 H1 Ext.refl s1⟩
/-- as values: all but the last are bools -/
def eAnd (a b : DE) : DE := fun ρ μ => (a ρ μ).bind fun x μ1 => (R.of (asB x) μ1).bind fun k μ2 => if k = true then b ρ μ2 else .ok (.bl false) μ2
def eOr (a b : DE) : DE := fun ρ μ => (a ρ μ).bind fun x μ1 => (R.of (asB x) μ1).bind fun k μ2 => if k = true then .ok (.bl true) μ2 else b ρ μ2
def eNot (a : DE) : DE := fun ρ μ => (a ρ μ).bind fun x μ1 => (R.of (asB x) μ1).bind fun k μ2 => .ok (.bl (!k)) μ2
theorem asB_read {α : Type} {σ : L2.St} {κ : KA} {H : Hp} {x : DV} {μ : Sto} {k : Bool → Sto → R α} {Φ : α → Sto → KA → Hp → Prop} {v : V} (s : StoOk g κ H μ) (rv : Rel g κ H x v) (h : wpR g W σ κ H ((R.of (asB x) μ).bind k) Φ) :
    ∃ b, v = .bl b ∧ wpR g W σ κ H (k b μ) Φ := by
  cases e : asB x with
  | none => rw [e] at h; exact h.elim
  | some b =>
    rw [e] at h
    have ex := asB_eq e
    subst ex
    simp only [Rel] at rv
    exact ⟨b, rv, h⟩
theorem ge_one {op} {f : DE} (h : GE g W X a f) : GE g W X (.BoolOp op [a] pos) f := pe_one h
theorem ge_and (ha : GE g W X a fa) (hb : GE g W X (.BoolOp .And (b :: rest) pos) fb) : GE g W X (.BoolOp .And (a :: b :: rest) pos) (eAnd fa fb) := by
  refine PE.imp (pe_and ha hb) fun σ H Q q => ?_
  obtain ⟨κ, ρ, μ, he, hs, hw⟩ := q
  refine ⟨κ, ρ, μ, he, hs, hw.bind.mono fun x μ1 κ1 H1 e1 s1 h1 v rv => ?_⟩
  obtain ⟨k, ev, h2⟩ := asB_read s1 rv h1
  refine ⟨k, ev, ?_⟩
  cases k with
  | true => rw [if_pos rfl] at h2 ⊢; exact ⟨κ1, ρ, μ1, he.ext e1, s1, h2⟩
  | false => rw [if_neg (by decide)] at h2 ⊢; exact h2 κ1 H1 Ext.refl s1 (.bl false) (by simp [Rel])
theorem ge_or (ha : GE g W X a fa) (hb : GE g W X (.BoolOp .Or (b :: rest) pos) fb) : GE g W X (.BoolOp .Or (a :: b :: rest) pos) (eOr fa fb) := by
  refine PE.imp (pe_or ha hb) fun σ H Q q => ?_
  obtain ⟨κ, ρ, μ, he, hs, hw⟩ := q
  refine ⟨κ, ρ, μ, he, hs, hw.bind.mono fun x μ1 κ1 H1 e1 s1 h1 v rv => ?_⟩
  obtain ⟨k, ev, h2⟩ := asB_read s1 rv h1
  refine ⟨k, ev, ?_⟩
  cases k with
  | true => rw [if_pos rfl] at h2 ⊢; exact h2 κ1 H1 Ext.refl s1 (.bl true) (by simp [Rel])
  | false => rw [if_neg (by decide)] at h2 ⊢; exact ⟨κ1, ρ, μ1, he.ext e1, s1, h2⟩
theorem ge_not (ha : GE g W X a fa) : GE g W X (.UnaryOp .Not a pos) (eNot fa) := by
  refine PE.imp (pe_not ha) fun σ H Q q => ?_
  obtain ⟨κ, ρ, μ, he, hs, hw⟩ := q
  refine ⟨κ, ρ, μ, he, hs, hw.bind.mono fun x μ1 κ1 H1 e1 s1 h1 v rv => ?_⟩
  obtain ⟨k, ev, h2⟩ := asB_read s1 rv h1
  exact ⟨k, ev, h2 κ1 H1 Ext.refl s1 (.bl (!k)) (by simp [Rel])⟩
def eIf (t : DT) (a b : DE) : DE := fun ρ μ => (t ρ μ).bind fun k μ1 => if k = true then a ρ μ1 else b ρ μ1
theorem ge_ifExp (hc : GT g W X c ft) (ha : GE g W X a fa) (hb : GE g W X b fb) : GE g W X (.IfExp c a b pos) (eIf ft fa fb) := by
  refine PE.imp (pe_ifExp hc ha hb) fun σ H Q q => ?_
  obtain ⟨κ, ρ, μ, he, hs, hw⟩ := q
  refine ⟨κ, ρ, μ, he, hs, hw.bind.mono fun k μ1 κ1 H1 e1 s1 h1 => ?_⟩
  cases k with
  | true => rw [if_pos rfl] at h1 ⊢; exact ⟨κ1, ρ, μ1, he.ext e1, s1, h1⟩
  | false => rw [if_neg (by decide)] at h1 ⊢; exact ⟨κ1, ρ, μ1, he.ext e1, s1, h1⟩

/-! ### argument lists, displays -/
variable {fr : DA}
def aNil : DA := fun _ μ => .ok [] μ
def aCons (a : DE) (r : DA) : DA := fun ρ μ => (a ρ μ).bind fun x μ1 => (r ρ μ1).bind fun xs μ2 => .ok (x :: xs) μ2
theorem ga_nil : GA g W X [] aNil := PA.imp pa_nil fun σ H Q q => by
  obtain ⟨κ, ρ, μ, he, hs, hw⟩ := q
  exact hw κ H Ext.refl hs [] RelL.nil
theorem ga_cons (ha : GE g W X e fa) (hr : GA g W X es fr) (hs : starEach (e :: es) X.env = (false, eval e X.env) :: starEach es X.env := by rfl) : GA g W X (e :: es) (aCons fa fr) := by
  refine PA.imp (pa_cons ha hr hs) fun σ H Q q => ?_
  obtain ⟨κ, ρ, μ, he, hs, hw⟩ := q
  refine ⟨κ, ρ, μ, he, hs, hw.bind.mono fun x μ1 κ1 H1 e1 s1 h1 v rv => ?_⟩
  refine ⟨κ1, ρ, μ1, he.ext e1, s1, h1.bind.mono fun xs μ2 κ2 H2 e2 s2 h2 vs rvs => ?_⟩
  exact h2 κ2 H2 Ext.refl s2 (v :: vs) (RelL.cons (rv.ext e2) rvs)
/-- a list's length lets it be -/
def okLen (n : Nat) : Bool := decide (n ≤ sizeLine)
def eTup (r : DA) : DE := fun ρ μ => (r ρ μ).bind fun xs μ1 => if okLen xs.length = true then .ok (.tup xs) μ1 else .stuck
/-- a list that never changes -/
def eLst (r : DA) : DE := fun ρ μ => (r ρ μ).bind fun xs μ1 => if okLen xs.length = true then .ok (.lst xs) μ1 else .stuck
/-- a list that may change -/
def eLstC (r : DA) : DE := fun ρ μ => (r ρ μ).bind fun xs μ1 => if okLen xs.length = true then .ok (.cell μ1.length) (μ1 ++ [.lst xs]) else .stuck
theorem rel_tup {κ : KA} {H : Hp} {p : Addr} {xs : List DV} {vs : List V} {μ : Sto} {ob : Obj} (s : StoOk g κ H μ) (hp : H p = none) (hd : ob.dict = none) (r : RelL g κ H xs vs) : Rel g κ (upd H p (.frz ob (.tup vs))) (.tup xs) (.ref p) := by
  simp only [Rel]
  exact ⟨p, vs, rfl, .inl ⟨ob, hd, upd_same, s.fresh hp⟩, r.ext (Ext.new s hp)⟩
theorem rel_lst {κ : KA} {H : Hp} {p : Addr} {xs : List DV} {vs : List V} {μ : Sto} (s : StoOk g κ H μ) (hp : H p = none) (r : RelL g κ H xs vs) : Rel g κ (upd H p (.lst vs)) (.lst xs) (.ref p) := by
  simp only [Rel]
  exact ⟨p, vs, rfl, ⟨upd_same, s.fresh hp⟩, r.ext (Ext.new s hp)⟩
theorem ge_tup {k : Nat} (h : GA g W X es fr) : GE g W X (.Tuple es k pos) (eTup fr) := by
  refine PE.imp (pe_tupF h) fun σ H Q q => ?_
  obtain ⟨κ, ρ, μ, he, hs, hw⟩ := q
  refine ⟨κ, ρ, μ, he, hs, hw.bind.mono fun xs μ1 κ1 H1 e1 s1 h1 vs rv => ?_⟩
  by_cases hl : okLen xs.length = true
  · rw [if_pos hl] at h1
    refine ⟨by rw [← rv.length]; simpa [okLen] using hl, fun p ob hp hd => ?_⟩
    exact h1 κ1 _ (Ext.new s1 hp) (s1.new hp) _ (rel_tup s1 hp hd rv)
  · rw [if_neg hl] at h1; exact h1.elim
theorem ge_lst (h : GA g W X es fr) : GE g W X (.List es pos) (eLst fr) := by
  refine PE.imp (pe_lst h) fun σ H Q q => ?_
  obtain ⟨κ, ρ, μ, he, hs, hw⟩ := q
  refine ⟨κ, ρ, μ, he, hs, hw.bind.mono fun xs μ1 κ1 H1 e1 s1 h1 vs rv => ?_⟩
  by_cases hl : okLen xs.length = true
  · rw [if_pos hl] at h1
    refine ⟨by rw [← rv.length]; simpa [okLen] using hl, fun p hp => ?_⟩
    exact h1 κ1 _ (Ext.new s1 hp) (s1.new hp) _ (rel_lst s1 hp rv)
  · rw [if_neg hl] at h1; exact h1.elim
theorem cell_new {κ : KA} {H : Hp} {p : Addr} {xs : List DV} {vs : List V} {μ : Sto} (s : StoOk g κ H μ) (hp : H p = none) (r : RelL g κ H xs vs) :
    StoOk g (κ.more p) (upd H p (.lst vs)) (μ ++ [.lst xs]) ∧ Rel g (κ.more p) (upd H p (.lst vs)) (.cell μ.length) (.ref p) := by
  refine ⟨s.newCell hp ⟨p, vs, rfl, upd_same, r.ext (Ext.newCell s hp)⟩, ?_⟩
  simp only [Rel]
  refine ⟨by simp [s.len, KA.more], fun a ha => ?_⟩
  have ha : (κ.cs ++ [some p])[μ.length]? = some (some a) := ha
  rw [← s.len, List.getElem?_append_right (Nat.le_refl _)] at ha
  simp at ha
  rw [ha]
theorem ge_lstC (h : GA g W X es fr) : GE g W X (.List es pos) (eLstC fr) := by
  refine PE.imp (pe_lst h) fun σ H Q q => ?_
  obtain ⟨κ, ρ, μ, he, hs, hw⟩ := q
  refine ⟨κ, ρ, μ, he, hs, hw.bind.mono fun xs μ1 κ1 H1 e1 s1 h1 vs rv => ?_⟩
  by_cases hl : okLen xs.length = true
  · rw [if_pos hl] at h1
    refine ⟨by rw [← rv.length]; simpa [okLen] using hl, fun p hp => ?_⟩
    obtain ⟨s2, r2⟩ := cell_new s1 hp rv
    exact h1 _ _ (Ext.newCell s1 hp) s2 _ r2
  · rw [if_neg hl] at h1; exact h1.elim

/-! ### calls of built-ins by values -/
abbrev VN := List DV → Sto → Option DV
def rN (g : Gc) (f : VN) : List V → Hp → VK → Prop := fun xs H Q => ∃ κ ds μ, RelL g κ H ds xs ∧ StoOk g κ H μ ∧ rOut g κ H μ (f ds μ) Q
def eFn (f : VN) (r : DA) : DE := fun ρ μ => (r ρ μ).bind fun xs μ1 => R.of (f xs μ1) μ1
theorem fn_read {f : VN} {σ : L2.St} {H : Hp} {Q : VK} (q : tE g W (eFn f fr) σ H Q) : tA g W fr σ H (fun vs H1 => rN g f vs H1 Q) := by
  obtain ⟨κ, ρ, μ, he, hs, hw⟩ := q
  exact ⟨κ, ρ, μ, he, hs, hw.bind.mono fun xs μ1 κ1 H1 e1 s1 h1 vs rv => ⟨κ1, xs, μ1, rv, s1, out_of h1⟩⟩
variable {x : Str} {p : Pos}
theorem ge_callB {f : VN} {id : String} (hc : CallR X (.builtin id) (rN g f)) (hg : Gl X x) (hm : X.mg x = none) (hv : bootBuiltins x = some (.builtin id)) (ha : GA g W X (e :: es) fr) (hn : x ≠ "__name__" := by decide) (hdb : (x == ("__debug__" : Str)) = false := by decide)
    (he : starEach (e :: es) X.env = (false, eval e X.env) :: starEach es X.env := by rfl) (hpl : (backTo pos (starEach es X.env)).any (·.1) = false := by rfl) : GE g W X (.Call (.Name x p) (e :: es) [] pos) (eFn f fr) :=
  PE.imp (pe_callB hc hg hm hv ha hn hdb he hpl) fun _ _ _ q => fn_read q
theorem ge_callTy {f : VN} {T : String} (hc : CallR X (.type T) (rN g f)) (hg : Gl X x) (hm : X.mg x = none) (hv : bootBuiltins x = some (.type T)) (ha : GA g W X (e :: es) fr) (hn : x ≠ "__name__" := by decide) (hdb : (x == ("__debug__" : Str)) = false := by decide)
    (he : starEach (e :: es) X.env = (false, eval e X.env) :: starEach es X.env := by rfl) (hpl : (backTo pos (starEach es X.env)).any (·.1) = false := by rfl) : GE g W X (.Call (.Name x p) (e :: es) [] pos) (eFn f fr) :=
  PE.imp (pe_callTy hc hg hm hv ha hn hdb he hpl) fun _ _ _ q => fn_read q

/-! ### subscripts, slices -/
theorem ge_ix {f : V2} (hr : IxR X (r2 g f)) (ha : GE g W X a fa) (hb : GE g W X b fb) (hs : PlainIx b := by intro _ _; rfl) : GE g W X (.Subscript a b pos) (eBin f fa fb) :=
  PE.imp (pe_ix hr ha hb hs) fun _ _ _ q => bin_read (fun _ _ _ _ h => h) q
abbrev DO := En → Sto → R (Option Int)
def tO (g : Gc) (W : WX) (f : DO) : TO := fun σ H Q => ∃ κ ρ μ, RelE g κ H ρ σ ∧ StoOk g κ H μ ∧ wpR g W σ κ H (f ρ μ) (fun o _ _ H' => Q o H')
abbrev GO (g : Gc) (W : WX) (X : Cx) (e : Option Expr) (f : DO) : Prop := PO X e (tO g W f)
theorem PO.imp {X : Cx} {e : Option Expr} {t u : TO} (h : PO X e t) (f : ∀ σ H Q, u σ H Q → t σ H Q) : PO X e u := ⟨fun pins s σ H Q I q => h.run pins s σ H Q I (f _ _ _ q)⟩
def oNone : DO := fun _ μ => .ok none μ
def asI : DV → Option Int
  | .int i => some i
  | _ => none
theorem asI_eq {d : DV} {k : Int} (h : asI d = some k) : d = .int k := by
  cases d <;> simp [asI] at h
  subst h; rfl
def oSome (a : DE) : DO := fun ρ μ => (a ρ μ).bind fun x μ1 => (R.of (asI x) μ1).bind fun i μ2 => .ok (some i) μ2
theorem go_none : GO g W X none oNone := PO.imp po_none fun σ H Q q => by
  obtain ⟨κ, ρ, μ, he, hs, hw⟩ := q
  exact hw κ H Ext.refl hs
theorem go_some (h : GE g W X e fa) : GO g W X (some e) (oSome fa) := PO.imp (po_some h) fun σ H Q q => by
  obtain ⟨κ, ρ, μ, he, hs, hw⟩ := q
  refine ⟨κ, ρ, μ, he, hs, hw.bind.mono fun x μ1 κ1 H1 e1 s1 h1 v rv => ?_⟩
  cases k : asI x with
  | none => rw [k] at h1; exact h1.elim
  | some i =>
    rw [k] at h1
    have ex := asI_eq k
    subst ex
    simp only [Rel] at rv
    exact ⟨i, rv, h1 κ1 H1 Ext.refl s1⟩
abbrev VSl := DV → Option Int → Option Int → Sto → Option DV
def rSl (g : Gc) (f : VSl) : V → Option Int → Option Int → Hp → VK → Prop := fun x lo hi H Q => ∃ κ d μ, Rel g κ H d x ∧ StoOk g κ H μ ∧ rOut g κ H μ (f d lo hi μ) Q
def eSl (f : VSl) (a : DE) (lo hi : DO) : DE := fun ρ μ => (a ρ μ).bind fun x μ1 => (lo ρ μ1).bind fun l μ2 => (hi ρ μ2).bind fun u μ3 => R.of (f x l u μ3) μ3
theorem ge_slice {f : VSl} {lo hi : Option Expr} {fl fh : DO} {p2 : Pos} (hr : SlR X (rSl g f)) (ha : GE g W X a fa) (hl : GO g W X lo fl) (hh : GO g W X hi fh) : GE g W X (.Subscript a (.Slice lo hi none p2) pos) (eSl f fa fl fh) := by
  refine PE.imp (pe_slice hr ha hl hh) fun σ H Q q => ?_
  obtain ⟨κ, ρ, μ, he, hs, hw⟩ := q
  refine ⟨κ, ρ, μ, he, hs, hw.bind.mono fun x μ1 κ1 H1 e1 s1 h1 v rv => ?_⟩
  refine ⟨κ1, ρ, μ1, he.ext e1, s1, h1.bind.mono fun l μ2 κ2 H2 e2 s2 h2 => ?_⟩
  refine ⟨κ2, ρ, μ2, (he.ext e1).ext e2, s2, h2.bind.mono fun u μ3 κ3 H3 e3 s3 h3 => ?_⟩
  exact ⟨κ3, x, μ3, rv.ext (e2.trans e3), s3, out_of h3⟩

/-! ### built-in types' methods by values: the store may change -/
abbrev VM := DV → List DV → Sto → Option (DV × Sto)
def rOutS (g : Gc) (κ : KA) (H : Hp) (o : Option (DV × Sto)) (Q : VK) : Prop := match o with
  | some (z, μ') => ∀ κ' H', Ext κ H κ' H' → StoOk g κ' H' μ' → ∀ v, Rel g κ' H' z v → Q v H'
  | none => False
def rM (g : Gc) (f : VM) : V → List V → Hp → VK → Prop := fun x xs H Q => ∃ κ d ds μ, Rel g κ H d x ∧ RelL g κ H ds xs ∧ StoOk g κ H μ ∧ rOutS g κ H (f d ds μ) Q
/-- the receiver's type, as the method's lookup wants it -/
def recv (T : String) (d : DV) (μ : Sto) : Bool := match d with
  | .str _ => T == "str"
  | .lst _ => T == "list"
  | .scr _ => T == "list"
  | .cell i => match μ[i]? with
    | some (.lst _) => T == "list"
    | _ => false
  | _ => false
theorem recv_ty {κ : KA} {H : Hp} {T : String} {d : DV} {v : V} {μ : Sto} (s : StoOk g κ H μ) (r : Rel g κ H d v) (h : recv T d μ = true) : tyV g.K T v H := by
  cases d with
  | str x => simp only [Rel] at r; subst r; exact beq_iff_eq.mp h
  | lst xs =>
    simp only [Rel] at r
    obtain ⟨a, vs, rfl, h2, h3⟩ := r
    exact .inl ⟨beq_iff_eq.mp h, vs, .inl (.inl h2.1)⟩
  | scr xs =>
    simp only [Rel] at r
    obtain ⟨a, vs, rfl, h2, h3⟩ := r
    exact .inl ⟨beq_iff_eq.mp h, vs, h2.sq⟩
  | cell i =>
    simp only [recv] at h
    cases e : μ[i]? with
    | none => rw [e] at h; cases h
    | some c =>
      rw [e] at h
      cases c with
      | lst xs =>
        simp only [Rel] at r
        obtain ⟨a, h1, h2⟩ := s.at_ i _ e
        obtain ⟨p, vs, rfl, h3, h4⟩ := h2
        rw [r.2 p h1]
        exact .inl ⟨beq_iff_eq.mp h, vs, .inl (.inl h3)⟩
      | _ => cases h
  | _ => cases h
def eBm (T : String) (f : VM) (o : DE) (r : DA) : DE := fun ρ μ => (o ρ μ).bind fun x μ1 => if recv T x μ1 = true then (r ρ μ1).bind fun xs μ2 => R.ofS (f x xs μ2) else .stuck
theorem outS_of {κ : KA} {H : Hp} {o : Option (DV × Sto)} {Q : VK} {σ : L2.St} (h : wpR g W σ κ H (R.ofS o) (fun d _ κ' H' => ∀ v, Rel g κ' H' d v → Q v H')) : rOutS g κ H o Q := by
  cases o with
  | none => exact h
  | some z => exact h
theorem ge_bm {T name' id : String} {name : Str} {f : VM} {o : Expr} {fo : DE} {apos cpos : Pos} (xg : XG g X) (pa : PlainAttrs T) (slot : Slot T name id) (hty : typeOf (.builtin id) = pure (.type "method_descriptor")) (hm : MtR X id (rM g f)) (ho : GE g W X o fo) (ha : GA g W X (e :: es) fr)
    (hbase : attributeBase o name X.env (eval o X.env) = eval o X.env := by rfl)
    (hfew : ((backTo cpos (starEach (e :: es) X.env)).all (fun x => !x.1) && (backToKw cpos (keywordEach [] X.env)).all (fun x => x.1.isSome)
      && decide ((e :: es).length + ([] : List Keyword).length + (if ([] : List Keyword).isEmpty then 0 else 1) < 30)) = true := by rfl)
    (hline : (apos.endLine == cpos.line) = true := by rfl) (hs : starEach (e :: es) X.env = (false, eval e X.env) :: starEach es X.env := by rfl) (hplain : (backTo cpos (starEach es X.env)).any (·.1) = false := by rfl) :
    GE g W X (.Call (.Attribute o name apos) (e :: es) [] cpos) (eBm T f fo fr) := by
  refine PE.imp (pe_bm pa slot hty hm ho ha hbase hfew hline hs hplain) fun σ H Q q => ?_
  obtain ⟨κ, ρ, μ, he, hs, hw⟩ := q
  refine ⟨κ, ρ, μ, he, hs, hw.bind.mono fun x μ1 κ1 H1 e1 s1 h1 v rv => ?_⟩
  by_cases hr : recv T x μ1 = true
  · rw [if_pos hr] at h1
    refine ⟨by rw [xg.K]; exact recv_ty s1 rv hr, κ1, ρ, μ1, he.ext e1, s1, h1.bind.mono fun xs μ2 κ2 H2 e2 s2 h2 vs rvs => ?_⟩
    exact ⟨κ2, x, xs, μ2, rv.ext e2, rvs, s2, outS_of h2⟩
  · rw [if_neg hr] at h1; exact h1.elim
def eBm0 (T : String) (f : VM) (o : DE) : DE := fun ρ μ => (o ρ μ).bind fun x μ1 => if recv T x μ1 = true then R.ofS (f x [] μ1) else .stuck
theorem ge_bm0 {T id : String} {name : Str} {f : VM} {o : Expr} {fo : DE} {apos cpos : Pos} (xg : XG g X) (pa : PlainAttrs T) (slot : Slot T name id) (hty : typeOf (.builtin id) = pure (.type "method_descriptor")) (hm : MtR X id (rM g f)) (ho : GE g W X o fo)
    (hbase : attributeBase o name X.env (eval o X.env) = eval o X.env := by rfl) (hline : (apos.endLine == cpos.line) = true := by rfl) :
    GE g W X (.Call (.Attribute o name apos) [] [] cpos) (eBm0 T f fo) := by
  refine PE.imp (pe_bm0 pa slot hty hm ho hbase hline) fun σ H Q q => ?_
  obtain ⟨κ, ρ, μ, he, hs, hw⟩ := q
  refine ⟨κ, ρ, μ, he, hs, hw.bind.mono fun x μ1 κ1 H1 e1 s1 h1 v rv => ?_⟩
  by_cases hr : recv T x μ1 = true
  · rw [if_pos hr] at h1
    exact ⟨by rw [xg.K]; exact recv_ty s1 rv hr, κ1, x, [], μ1, rv, RelL.nil, s1, outS_of h1⟩
  · rw [if_neg hr] at h1; exact h1.elim
/-- a tuple's method -/
def isTupD : DV → Bool
  | .tup _ => true
  | _ => false
def eTm (f : VM) (o : DE) (r : DA) : DE := fun ρ μ => (o ρ μ).bind fun x μ1 => if isTupD x = true then (r ρ μ1).bind fun xs μ2 => R.ofS (f x xs μ2) else .stuck
theorem FrT.tupF {κ : KA} {H : Hp} {a : Addr} {vs : List V} (h : FrT g κ H a vs) : TupF g.K H a vs := by
  rcases h with ⟨ob, d, h⟩ | h
  · exact .inl ⟨ob, d, h.1⟩
  · exact .inr h
theorem ge_tm {id : String} {name : Str} {f : VM} {o : Expr} {fo : DE} {apos cpos : Pos} (xg : XG g X) (slot : Slot "tuple" name id) (hty : typeOf (.builtin id) = pure (.type "method_descriptor")) (hm : MtR X id (rM g f)) (ho : GE g W X o fo) (ha : GA g W X (e :: es) fr)
    (hb : attributeBase o name X.env (eval o X.env) = eval o X.env := by rfl)
    (hf : ((backTo cpos (starEach (e :: es) X.env)).all (fun x => !x.1) && (backToKw cpos (keywordEach [] X.env)).all (fun x => x.1.isSome) && decide ((e :: es).length + ([] : List Keyword).length + (if ([] : List Keyword).isEmpty then 0 else 1) < 30)) = true := by rfl)
    (hl : (apos.endLine == cpos.line) = true := by rfl) (hs : starEach (e :: es) X.env = (false, eval e X.env) :: starEach es X.env := by rfl) (hp : (backTo cpos (starEach es X.env)).any (·.1) = false := by rfl) :
    GE g W X (.Call (.Attribute o name apos) (e :: es) [] cpos) (eTm f fo fr) := by
  refine PE.imp (pe_tm slot hty hm ho ha hb hf hl hs hp) fun σ H Q q => ?_
  obtain ⟨κ, ρ, μ, he, hs, hw⟩ := q
  refine ⟨κ, ρ, μ, he, hs, hw.bind.mono fun x μ1 κ1 H1 e1 s1 h1 v rv => ?_⟩
  cases x with
  | tup xs =>
    obtain ⟨a, zs, rfl, q2, q3⟩ := (show ∃ a vs, v = .ref a ∧ FrT g κ1 H1 a vs ∧ RelL g κ1 H1 xs vs by simpa only [Rel] using rv)
    refine ⟨a, zs, rfl, by rw [xg.K]; exact q2.tupF, ?_⟩
    have h1 : wpR g W σ κ1 H1 ((fr ρ μ1).bind fun xs' μ2 => R.ofS (f (.tup xs) xs' μ2)) _ := h1
    refine ⟨κ1, ρ, μ1, he.ext e1, s1, h1.bind.mono fun xs' μ2 κ2 H2 e2 s2 h2 vs rvs => ?_⟩
    exact ⟨κ2, .tup xs, xs', μ2, rv.ext e2, rvs, s2, outS_of h2⟩
  | _ => exact h1.elim
end
end SD

set_option Elab.async false
set_option linter.all false
set_option maxRecDepth 100000
set_option maxHeartbeats 4000000
/-! SD, third part: statements, loops, comprehensions. -/
namespace SD
open PySem PySem.Spec PyProof.Rows L2

inductive SR where
  | nx (ρ : En) (μ : Sto) | bk (ρ : En) (μ : Sto) | ct (ρ : En) (μ : Sto)
  | rt (d : DV) (μ : Sto)
  | ex (c : Nat) (ns : List Str) (xs : List DV) (ρ : En) (μ : Sto)
  | stuck
abbrev DS := En → Sto → SR
def R.toS {α : Type} (r : R α) (ρ : En) (k : α → Sto → SR) : SR := match r with
  | .ok a μ => k a μ
  | .ex c ns xs μ => .ex c ns xs ρ μ
  | .stuck => .stuck
def wpS (g : Gc) (W : WX) (D : Ends) (κ : KA) (H : Hp) (r : SR) : Prop := match r with
  | .nx ρ μ => ∀ κ' H' σ', Ext κ H κ' H' → StoOk g κ' H' μ → RelE g κ' H' ρ σ' → D.nx σ' H'
  | .bk ρ μ => ∀ κ' H' σ', Ext κ H κ' H' → StoOk g κ' H' μ → RelE g κ' H' ρ σ' → D.bk σ' H'
  | .ct ρ μ => ∀ κ' H' σ', Ext κ H κ' H' → StoOk g κ' H' μ → RelE g κ' H' ρ σ' → D.ct σ' H'
  | .rt d μ => ∀ κ' H' v, Ext κ H κ' H' → StoOk g κ' H' μ → Rel g κ' H' d v → D.rt v H'
  | .ex c ns xs ρ μ => ∀ κ' H' σ', Ext κ H κ' H' → StoOk g κ' H' μ → RelE g κ' H' ρ σ' → ∀ d vs, At κ' H' d (.xd (ns.zip vs)) → ns.length = vs.length → RelL g κ' H' xs vs → W (.ref (g.cls c)) (some d) σ' H'
  | .stuck => False
section
variable {g : Gc} {W : WX} {D : Ends} {σ : L2.St} {κ κ1 : KA} {H H1 : Hp} {ρ : En} {μ : Sto}
theorem wpS.ext {r : SR} (e : Ext κ H κ1 H1) (h : wpS g W D κ H r) : wpS g W D κ1 H1 r := by
  cases r with
  | nx ρ μ => intro κ' H' σ' e2 s q; exact h κ' H' σ' (e.trans e2) s q
  | bk ρ μ => intro κ' H' σ' e2 s q; exact h κ' H' σ' (e.trans e2) s q
  | ct ρ μ => intro κ' H' σ' e2 s q; exact h κ' H' σ' (e.trans e2) s q
  | rt d μ => intro κ' H' v e2 s q; exact h κ' H' v (e.trans e2) s q
  | ex c ns xs ρ μ => intro κ' H' σ' e2 s q; exact h κ' H' σ' (e.trans e2) s q
  | stuck => exact h
theorem wpS.bind {α : Type} {r : R α} {k : α → Sto → SR} (he : RelE g κ H ρ σ) (h : wpS g W D κ H (r.toS ρ k)) : wpR g W σ κ H r (fun a μ' κ' H' => wpS g W D κ' H' (k a μ')) := by
  cases r with
  | ok a μ' => intro κ' H' e s; exact wpS.ext e h
  | ex c ns xs μ' => intro κ' H' e s d vs h1 h2 h3; exact h κ' H' σ e s (he.ext e) d vs h1 h2 h3
  | stuck => exact h
/-- the ends changed -/
theorem wpS.ends {D' : Ends} {r : SR} (h : wpS g W D κ H r)
    (hn : ∀ ρ' μ', r = .nx ρ' μ' → ∀ κ' H' σ', Ext κ H κ' H' → StoOk g κ' H' μ' → RelE g κ' H' ρ' σ' → D'.nx σ' H')
    (hb : ∀ ρ' μ', r = .bk ρ' μ' → ∀ κ' H' σ', Ext κ H κ' H' → StoOk g κ' H' μ' → RelE g κ' H' ρ' σ' → D'.bk σ' H')
    (hc : ∀ ρ' μ', r = .ct ρ' μ' → ∀ κ' H' σ', Ext κ H κ' H' → StoOk g κ' H' μ' → RelE g κ' H' ρ' σ' → D'.ct σ' H')
    (hr : D'.rt = D.rt) : wpS g W D' κ H r := by
  cases r with
  | nx ρ μ => exact hn ρ μ rfl
  | bk ρ μ => exact hb ρ μ rfl
  | ct ρ μ => exact hc ρ μ rfl
  | rt d μ => intro κ' H' v e2 s q; rw [hr]; exact h κ' H' v e2 s q
  | ex c ns xs ρ μ => exact h
  | stuck => exact h
end
def tS (g : Gc) (W : WX) (f : DS) : TS := fun D σ H => ∃ κ ρ μ, RelE g κ H ρ σ ∧ StoOk g κ H μ ∧ wpS g W D κ H (f ρ μ)
abbrev GS (g : Gc) (W : WX) (X : Cx) (st : Stmt) (f : DS) : Prop := PS X st (tS g W f)
abbrev GSs (g : Gc) (W : WX) (X : Cx) (st : List Stmt) (f : DS) : Prop := PSs X st (tS g W f)

section
variable {g : Gc} {W : WX} {X : Cx} {a b c e : Expr} {es : List Expr} {fa fb fc : DE} {ft : DT} {fr : DA} {pos : Pos} {st : Stmt} {sts stb : List Stmt} {f h fs fu : DS}

def sNop : DS := fun ρ μ => .nx ρ μ
def sSeq (f h : DS) : DS := fun ρ μ => match f ρ μ with
  | .nx ρ' μ' => h ρ' μ'
  | r => r
theorem gss_nil : GSs g W X [] sNop := PSs.imp pss_nil fun D σ H q => by
  obtain ⟨κ, ρ, μ, he, hs, hw⟩ := q
  exact hw κ H σ Ext.refl hs he
theorem gss_cons (h1 : GS g W X st f) (h2 : GSs g W X sts h) : GSs g W X (st :: sts) (sSeq f h) := PSs.imp (pss_cons h1 h2) fun D σ H q => by
  obtain ⟨κ, ρ, μ, he, hs, hw⟩ := q
  refine ⟨κ, ρ, μ, he, hs, ?_⟩
  unfold sSeq at hw
  cases e : f ρ μ with
  | nx ρ' μ' =>
    rw [e] at hw
    intro κ' H' σ' e2 s2 q2
    exact ⟨κ', ρ', μ', q2, s2, hw.ext e2⟩
  | bk ρ' μ' => rw [e] at hw; exact hw
  | ct ρ' μ' => rw [e] at hw; exact hw
  | rt d μ' => rw [e] at hw; exact hw
  | ex c ns xs ρ' μ' => rw [e] at hw; exact hw
  | stuck => rw [e] at hw; exact hw
theorem gss_one (h1 : GS g W X st f) : GSs g W X [st] f := PSs.imp (pss_one h1) fun _ _ _ q => q
theorem gs_pass : GS g W X (.Pass pos) sNop := PS.imp ps_pass fun D σ H q => by
  obtain ⟨κ, ρ, μ, he, hs, hw⟩ := q
  exact hw κ H σ Ext.refl hs he
def sBrk : DS := fun ρ μ => .bk ρ μ
def sCnt : DS := fun ρ μ => .ct ρ μ
theorem gs_brk : GS g W X (.Break pos) sBrk := PS.imp ps_break fun D σ H q => by
  obtain ⟨κ, ρ, μ, he, hs, hw⟩ := q
  exact hw κ H σ Ext.refl hs he
theorem gs_cnt : GS g W X (.Continue pos) sCnt := PS.imp ps_continue fun D σ H q => by
  obtain ⟨κ, ρ, μ, he, hs, hw⟩ := q
  exact hw κ H σ Ext.refl hs he
def sExpr (a : DE) : DS := fun ρ μ => (a ρ μ).toS ρ fun _ μ1 => .nx ρ μ1
theorem gs_expr (he : GE g W X e fa) (hs : swapsWith e none pos.line X.env = pure false := by rfl) : GS g W X (.Expr e pos) (sExpr fa) := PS.imp (ps_expr he hs) fun D σ H q => by
  obtain ⟨κ, ρ, μ, he, hs, hw⟩ := q
  exact ⟨κ, ρ, μ, he, hs, (wpS.bind he hw).mono fun d μ1 κ1 H1 e1 s1 h1 v _ => h1 κ1 H1 σ Ext.refl s1 (he.ext e1)⟩
def sRet (a : DE) : DS := fun ρ μ => (a ρ μ).toS ρ fun d μ1 => .rt d μ1
theorem gs_ret (he : GE g W X e fa) : GS g W X (.Return (some e) pos) (sRet fa) := PS.imp (ps_ret he) fun D σ H q => by
  obtain ⟨κ, ρ, μ, he, hs, hw⟩ := q
  exact ⟨κ, ρ, μ, he, hs, (wpS.bind he hw).mono fun d μ1 κ1 H1 e1 s1 h1 v rv => h1 κ1 H1 v Ext.refl s1 rv⟩
def sRetN : DS := fun _ μ => .rt .non μ
theorem gs_retN : GS g W X (.Return none pos) sRetN := PS.imp ps_retN fun D σ H q => by
  obtain ⟨κ, ρ, μ, he, hs, hw⟩ := q
  exact hw κ H .non Ext.refl hs (by simp [Rel])
def sIf (t : DT) (f h : DS) : DS := fun ρ μ => (t ρ μ).toS ρ fun k μ1 => if k = true then f ρ μ1 else h ρ μ1
theorem gs_if (hc : GT g W X c ft) (ha : GSs g W X sts f) (hb : GSs g W X stb h) : GS g W X (.If c sts stb pos) (sIf ft f h) := PS.imp (ps_if hc ha hb) fun D σ H q => by
  obtain ⟨κ, ρ, μ, he, hs, hw⟩ := q
  refine ⟨κ, ρ, μ, he, hs, (wpS.bind he hw).mono fun k μ1 κ1 H1 e1 s1 h1 => ?_⟩
  cases k with
  | true => rw [if_pos rfl] at h1 ⊢; exact ⟨κ1, ρ, μ1, he.ext e1, s1, h1⟩
  | false => rw [if_neg (by decide)] at h1 ⊢; exact ⟨κ1, ρ, μ1, he.ext e1, s1, h1⟩
def sDoc : DS := sNop
theorem gs_doc {x j pos'} : GS g W X (.Expr (.Constant (.str x) j pos) pos') sNop := PS.imp ps_doc fun D σ H q => by
  obtain ⟨κ, ρ, μ, he, hs, hw⟩ := q
  exact hw κ H σ Ext.refl hs he

/-! ### targets -/
abbrev DG := DV → En → Sto → Option En
abbrev DGs := List DV → En → Sto → Option En
/-- sl: the slots that are stored -/
def tG (g : Gc) (sl : List Nat) (f : DG) : TG := fun v σ H Q => ∃ κ d ρ μ, Rel g κ H d v ∧ RelE g κ H ρ σ ∧ StoOk g κ H μ ∧ match f d ρ μ with
  | some ρ' => ∀ σ', RelE g κ H ρ' σ' → σ'.length = σ.length → (∀ i, i ∉ sl → σ'[i]? = σ[i]?) → Q σ' H
  | none => False
def tGs (g : Gc) (sl : List Nat) (f : DGs) : TGs := fun vs σ H Q => ∃ κ ds ρ μ, RelL g κ H ds vs ∧ RelE g κ H ρ σ ∧ StoOk g κ H μ ∧ match f ds ρ μ with
  | some ρ' => ∀ σ', RelE g κ H ρ' σ' → σ'.length = σ.length → (∀ i, i ∉ sl → σ'[i]? = σ[i]?) → Q σ' H
  | none => False
abbrev GG (g : Gc) (X : Cx) (tg : Expr) (sl : List Nat) (f : DG) : Prop := PG X tg (tG g sl f)
abbrev GGs (g : Gc) (X : Cx) (tg : List Expr) (sl : List Nat) (f : DGs) : Prop := PGs X tg (tGs g sl f)
theorem PG.imp {X : Cx} {e : Expr} {t u : TG} (h : PG X e t) (f : ∀ v σ H Q, u v σ H Q → t v σ H Q) : PG X e u := ⟨fun pins s σ H v w Q I r q => h.run pins s σ H v w Q I r (f _ _ _ _ q)⟩
theorem PGs.imp {X : Cx} {e : List Expr} {t u : TGs} (h : PGs X e t) (f : ∀ v σ H Q, u v σ H Q → t v σ H Q) : PGs X e u := ⟨fun pins s σ H v w Q I r q => h.run pins s σ H v w Q I r (f _ _ _ _ q)⟩
def gN (i : Nat) : DG := fun d ρ _ => some (ρ.set i (some d))
theorem gg_name {i : Nat} {x : Str} (h : PG X (.Name x pos) (gName i)) : GG g X (.Name x pos) [i] (gN i) := PG.imp h fun v σ H Q q => by
  obtain ⟨κ, d, ρ, μ, r, he, hs, hw⟩ := q
  refine hw _ (he.set r) (by simp) fun j hj => ?_
  rw [List.getElem?_set_ne (fun e => hj (by simp [e]))]
def gNil' : DGs := fun ds ρ _ => match ds with
  | [] => some ρ
  | _ => none
def gCons' (f : DG) (fs : DGs) : DGs := fun ds ρ μ => match ds with
  | [] => none
  | d :: r => (f d ρ μ).bind fun ρ' => fs r ρ' μ
theorem ggs_nil : GGs g X [] [] gNil' := PGs.imp pgs_nil fun vs σ H Q q => by
  obtain ⟨κ, ds, ρ, μ, r, he, hs, hw⟩ := q
  cases ds with
  | nil => exact ⟨r.of_nil, hw σ he rfl fun _ _ => rfl⟩
  | cons d ds => exact hw.elim
theorem ggs_cons {e : Expr} {es : List Expr} {t : DG} {u : DGs} {s1 s2 : List Nat} (h1 : GG g X e s1 t) (h2 : GGs g X es s2 u)
    (hs : (assignEach (e :: es) X.env).map (·.2) = assign e X.env :: (assignEach es X.env).map (·.2) := by rfl) : GGs g X (e :: es) (s1 ++ s2) (gCons' t u) := PGs.imp (pgs_cons h1 h2 hs) fun vs σ H Q q => by
  obtain ⟨κ, ds, ρ, μ, r, he, hs, hw⟩ := q
  cases ds with
  | nil => exact hw.elim
  | cons d ds =>
    obtain ⟨v, vr, rfl, rv, rr⟩ := r.of_cons
    refine ⟨v, vr, rfl, κ, d, ρ, μ, rv, he, hs, ?_⟩
    simp only [gCons'] at hw
    cases e : t d ρ μ with
    | none => rw [e] at hw; exact hw.elim
    | some ρ' =>
      rw [e] at hw
      intro σ' he' hl hk
      refine ⟨κ, ds, ρ', μ, rr, he', hs, ?_⟩
      have hw : match u ds ρ' μ with
        | some ρ' => ∀ σ', RelE g κ H ρ' σ' → σ'.length = σ.length → (∀ i, i ∉ s1 ++ s2 → σ'[i]? = σ[i]?) → Q σ' H
        | none => False := hw
      cases e2 : u ds ρ' μ with
      | none => rw [e2] at hw; exact hw
      | some ρ2 =>
        rw [e2] at hw
        exact fun σ2 he2 hl2 hk2 => hw σ2 he2 (hl2.trans hl) fun i hi => (hk2 i fun m => hi (List.mem_append_right _ m)).trans (hk i fun m => hi (List.mem_append_left _ m))
def asT : DV → Option (List DV)
  | .tup xs => some xs
  | _ => none
def gTup' (f : DGs) (n : Nat) : DG := fun d ρ μ => match asT d with
  | some xs => if xs.length = n then f xs ρ μ else none
  | none => none
theorem gg_tup {es : List Expr} {k : Nat} {t : DGs} {n : Nat} {sl : List Nat} (xg : XG g X) (hc : X.calm = true) (h : GGs g X es sl t)
    (hn : (assignEach es X.env).length = n := by rfl) (hst : (assignEach es X.env).findIdx? (·.1) = none := by rfl) : GG g X (.Tuple es k pos) sl (gTup' t n) := PG.imp (pg_tup hc h hn hst) fun v σ H Q q => by
  obtain ⟨κ, d, ρ, μ, r, he, hs, hw⟩ := q
  cases d with
  | tup xs =>
    simp only [Rel] at r
    obtain ⟨a, vs, rfl, h2, h3⟩ := r
    simp only [gTup', asT] at hw
    by_cases hl : xs.length = n
    · rw [if_pos hl] at hw
      exact ⟨a, vs, rfl, by rw [xg.K]; exact h2.sq, by rw [← h3.length]; exact hl, κ, xs, ρ, μ, h3, he, hs, hw⟩
    · rw [if_neg hl] at hw; exact hw.elim
  | _ => exact hw.elim
def sAsg (a : DE) (t : DG) : DS := fun ρ μ => (a ρ μ).toS ρ fun d μ1 => match t d ρ μ1 with
  | some ρ' => .nx ρ' μ1
  | none => .stuck
theorem asg_read {t : DG} {sl : List Nat} {D : Ends} {σ : L2.St} {H : Hp} (q : tS g W (sAsg fa t) D σ H) : tAsg (tE g W fa) (tG g sl t) D σ H := by
  obtain ⟨κ, ρ, μ, he, hs, hw⟩ := q
  refine ⟨κ, ρ, μ, he, hs, (wpS.bind he hw).mono fun d μ1 κ1 H1 e1 s1 h1 v rv => ?_⟩
  refine ⟨κ1, d, ρ, μ1, rv, he.ext e1, s1, ?_⟩
  cases e : t d ρ μ1 with
  | none => rw [e] at h1; exact h1.elim
  | some ρ' => rw [e] at h1; exact fun σ' he' _ _ => h1 κ1 H1 σ' Ext.refl s1 he'
theorem gs_asg {tg : Expr} {t : DG} {sl : List Nat} (he : GE g W X e fa) (hg : GG g X tg sl t) (hs : swapsWithSole [tg] e pos.line X.env = pure false := by rfl) (hw : swappedStores [tg] e X.env = pure none := by rfl)
    (h1 : (assignEach [tg] X.env).map (·.2) = [assign tg X.env] := by rfl) : GS g W X (.Assign [tg] e pos) (sAsg fa t) := PS.imp (ps_asg he hg hs hw h1) fun D σ H q => asg_read q
/-- x, y = a, b -/
def sPar (i j : Nat) (r : DA) : DS := fun ρ μ => (r ρ μ).toS ρ fun ds μ1 => match ds with
  | [d, e] => .nx ((ρ.set i (some d)).set j (some e)) μ1
  | _ => .stuck
theorem gs_par {i j : Nat} {x y : Str} {a b : Expr} {px py pt : Pos} {kt k2 pt2} (hc : X.calm = true) (hN : X.N.Nodup) (hi : X.N[i]? = some x) (hj : X.N[j]? = some y) (hij : i ≠ j)
    (hx : X.env.scope.names.lookup x = some .local) (hy : X.env.scope.names.lookup y = some .local) (ha : GA g W X [a, b] fr)
    (hw : swappedStores [.Tuple [.Name x px, .Name y py] kt pt] (.Tuple [a, b] k2 pt2) X.env = pure (some [x, y]) := by rfl)
    (hs : swapsWithSole [.Tuple [.Name x px, .Name y py] kt pt] (.Tuple [a, b] k2 pt2) pos.line X.env = pure false := by rfl) :
    GS g W X (.Assign [.Tuple [.Name x px, .Name y py] kt pt] (.Tuple [a, b] k2 pt2) pos) (sPar i j fr) := PS.imp (ps_par hc hN hi hj hij hx hy ha hw hs) fun D σ H q => by
  obtain ⟨κ, ρ, μ, he, hs, hw⟩ := q
  refine ⟨κ, ρ, μ, he, hs, (wpS.bind he hw).mono fun ds μ1 κ1 H1 e1 s1 h1 vs rv => ?_⟩
  match ds, rv, h1 with
  | [], _, h1 => exact h1.elim
  | [_], _, h1 => exact h1.elim
  | [d, e], rv, h1 =>
    obtain ⟨v, r, rfl, q1, q2⟩ := rv.of_cons
    obtain ⟨w, r', rfl, q3, q4⟩ := q2.of_cons
    cases q4.of_nil
    exact ⟨v, w, rfl, h1 κ1 H1 _ Ext.refl s1 (((he.ext e1).set q1).set q3)⟩
  | _ :: _ :: _ :: _, _, h1 => exact h1.elim

/-! ### while -/
def loopW (t : DT) (f : DS) : Nat → DS
  | 0 => fun _ _ => .stuck
  | n + 1 => fun ρ μ => (t ρ μ).toS ρ fun k μ1 => if k = true then (match f ρ μ1 with
      | .nx ρ' μ' => loopW t f n ρ' μ'
      | .ct ρ' μ' => loopW t f n ρ' μ'
      | .bk ρ' μ' => .nx ρ' μ'
      | r => r) else .nx ρ μ1
/-- n: more than the turns -/
def sWhile (n : En → Sto → Nat) (t : DT) (f : DS) : DS := fun ρ μ => loopW t f (n ρ μ) ρ μ
theorem gs_while {n : En → Sto → Nat} (hp : PassesOwn (model X.prog X.w) X.A X.env X.xe) (hc : GT g W X c ft) (hb : GSs g W X sts f) : GS g W X (.While c sts [] pos) (sWhile n ft f) := PS.imp (ps_while hp hc hb) fun D σ H q => by
  obtain ⟨κ, ρ, μ, he, hs, hw⟩ := q
  refine ⟨fun m σ H => ∃ κ ρ μ, RelE g κ H ρ σ ∧ StoOk g κ H μ ∧ wpS g W D κ H (loopW ft f m ρ μ), ⟨_, κ, ρ, μ, he, hs, hw⟩, ?_⟩
  intro m σ H q
  obtain ⟨κ, ρ, μ, he, hs, hw⟩ := q
  cases m with
  | zero => exact hw.elim
  | succ m =>
    refine ⟨κ, ρ, μ, he, hs, (wpS.bind he hw).mono fun k μ1 κ1 H1 e1 s1 h1 => ?_⟩
    cases k with
    | false => rw [if_neg (by decide)] at h1 ⊢; exact h1 κ1 H1 σ Ext.refl s1 (he.ext e1)
    | true =>
      rw [if_pos rfl] at h1 ⊢
      refine ⟨fun σ' H' => ∃ κ ρ μ, RelE g κ H' ρ σ' ∧ StoOk g κ H' μ ∧ wpS g W D κ H' (loopW ft f m ρ μ), fun σ' H' q => ⟨m, Nat.lt_succ_self _, q⟩, κ1, ρ, μ1, he.ext e1, s1, ?_⟩
      cases e : f ρ μ1 with
      | nx ρ' μ' => rw [e] at h1; exact fun κ2 H2 σ2 e2 s2 q2 => ⟨κ2, ρ', μ', q2, s2, wpS.ext e2 h1⟩
      | ct ρ' μ' => rw [e] at h1; exact fun κ2 H2 σ2 e2 s2 q2 => ⟨κ2, ρ', μ', q2, s2, wpS.ext e2 h1⟩
      | bk ρ' μ' => rw [e] at h1; exact h1
      | rt d μ' => rw [e] at h1; exact h1
      | ex c ns xs ρ' μ' => rw [e] at h1; exact h1
      | stuck => rw [e] at h1; exact h1

/-! ### what is walked -/
/-- what is walked: an item's list that stays, or a cell that is read anew at each turn -/
inductive Wk where
  | fix (ds : List DV)
  | cell (i : Nat)
/-- the item at a turn; none inside: it is at its end -/
def wkAt : Wk → Sto → Nat → Option (Option DV)
  | .fix ds, _, k => some ds[k]?
  | .cell i, μ, k => match μ[i]? with
    | some (.lst xs) => some xs[k]?
    | _ => none
def wkLen : Wk → Sto → Nat
  | .fix ds, _ => ds.length
  | .cell i, μ => match μ[i]? with
    | some (.lst xs) => xs.length
    | _ => 0
/-- J walks it, whatever has come to pass since κ0, H0 -/
structure WkOk (g : Gc) (J : It) (κ0 : KA) (H0 : Hp) (w : Wk) : Prop where
  stop : ∀ k κ H μ, Ext0 κ0 H0 κ H → StoOk g κ H μ → wkAt w μ k = some none → J.stop k H
  go : ∀ k κ H μ d, Ext0 κ0 H0 κ H → StoOk g κ H μ → wkAt w μ k = some (some d) → J.go k H
  yld : ∀ k κ H μ d x H', Ext0 κ0 H0 κ H → StoOk g κ H μ → wkAt w μ k = some (some d) → J.yld k H x H' → Ext κ H κ H' ∧ StoOk g κ H' μ ∧ Rel g κ H' d x
abbrev DI := En → Sto → R Wk
def tI (g : Gc) (W : WX) (f : DI) : TI := fun σ H R => ∃ κ ρ μ, RelE g κ H ρ σ ∧ StoOk g κ H μ ∧ wpR g W σ κ H (f ρ μ) (fun k _ κ' H' => ∀ J, WkOk g J κ' H' k → R J H')
abbrev GI (g : Gc) (W : WX) (X : Cx) (tg iter : Expr) (f : DI) : Prop := PI X tg iter (tI g W f)
theorem PI.imp {X : Cx} {tg e : Expr} {t u : TI} (h : PI X tg e t) (f : ∀ σ H R, u σ H R → t σ H R) : PI X tg e u := ⟨fun pins s σ H R I q => h.run pins s σ H R I (f _ _ _ q)⟩
theorem PI.or {X : Cx} {tg e : Expr} {t u : TI} (h : PI X tg e t) (h' : PI X tg e u) : PI X tg e (fun σ H R => t σ H R ∨ u σ H R) := ⟨fun pins s σ H R I q => q.elim (h.run pins s σ H R I) (h'.run pins s σ H R I)⟩
/-- the items that a value gives when it is walked -/
def wkOf : DV → Sto → Option Wk
  | .lst xs, _ => some (.fix xs)
  | .scr xs, _ => some (.fix xs)
  | .tup xs, _ => some (.fix xs)
  | .str x, _ => some (.fix (x.cps.toList.map fun c => .str ⟨#[c]⟩))
  | .cell i, μ => match μ[i]? with
    | some (.lst _) => some (.cell i)
    | _ => none
  | _, _ => none
def iSeq (a : DE) : DI := fun ρ μ => (a ρ μ).bind fun d μ1 => R.of (wkOf d μ1) μ1
theorem wk_list {κ : KA} {H : Hp} {a : Addr} {ds : List DV} {vs : List V} (h : FrL g κ H a vs) (r : RelL g κ H ds vs) : WkOk g (Itl g.K a) κ H (.fix ds) where
  stop := fun k κ' H' μ e s hk => ⟨vs, (h.ext0 e).sq, by
    rw [← r.length]
    exact List.getElem?_eq_none_iff.mp (Option.some.inj hk)⟩
  go := fun k κ' H' μ d e s hk => by
    obtain ⟨v, h1, h2⟩ := r.get (Option.some.inj hk)
    exact ⟨vs, v, (h.ext0 e).sq, h1⟩
  yld := fun k κ' H' μ d x H'' e s hk y => by
    obtain ⟨rfl, y⟩ := y
    refine ⟨Ext.refl, s, ?_⟩
    obtain ⟨v, h1, h2⟩ := (r.ext0 e).get (Option.some.inj hk)
    have := y vs (h.ext0 e).sq
    rw [h1] at this; cases this
    exact h2
theorem wk_tup {κ : KA} {H : Hp} {a : Addr} {ds : List DV} {vs : List V} (h : FrT g κ H a vs) (r : RelL g κ H ds vs) : WkOk g (Itt g.K a) κ H (.fix ds) where
  stop := fun k κ' H' μ e s hk => ⟨vs, (h.ext0 e).sq, by
    rw [← r.length]
    exact List.getElem?_eq_none_iff.mp (Option.some.inj hk)⟩
  go := fun k κ' H' μ d e s hk => by
    obtain ⟨v, h1, h2⟩ := r.get (Option.some.inj hk)
    exact ⟨vs, v, (h.ext0 e).sq, h1⟩
  yld := fun k κ' H' μ d x H'' e s hk y => by
    obtain ⟨rfl, y⟩ := y
    refine ⟨Ext.refl, s, ?_⟩
    obtain ⟨v, h1, h2⟩ := (r.ext0 e).get (Option.some.inj hk)
    have := y vs (h.ext0 e).sq
    rw [h1] at this; cases this
    exact h2
theorem wk_str {κ : KA} {H : Hp} {x : Str} : WkOk g (Its x) κ H (.fix (x.cps.toList.map fun c => .str ⟨#[c]⟩)) where
  stop := fun k κ' H' μ e s hk => by
    show x.cps.size ≤ k
    have := List.getElem?_eq_none_iff.mp (Option.some.inj hk)
    simpa using this
  go := fun k κ' H' μ d e s hk => by
    show k < x.cps.size
    have := (List.getElem?_eq_some_iff.mp (Option.some.inj hk)).1
    simpa using this
  yld := fun k κ' H' μ d v H'' e s hk y => by
    obtain ⟨rfl, c, hc, rfl⟩ := y
    refine ⟨Ext.refl, s, ?_⟩
    have hd := Option.some.inj hk
    rw [List.getElem?_map] at hd
    have : x.cps.toList[k]? = some c := by simpa using hc
    rw [this] at hd
    cases hd
    simp [Rel]
theorem wk_rng {κ : KA} {H : Hp} {lo : Int} {n : Nat} : WkOk g (Itr lo n) κ H (.fix ((List.range n).map fun i => .int (lo + (i : Nat)))) where
  stop := fun k κ' H' μ e s hk => by
    show n ≤ k
    have := List.getElem?_eq_none_iff.mp (Option.some.inj hk)
    simpa using this
  go := fun k κ' H' μ d e s hk => by
    show k < n
    have := (List.getElem?_eq_some_iff.mp (Option.some.inj hk)).1
    simpa using this
  yld := fun i κ' H' μ d v H'' e s hk y => by
    obtain ⟨rfl, rfl⟩ := y
    refine ⟨Ext.refl, s, ?_⟩
    have hd := Option.some.inj hk
    rw [List.getElem?_map] at hd
    cases hr : (List.range n)[i]? with
    | none => rw [hr] at hd; cases hd
    | some j =>
      rw [hr] at hd
      have hij : j = i := by
        obtain ⟨h1, h2⟩ := List.getElem?_eq_some_iff.mp hr
        simpa using h2.symm
      cases hd
      subst hij
      simp [Rel]
theorem wk_cell {κ : KA} {H : Hp} {i : Nat} {p : Addr} (h : κ.cs[i]? = some (some p)) : WkOk g (Itl g.K p) κ H (.cell i) := by
  have key : ∀ κ' H' μ k o, Ext0 κ H κ' H' → StoOk g κ' H' μ → wkAt (.cell i) μ k = some o → ∃ xs vs, o = xs[k]? ∧ H' p = some (.lst vs) ∧ RelL g κ' H' xs vs := fun κ' H' μ k o e s hk => by
    simp only [wkAt] at hk
    cases ec : μ[i]? with
    | none => rw [ec] at hk; cases hk
    | some co =>
      rw [ec] at hk
      cases co with
      | lst xs =>
        cases hk
        obtain ⟨a, h1, h2⟩ := s.at_ i _ ec
        obtain ⟨q, vs, rfl, h3, h4⟩ := h2
        have := e.old i q (List.getElem?_eq_some_iff.mp h).1 h1
        rw [h] at this; cases this
        exact ⟨xs, vs, rfl, h3, h4⟩
      | _ => cases hk
  refine ⟨fun k κ' H' μ e s hk => ?_, fun k κ' H' μ d e s hk => ?_, fun k κ' H' μ d x H'' e s hk y => ?_⟩
  · obtain ⟨xs, vs, e1, h1, h2⟩ := key κ' H' μ k _ e s hk
    exact ⟨vs, .inl (.inl h1), by rw [← h2.length]; exact List.getElem?_eq_none_iff.mp e1.symm⟩
  · obtain ⟨xs, vs, e1, h1, h2⟩ := key κ' H' μ k _ e s hk
    obtain ⟨v, h3, h4⟩ := h2.get e1.symm
    exact ⟨vs, v, .inl (.inl h1), h3⟩
  · obtain ⟨xs, vs, e1, h1, h2⟩ := key κ' H' μ k _ e s hk
    obtain ⟨v, h3, h4⟩ := h2.get e1.symm
    obtain ⟨rfl, y⟩ := y
    have := y vs (.inl (.inl h1))
    rw [h3] at this; cases this
    exact ⟨Ext.refl, s, h4⟩
theorem gi_seq {tg : Expr} (xg : XG g X) (h : GE g W X e fa) : GI g W X tg e (iSeq fa) := PI.imp (PI.or (pi_list h) (PI.or (pi_tup h) (pi_str h))) fun σ H R q => by
  obtain ⟨κ, ρ, μ, he, hs, hw⟩ := q
  have hb := hw.bind
  cases e : fa ρ μ with
  | stuck => rw [e] at hb; exact hb.elim
  | ex c ns xs μ1 =>
    refine .inl ⟨κ, ρ, μ, he, hs, ?_⟩
    rw [e] at hb ⊢
    exact hb
  | ok d μ1 =>
    rw [e] at hb
    cases k : wkOf d μ1 with
    | none =>
      refine .inl ⟨κ, ρ, μ, he, hs, ?_⟩
      rw [e]
      intro κ1 H1 e1 s1
      have := hb κ1 H1 e1 s1
      dsimp only at this
      rw [k] at this
      exact this.elim
    | some wk =>
      have hb2 : ∀ κ1 H1, Ext κ H κ1 H1 → StoOk g κ1 H1 μ1 → ∀ J, WkOk g J κ1 H1 wk → R J H1 := fun κ1 H1 e1 s1 => by
        have := hb κ1 H1 e1 s1
        dsimp only at this
        rw [k] at this
        exact this κ1 H1 Ext.refl s1
      cases d with
      | lst xs =>
        refine .inl ⟨κ, ρ, μ, he, hs, ?_⟩
        rw [e]
        intro κ1 H1 e1 s1 v rv
        cases k
        simp only [Rel] at rv
        obtain ⟨a, vs, rfl, h2, h3⟩ := rv
        refine ⟨a, rfl, ⟨vs, .inl (.inl h2.1)⟩, ?_⟩
        rw [xg.K]
        exact hb2 κ1 H1 e1 s1 _ (wk_list (.inl h2) h3)
      | scr xs =>
        refine .inl ⟨κ, ρ, μ, he, hs, ?_⟩
        rw [e]
        intro κ1 H1 e1 s1 v rv
        cases k
        simp only [Rel] at rv
        obtain ⟨a, vs, rfl, h2, h3⟩ := rv
        refine ⟨a, rfl, ⟨vs, by rw [xg.K]; exact h2.sq⟩, ?_⟩
        rw [xg.K]
        exact hb2 κ1 H1 e1 s1 _ (wk_list h2 h3)
      | tup xs =>
        refine .inr (.inl ⟨κ, ρ, μ, he, hs, ?_⟩)
        rw [e]
        intro κ1 H1 e1 s1 v rv
        cases k
        simp only [Rel] at rv
        obtain ⟨a, vs, rfl, h2, h3⟩ := rv
        refine ⟨a, rfl, ⟨vs, by rw [xg.K]; exact h2.sq⟩, ?_⟩
        rw [xg.K]
        exact hb2 κ1 H1 e1 s1 _ (wk_tup h2 h3)
      | str x =>
        refine .inr (.inr ⟨κ, ρ, μ, he, hs, ?_⟩)
        rw [e]
        intro κ1 H1 e1 s1 v rv
        cases k
        simp only [Rel] at rv
        exact ⟨x, rv, hb2 κ1 H1 e1 s1 _ wk_str⟩
      | cell i =>
        refine .inl ⟨κ, ρ, μ, he, hs, ?_⟩
        rw [e]
        intro κ1 H1 e1 s1 v rv
        simp only [Rel] at rv
        simp only [wkOf] at k
        cases ec : μ1[i]? with
        | none => rw [ec] at k; cases k
        | some co =>
          rw [ec] at k
          cases co with
          | lst xs =>
            cases k
            obtain ⟨o, h1, h2⟩ := s1.at_ i _ ec
            obtain ⟨p, vs, rfl, h3, h4⟩ := h2
            refine ⟨p, rv.2 p h1, ⟨vs, .inl (.inl h3)⟩, ?_⟩
            rw [xg.K]
            exact hb2 κ1 H1 e1 s1 _ (wk_cell h1)
          | _ => cases k
      | _ => cases k
/-- range(n), range(a, b) -/
def inB (i : Int) : Bool := Nat.ble i.natAbs 4611686018427387903
def rngOf1 : List DV → Option Wk
  | [.int j] => if inB j = true then some (.fix ((List.range j.toNat).map fun i => .int (0 + (i : Nat)))) else none
  | _ => none
def rngOf2 : List DV → Option Wk
  | [.int i, .int j] => if inB i = true ∧ inB j = true then some (.fix ((List.range (j - i).toNat).map fun k => .int (i + (k : Nat)))) else none
  | _ => none
def iRng1' (r : DA) : DI := fun ρ μ => (r ρ μ).bind fun ds μ1 => R.of (rngOf1 ds) μ1
def iRng2' (r : DA) : DI := fun ρ μ => (r ρ μ).bind fun ds μ1 => R.of (rngOf2 ds) μ1
theorem inB_iff {i : Int} (h : inB i = true) : -(2 ^ 62) ≤ i ∧ i < 2 ^ 62 := by
  have h' : i.natAbs ≤ 4611686018427387903 := Nat.le_of_ble_eq_true h
  omega
theorem rng1_some {ds : List DV} {k : Wk} (h : rngOf1 ds = some k) : ∃ j, ds = [.int j] ∧ inB j = true ∧ k = .fix ((List.range j.toNat).map fun i => .int (0 + (i : Nat))) := by
  unfold rngOf1 at h
  split at h
  · split at h
    · rename_i j hb; cases h; exact ⟨j, rfl, hb, rfl⟩
    · cases h
  · cases h
theorem rng2_some {ds : List DV} {k : Wk} (h : rngOf2 ds = some k) : ∃ i j, ds = [.int i, .int j] ∧ inB i = true ∧ inB j = true ∧ k = .fix ((List.range (j - i).toNat).map fun k => .int (i + (k : Nat))) := by
  unfold rngOf2 at h
  split at h
  · split at h
    · rename_i i j hb; cases h; exact ⟨i, j, rfl, hb.1, hb.2, rfl⟩
    · cases h
  · cases h
theorem gi_rng1 {tg a : Expr} {p pos : Pos} (hg : Gl X "range") (hm : X.mg "range" = none) (ha : GA g W X [a] fr) (hs : starEach [a] X.env = [(false, eval a X.env)] := by rfl) : GI g W X tg (.Call (.Name "range" p) [a] [] pos) (iRng1' fr) :=
  PI.imp (pi_range1 hg hm ha hs) fun σ H R q => by
  obtain ⟨κ, ρ, μ, he, hs, hw⟩ := q
  refine ⟨κ, ρ, μ, he, hs, hw.bind.mono fun ds μ1 κ1 H1 e1 s1 h1 vs rv => ?_⟩
  cases k : rngOf1 ds with
  | none => rw [k] at h1; exact h1.elim
  | some wk =>
    rw [k] at h1
    obtain ⟨j, rfl, hb, rfl⟩ := rng1_some k
    obtain ⟨v, r, rfl, q1, q2⟩ := rv.of_cons
    cases q2.of_nil
    simp only [Rel] at q1
    subst q1
    obtain ⟨b1, b2⟩ := inB_iff hb
    exact ⟨j, rfl, b1, b2, h1 κ1 H1 Ext.refl s1 _ wk_rng⟩
theorem gi_rng2 {tg a b : Expr} {p pos : Pos} (hg : Gl X "range") (hm : X.mg "range" = none) (ha : GA g W X [a, b] fr) (hs : starEach [a, b] X.env = [(false, eval a X.env), (false, eval b X.env)] := by rfl) (hs2 : starEach [b] X.env = [(false, eval b X.env)] := by rfl) :
    GI g W X tg (.Call (.Name "range" p) [a, b] [] pos) (iRng2' fr) :=
  PI.imp (pi_range2 hg hm ha hs hs2) fun σ H R q => by
  obtain ⟨κ, ρ, μ, he, hs, hw⟩ := q
  refine ⟨κ, ρ, μ, he, hs, hw.bind.mono fun ds μ1 κ1 H1 e1 s1 h1 vs rv => ?_⟩
  cases k : rngOf2 ds with
  | none => rw [k] at h1; exact h1.elim
  | some wk =>
    rw [k] at h1
    obtain ⟨i, j, rfl, hb, hb', rfl⟩ := rng2_some k
    obtain ⟨v, r, rfl, q1, q2⟩ := rv.of_cons
    obtain ⟨v', r', rfl, q3, q4⟩ := q2.of_cons
    cases q4.of_nil
    simp only [Rel] at q1 q3
    subst q1 q3
    obtain ⟨b1, b2⟩ := inB_iff hb
    obtain ⟨b3, b4⟩ := inB_iff hb'
    exact ⟨i, j, rfl, ⟨b1, b2, b3, b4⟩, h1 κ1 H1 Ext.refl s1 _ wk_rng⟩
end
end SD

set_option Elab.async false
set_option linter.all false
set_option maxRecDepth 100000
set_option maxHeartbeats 4000000
/-! SD, fourth part: for, comprehensions. -/
namespace SD
open PySem PySem.Spec PyProof.Rows L2
section
variable {g : Gc} {W : WX} {X : Cx} {a b c e : Expr} {es : List Expr} {fa fb fc : DE} {ft : DT} {fr : DA} {pos : Pos} {st : Stmt} {sts stb : List Stmt} {f h fs fu : DS}

/-! ### for -/
def loopF (w : Wk) (t : DG) (f : DS) : Nat → Nat → DS
  | 0, _ => fun _ _ => .stuck
  | n + 1, k => fun ρ μ => match wkAt w μ k with
    | none => .stuck
    | some none => .nx ρ μ
    | some (some d) => match t d ρ μ with
      | none => .stuck
      | some ρ1 => match f ρ1 μ with
        | .nx ρ' μ' => loopF w t f n (k + 1) ρ' μ'
        | .ct ρ' μ' => loopF w t f n (k + 1) ρ' μ'
        | .bk ρ' μ' => .nx ρ' μ'
        | r => r
def sFor (it : DI) (t : DG) (f : DS) : DS := fun ρ μ => (it ρ μ).toS ρ fun w μ1 => loopF w t f (wkLen w μ1 + 1) 0 ρ μ1
theorem gs_for {tg iter : Expr} {fi : DI} {t : DG} {sl : List Nat} (hp : PassesOwn (model X.prog X.w) X.A X.env X.xe) (hc : X.calm = true) (hi : GI g W X tg iter fi) (hg : GG g X tg sl t) (hb : GSs g W X sts f)
    (hs : ∀ x, foldedSetIterable iter X.env x = pure x := by intro _; rfl) : GS g W X (.For tg iter sts [] pos) (sFor fi t f) := PS.imp (ps_for hp hc hi hg hb hs) fun D σ H q => by
  obtain ⟨κ, ρ, μ, he, hs, hw⟩ := q
  refine ⟨κ, ρ, μ, he, hs, (wpS.bind he hw).mono fun w μ1 κ1 H1 e1 s1 h1 J wk => ?_⟩
  refine ⟨fun i m σ H => ∃ κ ρ μ, Ext κ1 H1 κ H ∧ RelE g κ H ρ σ ∧ StoOk g κ H μ ∧ wpS g W D κ H (loopF w t f m i ρ μ), ⟨_, κ1, ρ, μ1, Ext.refl, he.ext e1, s1, h1⟩, ?_⟩
  intro i m σ2 H2 q
  obtain ⟨κ2, ρ2, μ2, e2, he2, s2, h2⟩ := q
  cases m with
  | zero => exact h2.elim
  | succ m =>
    unfold loopF at h2
    cases ew : wkAt w μ2 i with
    | none => rw [ew] at h2; exact h2.elim
    | some o =>
      rw [ew] at h2
      cases o with
      | none => exact .inl ⟨wk.stop i κ2 H2 μ2 e2.toExt0 s2 ew, h2 κ2 H2 σ2 Ext.refl s2 he2⟩
      | some d =>
        refine .inr ⟨wk.go i κ2 H2 μ2 d e2.toExt0 s2 ew, fun σ' H' => ∃ κ ρ μ, Ext κ1 H1 κ H' ∧ RelE g κ H' ρ σ' ∧ StoOk g κ H' μ ∧ wpS g W D κ H' (loopF w t f m (i + 1) ρ μ), fun σ' H' q => ⟨m, Nat.lt_succ_self _, q⟩, fun x H' y => ?_⟩
        obtain ⟨e3, s3, rx⟩ := wk.yld i κ2 H2 μ2 d x H' e2.toExt0 s2 ew y
        refine ⟨κ2, d, ρ2, μ2, rx, he2.ext e3, s3, ?_⟩
        simp only at h2
        cases et : t d ρ2 μ2 with
        | none => rw [et] at h2; exact h2.elim
        | some ρ3 =>
          rw [et] at h2
          intro σ3 he3 _ _
          refine ⟨κ2, ρ3, μ2, he3, s3, ?_⟩
          simp only at h2
          cases ef : f ρ3 μ2 with
          | nx ρ' μ' => rw [ef] at h2; exact fun κ4 H4 σ4 e4 s4 q4 => ⟨κ4, ρ', μ', e2.trans (e3.trans e4), q4, s4, wpS.ext (e3.trans e4) h2⟩
          | ct ρ' μ' => rw [ef] at h2; exact fun κ4 H4 σ4 e4 s4 q4 => ⟨κ4, ρ', μ', e2.trans (e3.trans e4), q4, s4, wpS.ext (e3.trans e4) h2⟩
          | bk ρ' μ' => rw [ef] at h2; exact wpS.ext e3 h2
          | rt d μ' => rw [ef] at h2; exact wpS.ext e3 h2
          | ex c ns xs ρ' μ' => rw [ef] at h2; exact wpS.ext e3 h2
          | stuck => rw [ef] at h2; exact h2

/-! ### comprehensions -/
abbrev W0 : WX := fun _ _ _ _ => False
def wipeE (ρ : En) : List Nat → En
  | [] => ρ
  | v :: vs => (wipeE ρ vs).set v none
theorem RelE.wipe {κ : KA} {H : Hp} {ρ : En} {σ : L2.St} (h : RelE g κ H ρ σ) : ∀ vs : List Nat, RelE g κ H (wipeE ρ vs) (wipe σ vs)
  | [] => h
  | v :: vs => (RelE.wipe h vs).unset
def R.nox {α : Type} (r : R α) : R α := match r with
  | .ok a μ => .ok a μ
  | _ => .stuck
/-- the items that a comprehension makes -/
def loopL (w : Wk) (t : DG) (tt : DT) (te : DE) (ρ : En) : Nat → Nat → Sto → R (List DV)
  | 0, _, _ => .stuck
  | n + 1, k, μ => match wkAt w μ k with
    | none => .stuck
    | some none => .ok [] μ
    | some (some d) => match t d ρ μ with
      | none => .stuck
      | some ρ1 => (tt ρ1 μ).nox.bind fun b μ1 => if b = true then (te ρ1 μ1).nox.bind fun y μ2 => (loopL w t tt te ρ n (k + 1) μ2).bind fun ys μ3 => .ok (y :: ys) μ3 else loopL w t tt te ρ n (k + 1) μ1
def tYes' : DT := fun _ μ => .ok true μ
def eLcL (it : DI) (t : DG) (tt : DT) (te : DE) (vs : List Nat) : En → Sto → R (List DV) := fun ρ μ => (it ρ μ).bind fun w μ1 => if okLen (wkLen w μ1 + 1) = true then loopL w t tt te (wipeE ρ vs) (wkLen w μ1 + 1) 0 μ1 else .stuck
def eLc (it : DI) (t : DG) (tt : DT) (te : DE) (vs : List Nat) : DE := fun ρ μ => (eLcL it t tt te vs ρ μ).bind fun ys μ1 => .ok (.lst ys) μ1
def eLcC (it : DI) (t : DG) (tt : DT) (te : DE) (vs : List Nat) : DE := fun ρ μ => (eLcL it t tt te vs ρ μ).bind fun ys μ1 => .ok (.cell μ1.length) (μ1 ++ [.lst ys])
abbrev GTs (g : Gc) (W : WX) (X : Cx) (ifs : List Expr) (f : DT) : Prop := PTs X ifs (tT g W f)
theorem PTs.imp {X : Cx} {ifs : List Expr} {t u : TT} (h : PTs X ifs t) (f : ∀ σ H Q, u σ H Q → t σ H Q) : PTs X ifs u := ⟨fun pins s σ H Q I q => h.run pins s σ H Q I (f _ _ _ q)⟩
theorem gts_nil : GTs g W X [] tYes' := PTs.imp pts_nil fun σ H Q q => by
  obtain ⟨κ, ρ, μ, he, hs, hw⟩ := q
  exact hw κ H Ext.refl hs
theorem gts_one (h : GT g W X c ft) : GTs g W X [c] ft := PTs.imp (pts_one h) fun _ _ _ q => q

/-- what a comprehension's end wants -/
def lcEnd (g : Gc) (W : WX) (σ : L2.St) (Q : VK) (fin : List DV → Sto → R DV) (κ : KA) (H : Hp) (r : R (List DV)) : Prop :=
  wpR g W σ κ H (r.bind fin) (fun d _ κ' H' => ∀ v, Rel g κ' H' d v → Q v H')
theorem wipe_get (i : Nat) : ∀ (vs : List Nat) (τ : L2.St), (wipe τ vs)[i]? = if i ∈ vs then (if i < τ.length then some none else none) else τ[i]?
  | [], τ => by simp [wipe]
  | v :: vs, τ => by
    unfold wipe
    by_cases hv : v = i
    · subst hv
      rw [if_pos (by simp)]
      by_cases hb : v < τ.length
      · rw [List.getElem?_set_self (by rw [wipe_length]; exact hb), if_pos hb]
      · rw [List.getElem?_eq_none (by rw [List.length_set, wipe_length]; omega), if_neg hb]
    · rw [List.getElem?_set_ne hv, wipe_get i vs τ]
      by_cases hm : i ∈ vs
      · rw [if_pos hm, if_pos (List.mem_cons_of_mem _ hm)]
      · rw [if_neg hm, if_neg (fun h => (List.mem_cons.mp h).elim (fun e => hv e.symm) hm)]
theorem wipe_eq {σ σ' : L2.St} {vs sl : List Nat} (hl : σ'.length = (wipe σ vs).length) (hk : ∀ i, i ∉ sl → σ'[i]? = (wipe σ vs)[i]?) (hsl : ∀ i ∈ sl, i ∈ vs) : wipe σ' vs = wipe σ vs := by
  apply List.ext_getElem?
  intro i
  rw [wipe_get, wipe_get]
  by_cases hm : i ∈ vs
  · rw [if_pos hm, if_pos hm, hl, wipe_length]
  · rw [if_neg hm, if_neg hm, hk i fun h => hm (hsl i h), wipe_get, if_neg hm]

/-- the heart: the list D is filled; at its end fin takes the items -/
theorem lc_read {fi : DI} {t : DG} {tt : DT} {te : DE} {vs sl : List Nat} {fin : List DV → Sto → R DV} {σ : L2.St} {H : Hp} {Q : VK} (hsl : ∀ i ∈ sl, i ∈ vs)
    (hfin : ∀ (κ1 : KA) (H1 : Hp) (κ : KA) (H : Hp) (μ1 μ : Sto) (D : Addr) (acc : List DV) (avs : List V), StoOk g κ1 H1 μ1 → H1 D = none → κ.gh = κ1.gh → Ext0 κ1 H1 (κ.hide D) H → (∀ a ∈ κ1.gh, NoTbl H1 a → H a = H1 a) →
      StoOk g (κ.hide D) H μ → H D = some (.lst avs) → RelL g (κ.hide D) H acc avs → wpR g W σ κ1 H1 (fin acc μ) (fun d _ κ' H' => ∀ v, Rel g κ' H' d v → Q v H') → Q (.ref D) H)
    (q : tE g W (fun ρ μ => (eLcL fi t tt te vs ρ μ).bind fin) σ H Q) : tLc (tI g W fi) (tG g sl t) (tT g W0 tt) (tE g W0 te) vs σ H Q := by
  obtain ⟨κ, ρ, μ, he, hs, hw⟩ := q
  have hw : wpR g W σ κ H ((fi ρ μ).bind fun w μ1 => (if okLen (wkLen w μ1 + 1) = true then loopL w t tt te (wipeE ρ vs) (wkLen w μ1 + 1) 0 μ1 else .stuck).bind fin) (fun d _ κ' H' => ∀ v, Rel g κ' H' d v → Q v H') := by
    have e : (eLcL fi t tt te vs ρ μ).bind fin = (fi ρ μ).bind fun w μ1 => (if okLen (wkLen w μ1 + 1) = true then loopL w t tt te (wipeE ρ vs) (wkLen w μ1 + 1) 0 μ1 else .stuck).bind fin := by
      unfold eLcL
      cases fi ρ μ <;> rfl
    rw [← e]; exact hw
  refine ⟨κ, ρ, μ, he, hs, hw.bind.mono fun w μ1 κ1 H1 e1 s1 h1 J wk D hD => ?_⟩
  by_cases hz : okLen (wkLen w μ1 + 1) = true
  case neg => rw [if_neg hz] at h1; exact h1.elim
  rw [if_pos hz] at h1
  have he1 := (he.ext e1).wipe vs
  have hz : wkLen w μ1 + 1 ≤ sizeLine := by simpa [okLen] using hz
  generalize hn : wkLen w μ1 = n at h1 hz
  -- the word
  refine ⟨fun i m H => ∃ (κ : KA) (μ : Sto) (acc : List DV) (avs : List V), κ.gh = κ1.gh ∧ Ext0 κ1 H1 (κ.hide D) H ∧ (∀ a ∈ κ1.gh, NoTbl H1 a → H a = H1 a) ∧ RelE g (κ.hide D) H (wipeE ρ vs) (wipe σ vs) ∧ StoOk g (κ.hide D) H μ ∧ H D = some (.lst avs) ∧ RelL g (κ.hide D) H acc avs ∧
      acc.length + m ≤ n + 1 ∧ wpR g W σ κ1 H1 ((loopL w t tt te (wipeE ρ vs) m i μ).bind fun ys μ' => fin (acc ++ ys) μ') (fun d _ κ' H' => ∀ v, Rel g κ' H' d v → Q v H'),
    ⟨n + 1, κ1, μ1, [], [], rfl, Ext0.hide hD, fun a ha _ => by obtain ⟨⟨u, hu⟩, _⟩ := s1.gst a ha; exact upd_ne (ne_of_none hu hD), ⟨he1.len, fun i d hd => by
      obtain ⟨v, a1, a2⟩ := he1.at_ i d hd
      exact ⟨v, a1, a2.ext0 (Ext0.hide hD)⟩⟩, s1.hide hD, upd_same, RelL.nil, by simp, h1⟩, ?_⟩
  intro i m H2 q
  obtain ⟨κ2, μ2, acc, avs, g2, x2, v2, he2, s2, hD2, ra, hm, h2⟩ := q
  cases m with
  | zero => exact h2.elim
  | succ m =>
    unfold loopL at h2
    cases ew : wkAt w μ2 i with
    | none => rw [ew] at h2; exact h2.elim
    | some o =>
      rw [ew] at h2
      cases o with
      | none =>
        refine .inl ⟨wk.stop i _ H2 μ2 x2 s2 ew, ?_⟩
        have h3 : wpR g W σ κ1 H1 (fin (acc ++ []) μ2) (fun d _ κ' H' => ∀ v, Rel g κ' H' d v → Q v H') := h2
        rw [List.append_nil] at h3
        exact hfin κ1 H1 κ2 H2 μ1 μ2 D acc avs s1 hD g2 x2 v2 s2 hD2 ra h3
      | some d =>
        refine .inr ⟨wk.go i _ H2 μ2 d x2 s2 ew, fun H => ∃ (κ : KA) (μ : Sto) (acc : List DV) (avs : List V), κ.gh = κ1.gh ∧ Ext0 κ1 H1 (κ.hide D) H ∧ (∀ a ∈ κ1.gh, NoTbl H1 a → H a = H1 a) ∧ RelE g (κ.hide D) H (wipeE ρ vs) (wipe σ vs) ∧ StoOk g (κ.hide D) H μ ∧ H D = some (.lst avs) ∧ RelL g (κ.hide D) H acc avs ∧
            acc.length + m ≤ n + 1 ∧ wpR g W σ κ1 H1 ((loopL w t tt te (wipeE ρ vs) m (i + 1) μ).bind fun ys μ' => fin (acc ++ ys) μ') (fun d _ κ' H' => ∀ v, Rel g κ' H' d v → Q v H'), fun H' q => ⟨m, Nat.lt_succ_self _, q⟩, fun x H' y => ?_⟩
        obtain ⟨e3, s3, rx⟩ := wk.yld i _ H2 μ2 d x H' x2 s2 ew y
        refine ⟨κ2.hide D, d, wipeE ρ vs, μ2, rx, he2.ext e3, s3, ?_⟩
        simp only at h2
        cases et : t d (wipeE ρ vs) μ2 with
        | none => rw [et] at h2; exact h2.elim
        | some ρ3 =>
          rw [et] at h2
          intro σ3 he3 hl3 hk3
          refine ⟨wipe_eq hl3 hk3 hsl, κ2.hide D, ρ3, μ2, he3, s3, ?_⟩
          have hz0 : ∀ {α : Type} {r : R α} {Φ : α → Sto → KA → Hp → Prop}, (∀ a μ, r = .ok a μ → ∀ κ' H'', Ext (κ2.hide D) H' κ' H'' → StoOk g κ' H'' μ → Φ a μ κ' H'') → (∀ c ns xs μ, r ≠ .ex c ns xs μ) → r ≠ .stuck → wpR g W0 σ3 (κ2.hide D) H' r Φ := by
            intro α r Φ h1 h2 h3
            cases r with
            | ok a μ => exact h1 a μ rfl
            | ex c ns xs μ => exact (h2 c ns xs μ rfl).elim
            | stuck => exact (h3 rfl).elim
          -- the state behind the item
          have x3 : Ext0 κ1 H1 (κ2.hide D) H' := x2.trans e3.toExt0
          have nl : ∀ {K : Hp} {l : List V}, K D = some (.lst l) → NoTbl K D := fun {K l} e ps z => by rw [e] at z; cases z
          have nv : ∀ {K : Hp} {a : Addr}, K a = H1 a → NoTbl H1 a → NoTbl K a := fun {K a} e n ps z => n ps (by rw [← e]; exact z)
          have v3 : ∀ a ∈ κ1.gh, NoTbl H1 a → H' a = H1 a := fun a ha n => (e3.ghv a (by show a ∈ D :: κ2.gh; rw [g2]; exact List.mem_cons_of_mem _ ha) (nv (v2 a ha n) n)).trans (v2 a ha n)
          have hD3 : H' D = some (.lst avs) := (e3.ghv D (by show D ∈ D :: κ2.gh; simp) (nl hD2)).trans hD2
          have ra3 := ra.ext e3
          have he3' := he2.ext e3
          -- hides again
          have again : ∀ {κ4 : KA}, κ4.gh = (κ2.hide D).gh → κ4 = (KA.mk κ4.cs κ2.gh).hide D := fun {κ4} e => by
            obtain ⟨cs, gh⟩ := κ4
            show KA.mk cs gh = KA.mk cs (D :: κ2.gh)
            rw [show gh = D :: κ2.gh from e]
          simp only at h2
          cases eb : tt ρ3 μ2 with
          | stuck => rw [eb] at h2; exact h2.elim
          | ex c ns xs μ3 => rw [eb] at h2; exact h2.elim
          | ok b μ3 =>
            rw [eb] at h2
            intro κ3 H3 e4 s4
            have x4 : Ext0 κ1 H1 κ3 H3 := x3.trans e4.toExt0
            have v4 : ∀ a ∈ κ1.gh, NoTbl H1 a → H3 a = H1 a := fun a ha n => (e4.ghv a (by show a ∈ D :: κ2.gh; rw [g2]; exact List.mem_cons_of_mem _ ha) (nv (v3 a ha n) n)).trans (v3 a ha n)
            have hD4 : H3 D = some (.lst avs) := (e4.ghv D (by show D ∈ D :: κ2.gh; simp) (nl hD3)).trans hD3
            have k3 := again e4.ghs
            cases b with
            | false =>
              refine iteF ?_
              have h3 : wpR g W σ κ1 H1 ((loopL w t tt te (wipeE ρ vs) m (i + 1) μ3).bind fun ys μ' => fin (acc ++ ys) μ') (fun d _ κ' H' => ∀ v, Rel g κ' H' d v → Q v H') := h2
              exact ⟨KA.mk κ3.cs κ2.gh, μ3, acc, avs, g2, by rw [← k3]; exact x4, v4, by rw [← k3]; exact he3'.ext e4, by rw [← k3]; exact s4, hD4, by rw [← k3]; exact ra3.ext e4, by omega, h3⟩
            | true =>
              refine iteT ?_
              refine ⟨κ3, ρ3, μ3, he3.ext e4, s4, ?_⟩
              cases ey : te ρ3 μ3 with
              | stuck => 
                have h3 : wpR g W σ κ1 H1 (((te ρ3 μ3).nox.bind fun y μ2 => (loopL w t tt te (wipeE ρ vs) m (i + 1) μ2).bind fun ys μ3 => .ok (y :: ys) μ3).bind fun ys μ' => fin (acc ++ ys) μ') (fun d _ κ' H' => ∀ v, Rel g κ' H' d v → Q v H') := h2
                rw [ey] at h3; exact h3.elim
              | ex c ns xs μ4 =>
                have h3 : wpR g W σ κ1 H1 (((te ρ3 μ3).nox.bind fun y μ2 => (loopL w t tt te (wipeE ρ vs) m (i + 1) μ2).bind fun ys μ3 => .ok (y :: ys) μ3).bind fun ys μ' => fin (acc ++ ys) μ') (fun d _ κ' H' => ∀ v, Rel g κ' H' d v → Q v H') := h2
                rw [ey] at h3; exact h3.elim
              | ok yv μ4 =>
                have h3 : wpR g W σ κ1 H1 (((te ρ3 μ3).nox.bind fun y μ2 => (loopL w t tt te (wipeE ρ vs) m (i + 1) μ2).bind fun ys μ3 => .ok (y :: ys) μ3).bind fun ys μ' => fin (acc ++ ys) μ') (fun d _ κ' H' => ∀ v, Rel g κ' H' d v → Q v H') := h2
                rw [ey] at h3
                have h4 : wpR g W σ κ1 H1 ((loopL w t tt te (wipeE ρ vs) m (i + 1) μ4).bind fun ys μ' => fin ((acc ++ [yv]) ++ ys) μ') (fun d _ κ' H' => ∀ v, Rel g κ' H' d v → Q v H') := by
                  have e : (loopL w t tt te (wipeE ρ vs) m (i + 1) μ4).bind (fun ys μ' => fin ((acc ++ [yv]) ++ ys) μ') = (((R.ok yv μ4 : R DV).nox.bind fun y μ2 => (loopL w t tt te (wipeE ρ vs) m (i + 1) μ2).bind fun ys μ3 => .ok (y :: ys) μ3).bind fun ys μ' => fin (acc ++ ys) μ') := by
                    show _ = ((loopL w t tt te (wipeE ρ vs) m (i + 1) μ4).bind fun ys μ3 => R.ok (yv :: ys) μ3).bind fun ys μ' => fin (acc ++ ys) μ'
                    cases loopL w t tt te (wipeE ρ vs) m (i + 1) μ4 with
                    | ok ys μ5 => show fin ((acc ++ [yv]) ++ ys) μ5 = fin (acc ++ yv :: ys) μ5; rw [List.append_assoc]; rfl
                    | ex c ns xs μ5 => rfl
                    | stuck => rfl
                  rw [e]; exact h3
                intro κ4 H4 e5 s5 v rv
                have x5 : Ext0 κ1 H1 κ4 H4 := x4.trans e5.toExt0
                have gh4 : κ4.gh = (κ2.hide D).gh := e5.ghs.trans e4.ghs
                have mD : D ∈ κ4.gh := by rw [gh4]; show D ∈ D :: κ2.gh; simp
                have v5 : ∀ a ∈ κ1.gh, NoTbl H1 a → H4 a = H1 a := fun a ha n => (e5.ghv a (by rw [e4.ghs]; show a ∈ D :: κ2.gh; rw [g2]; exact List.mem_cons_of_mem _ ha) (nv (v4 a ha n) n)).trans (v4 a ha n)
                have hD5 : H4 D = some (.lst avs) := (e5.ghv D (by rw [e4.ghs]; show D ∈ D :: κ2.gh; simp) (nl hD4)).trans hD4
                have k4 := again gh4
                have ra5 := (ra3.ext e4).ext e5
                have xw : Ext0 κ4 H4 κ4 (upd H4 D (.lst (avs ++ [v]))) := Ext0.write (.inr mD)
                have dn : ∀ a ∈ κ1.gh, a ≠ D := fun a ha e => by
                  obtain ⟨⟨u, hu⟩, _⟩ := s1.gst a ha
                  rw [e, hD] at hu; cases hu
                refine ⟨avs, hD5, ?_, ?_⟩
                · have := ra5.length; omega
                · have heX := (he3'.ext e4).ext e5
                  have he6 : RelE g κ4 (upd H4 D (.lst (avs ++ [v]))) (wipeE ρ vs) (wipe σ vs) := ⟨heX.len, fun i d hd => by
                    obtain ⟨v', a1, a2⟩ := heX.at_ i d hd
                    exact ⟨v', a1, a2.ext0 xw⟩⟩
                  exact ⟨KA.mk κ4.cs κ2.gh, μ4, acc ++ [yv], avs ++ [v], g2, by rw [← k4]; exact x5.trans xw, fun a ha n => by rw [upd_ne (dn a ha)]; exact v5 a ha n, by rw [← k4]; exact he6, by rw [← k4]; exact s5.fill mD (nl hD5), upd_same, by rw [← k4]; exact RelL.append (ra5.ext0 xw) (RelL.cons (rv.ext0 xw) RelL.nil), by simp; omega, h4⟩
theorem lcL_unf {fi : DI} {t : DG} {tt : DT} {te : DE} {vs : List Nat} : eLc fi t tt te vs = fun ρ μ => (eLcL fi t tt te vs ρ μ).bind fun ys μ1 => .ok (.lst ys) μ1 := rfl
theorem lc_frozen {fi : DI} {t : DG} {tt : DT} {te : DE} {vs sl : List Nat} {σ : L2.St} {H : Hp} {Q : VK} (hsl : ∀ i ∈ sl, i ∈ vs) (q : tE g W (eLc fi t tt te vs) σ H Q) : tLc (tI g W fi) (tG g sl t) (tT g W0 tt) (tE g W0 te) vs σ H Q := by
  refine lc_read hsl (fun κ1 H1 κ H μ1 μ D acc avs s1 hD g2 x v s hD2 ra h => ?_) q
  have nD : ¬ κ.has D := fun m => m.elim (fun m => (s.gst D (by show D ∈ D :: κ.gh; simp)).2 m) fun m => by
    rw [g2] at m
    obtain ⟨⟨u, hu⟩, _⟩ := s1.gst D m
    rw [hD] at hu; cases hu
  have ex : Ext κ1 H1 κ H := ⟨x.trans Ext0.show', g2, v⟩
  refine h κ H ex (s.show' fun ps z => by rw [hD2] at z; cases z) (.ref D) ?_
  simp only [Rel]
  exact ⟨D, avs, rfl, ⟨hD2, nD⟩, ra.ext0 Ext0.show'⟩
/-- the hidden list becomes a cell -/
theorem unhide_cell {κ : KA} {H : Hp} {μ : Sto} {D : Addr} {acc : List DV} {avs : List V} (s : StoOk g (κ.hide D) H μ) (nD : ¬ κ.has D) (hD : H D = some (.lst avs)) (ra : RelL g (κ.hide D) H acc avs) :
    StoOk g (κ.more D) H (μ ++ [.lst acc]) ∧ Ext0 (κ.hide D) H (κ.more D) H ∧ Rel g (κ.more D) H (.cell μ.length) (.ref D) := by
  have xe : Ext0 (κ.hide D) H (κ.more D) H := {
    keep := fun _ _ h _ => h
    sep := fun a o ha n m => by
      rcases m with m | m
      · rcases List.mem_append.mp m with m | m
        · exact n (.inl m)
        · have : a = D := by simpa using m
          exact n (.inr (by rw [this]; show D ∈ D :: κ.gh; simp))
      · exact n (.inr (List.mem_cons_of_mem _ m))
    len := by show κ.cs.length ≤ (κ.cs ++ [some D]).length; simp
    old := fun i a hi e => by
      have e : (κ.cs ++ [some D])[i]? = some (some a) := e
      have hi : i < κ.cs.length := hi
      rwa [List.getElem?_append_left hi] at e }
  have sl : κ.cs.length = μ.length := s.len
  refine ⟨{ len := ?_, inj := ?_, at_ := ?_, gst := ?_, tbs := ?_ }, xe, ?_⟩
  · show (κ.cs ++ [some D]).length = _; simp [sl]
  · intro i j a hi hj
    have key : ∀ (i : Nat), (κ.cs ++ [some D])[i]? = some (some a) → (i < κ.cs.length ∧ κ.cs[i]? = some (some a)) ∨ (i = κ.cs.length ∧ a = D) := fun i hi => by
      by_cases hl : i < κ.cs.length
      · rw [List.getElem?_append_left hl] at hi; exact .inl ⟨hl, hi⟩
      · rw [List.getElem?_append_right (by omega)] at hi
        have : i - κ.cs.length = 0 := by
          have := (List.getElem?_eq_some_iff.mp hi).1
          simp at this; omega
        rw [this] at hi
        have e : D = a := by simpa using hi
        exact .inr ⟨by omega, e.symm⟩
    have nk : ∀ i : Nat, κ.cs[i]? = some (some D) → False := fun i hi => nD (.inl (List.mem_of_getElem? hi))
    rcases key i hi with ⟨h1, h2⟩ | ⟨h1, h2⟩ <;> rcases key j hj with ⟨h3, h4⟩ | ⟨h3, h4⟩
    · exact s.inj i j a h2 h4
    · rw [h4] at h2; exact (nk _ h2).elim
    · rw [h2] at h4; exact (nk _ h4).elim
    · omega
  · intro i c' hc'
    show ∃ a, (κ.cs ++ [some D])[i]? = some a ∧ _
    by_cases hl : i < μ.length
    · rw [List.getElem?_append_left hl] at hc'
      obtain ⟨a, h1, h2⟩ := s.at_ i c' hc'
      have h1 : κ.cs[i]? = some a := h1
      exact ⟨a, by rw [List.getElem?_append_left (by rw [sl]; exact hl)]; exact h1, h2.ext0 xe fun _ _ => rfl⟩
    · rw [List.getElem?_append_right (by omega)] at hc'
      have e0 : i - μ.length = 0 := by
        have := (List.getElem?_eq_some_iff.mp hc').1
        simp at this; omega
      rw [e0] at hc'
      have ec : CO.lst acc = c' := by simpa using hc'
      subst ec
      refine ⟨some D, ?_, D, avs, rfl, hD, ra.ext0 xe⟩
      rw [List.getElem?_append_right (by rw [sl]; omega), sl, e0]; rfl
  · intro a ha
    obtain ⟨h1, h2⟩ := s.gst a (List.mem_cons_of_mem _ ha)
    refine ⟨h1, fun m => ?_⟩
    rcases List.mem_append.mp m with m | m
    · exact h2 m
    · have : a = D := by simpa using m
      exact nD (.inr (this ▸ ha))
  · intro q hq
    obtain ⟨m, t⟩ := s.tbs q hq
    refine ⟨(List.mem_cons.mp m).resolve_left fun e => ?_, t.move rfl fun c z => xe.at z⟩
    obtain ⟨ps, h⟩ := t.tbl
    rw [e, hD] at h
    cases h
  · simp only [Rel]
    refine ⟨by show μ.length < (κ.cs ++ [some D]).length; simp [sl], fun a ha => ?_⟩
    have ha : (κ.cs ++ [some D])[μ.length]? = some (some a) := ha
    rw [← sl, List.getElem?_append_right (Nat.le_refl _)] at ha
    simp at ha
    rw [ha]
theorem lc_cell {fi : DI} {t : DG} {tt : DT} {te : DE} {vs sl : List Nat} {σ : L2.St} {H : Hp} {Q : VK} (hsl : ∀ i ∈ sl, i ∈ vs) (q : tE g W (eLcC fi t tt te vs) σ H Q) : tLc (tI g W fi) (tG g sl t) (tT g W0 tt) (tE g W0 te) vs σ H Q := by
  refine lc_read hsl (fun κ1 H1 κ H μ1 μ D acc avs s1 hD g2 x v s hD2 ra h => ?_) q
  have nD : ¬ κ.has D := fun m => m.elim (fun m => (s.gst D (by show D ∈ D :: κ.gh; simp)).2 m) fun m => by
    rw [g2] at m
    obtain ⟨⟨u, hu⟩, _⟩ := s1.gst D m
    rw [hD] at hu; cases hu
  obtain ⟨s3, x3, r3⟩ := unhide_cell s nD hD2 ra
  exact h (κ.more D) H ⟨x.trans x3, g2, v⟩ s3 _ r3
section
variable {elt tg iter : Expr} {ifs : List Expr} {scope : Scope} {own : List (Str × Nat)} {fi : DI} {t : DG} {tt : DT} {te : DE} {sl : List Nat} {N : List Str} {sc : Scope}
theorem ge_lc (hc : X.calm = true) (hN : X.N.Nodup) (hi : GI g W X tg iter fi) (eN : X.N = N) (eS : X.env.scope = sc) (ok : blkC N sc scope own = true)
    (hg : ∀ (s : Shared) (H : Hp) (C : Addr) (cl : List (Str × Addr)) (fp : List Addr), GG g (X.blk s H scope (compEnvC scope cl C X.env) fp) tg sl t)
    (ht : ∀ (s : Shared) (H : Hp) (C : Addr) (cl : List (Str × Addr)) (fp : List Addr), GTs g W0 (X.blk s H scope (compEnvC scope cl C X.env) fp) ifs tt)
    (he : ∀ (s : Shared) (H : Hp) (C : Addr) (cl : List (Str × Addr)) (fp : List Addr), GE g W0 (X.blk s H scope (compEnvC scope cl C X.env) fp) elt te)
    (hsl : sl.all (fun i => decide (i ∈ own.map (·.2))) = true := by rfl) (hs : ∀ x, foldedSetIterable iter X.env x = pure x := by intro _; rfl) :
    GE g W X (.ListComp elt [⟨tg, iter, ifs, 0⟩] scope pos) (eLc fi t tt te (own.map (·.2))) :=
  by
  subst eN eS
  exact PE.imp (pe_lc hc hN hi (blkOk_by ok) hg ht he hs) fun _ _ _ q => lc_frozen (fun i hi => of_decide_eq_true (List.all_eq_true.mp hsl i hi)) q
theorem ge_lcC (hc : X.calm = true) (hN : X.N.Nodup) (hi : GI g W X tg iter fi) (eN : X.N = N) (eS : X.env.scope = sc) (ok : blkC N sc scope own = true)
    (hg : ∀ (s : Shared) (H : Hp) (C : Addr) (cl : List (Str × Addr)) (fp : List Addr), GG g (X.blk s H scope (compEnvC scope cl C X.env) fp) tg sl t)
    (ht : ∀ (s : Shared) (H : Hp) (C : Addr) (cl : List (Str × Addr)) (fp : List Addr), GTs g W0 (X.blk s H scope (compEnvC scope cl C X.env) fp) ifs tt)
    (he : ∀ (s : Shared) (H : Hp) (C : Addr) (cl : List (Str × Addr)) (fp : List Addr), GE g W0 (X.blk s H scope (compEnvC scope cl C X.env) fp) elt te)
    (hsl : sl.all (fun i => decide (i ∈ own.map (·.2))) = true := by rfl) (hs : ∀ x, foldedSetIterable iter X.env x = pure x := by intro _; rfl) :
    GE g W X (.ListComp elt [⟨tg, iter, ifs, 0⟩] scope pos) (eLcC fi t tt te (own.map (·.2))) :=
  by
  subst eN eS
  exact PE.imp (pe_lc hc hN hi (blkOk_by ok) hg ht he hs) fun _ _ _ q => lc_cell (fun i hi => of_decide_eq_true (List.all_eq_true.mp hsl i hi)) q
/-- name = [..] on one line -/
theorem gs_setLc {i : Nat} {y : Str} {py spos : Pos} (hc : X.calm = true) (hN : X.N.Nodup) (hy : X.N[i]? = some y) (hyl : X.env.scope.names.lookup y = some .local)
    (hsw : swapsWith (.ListComp elt [⟨tg, iter, ifs, 0⟩] scope pos) (some (.Name y py)) spos.line X.env = pure true) (hi : GI g W X tg iter fi) (eN : X.N = N) (eS : X.env.scope = sc) (ok : blkC N sc scope own = true)
    (hg : ∀ (s : Shared) (H : Hp) (C : Addr) (cl : List (Str × Addr)) (fp : List Addr), GG g (X.blk s H scope (compEnvC scope cl C X.env) fp) tg sl t)
    (ht : ∀ (s : Shared) (H : Hp) (C : Addr) (cl : List (Str × Addr)) (fp : List Addr), GTs g W0 (X.blk s H scope (compEnvC scope cl C X.env) fp) ifs tt)
    (he : ∀ (s : Shared) (H : Hp) (C : Addr) (cl : List (Str × Addr)) (fp : List Addr), GE g W0 (X.blk s H scope (compEnvC scope cl C X.env) fp) elt te)
    (hsl : sl.all (fun i => decide (i ∈ own.map (·.2))) = true := by rfl) (hs : ∀ x, foldedSetIterable iter X.env x = pure x := by intro _; rfl) :
    GS g W X (.Assign [.Name y py] (.ListComp elt [⟨tg, iter, ifs, 0⟩] scope pos) spos) (sAsg (eLc fi t tt te (own.map (·.2))) (gN i)) := by
  subst eN eS
  refine PS.imp (ps_setLc hc hN hy hyl hsw hi (blkOk_by ok) hg ht he hs) fun D σ H q => ?_
  refine lc_frozen (fun i hi => of_decide_eq_true (List.all_eq_true.mp hsl i hi)) ?_
  obtain ⟨κ, ρ, μ, he, hs, hw⟩ := q
  refine ⟨κ, ρ, μ, he, hs, (wpS.bind he hw).mono fun d μ1 κ1 H1 e1 s1 h1 v rv => ?_⟩
  exact h1 κ1 H1 _ Ext.refl s1 ((he.ext e1).set rv)
theorem gs_setLcC {i : Nat} {y : Str} {py spos : Pos} (hc : X.calm = true) (hN : X.N.Nodup) (hy : X.N[i]? = some y) (hyl : X.env.scope.names.lookup y = some .local)
    (hsw : swapsWith (.ListComp elt [⟨tg, iter, ifs, 0⟩] scope pos) (some (.Name y py)) spos.line X.env = pure true) (hi : GI g W X tg iter fi) (eN : X.N = N) (eS : X.env.scope = sc) (ok : blkC N sc scope own = true)
    (hg : ∀ (s : Shared) (H : Hp) (C : Addr) (cl : List (Str × Addr)) (fp : List Addr), GG g (X.blk s H scope (compEnvC scope cl C X.env) fp) tg sl t)
    (ht : ∀ (s : Shared) (H : Hp) (C : Addr) (cl : List (Str × Addr)) (fp : List Addr), GTs g W0 (X.blk s H scope (compEnvC scope cl C X.env) fp) ifs tt)
    (he : ∀ (s : Shared) (H : Hp) (C : Addr) (cl : List (Str × Addr)) (fp : List Addr), GE g W0 (X.blk s H scope (compEnvC scope cl C X.env) fp) elt te)
    (hsl : sl.all (fun i => decide (i ∈ own.map (·.2))) = true := by rfl) (hs : ∀ x, foldedSetIterable iter X.env x = pure x := by intro _; rfl) :
    GS g W X (.Assign [.Name y py] (.ListComp elt [⟨tg, iter, ifs, 0⟩] scope pos) spos) (sAsg (eLcC fi t tt te (own.map (·.2))) (gN i)) := by
  subst eN eS
  refine PS.imp (ps_setLc hc hN hy hyl hsw hi (blkOk_by ok) hg ht he hs) fun D σ H q => ?_
  refine lc_cell (fun i hi => of_decide_eq_true (List.all_eq_true.mp hsl i hi)) ?_
  obtain ⟨κ, ρ, μ, he, hs, hw⟩ := q
  refine ⟨κ, ρ, μ, he, hs, (wpS.bind he hw).mono fun d μ1 κ1 H1 e1 s1 h1 v rv => ?_⟩
  exact h1 κ1 H1 _ Ext.refl s1 ((he.ext e1).set rv)
end
end
end SD

set_option Elab.async false
set_option linter.all false
set_option maxRecDepth 100000
set_option maxHeartbeats 4000000
/-! SD, fifth part: defs and calls. -/
namespace SD
open PySem PySem.Spec PyProof.Rows L2

abbrev Fn := List DV → Sto → R DV
/-- how a def's value is handed back: fz: frozen; cl: as a new cell -/
inductive Md where | fz | cl
def finF (n : Nat) (d : DV) (μ : Sto) : R DV :=
  if μ.length = n then .ok d μ else
    if (μ.take n).all (CO.low n) = true then
      match d with
      | .cell i => if i < n then .ok (.cell i) (μ.take n) else match μ[i]? with
        | some (.lst xs) => if lowL n xs = true then .ok (.lst xs) (μ.take n) else .stuck
        | some (.ins c ns xs) => if lowL n xs = true then .ok (.obj c ns xs) (μ.take n) else .stuck
        | _ => .stuck
      | d => if d.low n = true then .ok d (μ.take n) else .stuck
    else .stuck
def finC (n : Nat) (d : DV) (μ : Sto) : R DV :=
  if (μ.take n).all (CO.low n) = true then
    match d with
    | .cell i => if i < n then .stuck else match μ[i]? with
      | some (.lst xs) => if lowL n xs = true then .ok (.cell n) (μ.take n ++ [.lst xs]) else .stuck
      | _ => .stuck
    | _ => .stuck
  else .stuck
def fin (md : Md) (n : Nat) (d : DV) (μ : Sto) : R DV := match md with
  | .fz => finF n d μ
  | .cl => finC n d μ
def finX (n c : Nat) (ns : List Str) (xs : List DV) (μ : Sto) : R DV :=
  if μ.length = n then .ex c ns xs μ else
    if ((μ.take n).all (CO.low n) && lowL n xs) = true then .ex c ns xs (μ.take n) else .stuck
/-- a def: np parameters, n slots -/
def runF (md : Md) (np n : Nat) (body : DS) : Fn := fun ds μ => if ds.length = np then
    match body (ds.map some ++ List.replicate (n - ds.length) none) μ with
    | .nx _ μ' => fin md μ.length .non μ'
    | .rt d μ' => fin md μ.length d μ'
    | .ex c ns xs _ μ' => finX μ.length c ns xs μ'
    | _ => .stuck
  else .stuck

section
variable {g : Gc} {κ κ' : KA} {H H' : Hp} {μ μ' : Sto}
theorem all_low {n : Nat} (h : (μ'.take n).all (CO.low n) = true) : ∀ c ∈ μ'.take n, c.low n = true := fun c hc => List.all_eq_true.mp h c hc
theorem finF_ok {d d' : DV} {μ'' : Sto} {v : V} (s : StoOk g κ H μ) (e : Ext κ H κ' H') (s' : StoOk g κ' H' μ') (r : Rel g κ' H' d v) (h : finF μ.length d μ' = .ok d' μ'') :
    ∃ κ'', Ext κ H κ'' H' ∧ StoOk g κ'' H' μ'' ∧ Rel g κ'' H' d' v := by
  unfold finF at h
  by_cases hl : μ'.length = μ.length
  · rw [if_pos hl] at h; cases h; exact ⟨κ', e, s', r⟩
  rw [if_neg hl] at h
  by_cases ha : (μ'.take μ.length).all (CO.low μ.length) = true
  case neg => rw [if_neg ha] at h; cases h
  rw [if_pos ha] at h
  have hn : μ.length ≤ κ'.cs.length := by rw [← s.len]; exact e.len
  have ex : Ext κ H (κ'.cut μ.length) H' := by rw [← s.len]; exact e.cut
  have so : StoOk g (κ'.cut μ.length) H' (μ'.take μ.length) := s'.cut hn (all_low ha)
  have gen : d.low μ.length = true → (R.ok d (μ'.take μ.length) : R DV) = .ok d' μ'' → ∃ κ'', Ext κ H κ'' H' ∧ StoOk g κ'' H' μ'' ∧ Rel g κ'' H' d' v := fun hb h => by
    cases h; exact ⟨_, ex, so, r.cut hn hb⟩
  cases d with
  | cell i =>
    simp only at h
    by_cases hi : i < μ.length
    · rw [if_pos hi] at h
      exact gen (by simp [DV.low, hi]) h
    · rw [if_neg hi] at h
      simp only [Rel] at r
      cases ec : μ'[i]? with
      | none => rw [ec] at h; cases h
      | some co =>
        rw [ec] at h
        obtain ⟨a, h1, h2⟩ := s'.at_ i _ ec
        have apart : ∀ p, κ'.cs[i]? = some (some p) → ¬ (κ'.cut μ.length).has p := fun p hp m => by
          rcases m with m | m
          · obtain ⟨j, hj⟩ := List.getElem?_of_mem m
            have hj : (κ'.cs.take μ.length)[j]? = some (some p) := hj
            have hlj := (List.getElem?_eq_some_iff.mp hj).1
            rw [List.length_take] at hlj
            rw [List.getElem?_take_of_lt (by omega)] at hj
            have := s'.inj i j p hp hj
            omega
          · exact (s'.gst p m).2 (List.mem_of_getElem? hp)
        cases co with
        | dead => cases h
        | lst xs =>
          simp only at h
          by_cases hx : lowL μ.length xs = true
          · rw [if_pos hx] at h
            cases h
            obtain ⟨p, vs, rfl, h3, h4⟩ := h2
            refine ⟨_, ex, so, ?_⟩
            simp only [Rel]
            exact ⟨p, vs, r.2 p h1, ⟨h3, apart p h1⟩, h4.cut hn hx⟩
          · rw [if_neg hx] at h; cases h
        | ins c ns xs =>
          simp only at h
          by_cases hx : lowL μ.length xs = true
          · rw [if_pos hx] at h
            cases h
            obtain ⟨p, dx, vs, rfl, h3, hl, h4⟩ := h2
            refine ⟨_, ex, so, ?_⟩
            simp only [Rel]
            exact ⟨p, dx, vs, r.2 p h1, ⟨h3, apart p h1⟩, hl, h4.cut hn hx⟩
          · rw [if_neg hx] at h; cases h
  | non => simp only at h; split at h; exact gen (by assumption) h; cases h
  | bl b => simp only at h; split at h; exact gen (by assumption) h; cases h
  | int i => simp only at h; split at h; exact gen (by assumption) h; cases h
  | str x => simp only at h; split at h; exact gen (by assumption) h; cases h
  | ty x => simp only at h; split at h; exact gen (by assumption) h; cases h
  | gl x => simp only at h; split at h; exact gen (by assumption) h; cases h
  | tup x => simp only at h; split at h; exact gen (by assumption) h; cases h
  | lst x => simp only at h; split at h; exact gen (by assumption) h; cases h
  | scr x => simp only at h; split at h; exact gen (by assumption) h; cases h
  | dct k x => simp only at h; split at h; exact gen (by assumption) h; cases h
  | obj c k x => simp only at h; split at h; exact gen (by assumption) h; cases h
  | exn c k x => simp only at h; split at h; exact gen (by assumption) h; cases h
theorem finC_ok {d d' : DV} {μ'' : Sto} {v : V} (s : StoOk g κ H μ) (e : Ext κ H κ' H') (s' : StoOk g κ' H' μ') (r : Rel g κ' H' d v) (h : finC μ.length d μ' = .ok d' μ'') :
    ∃ κ'', Ext κ H κ'' H' ∧ StoOk g κ'' H' μ'' ∧ Rel g κ'' H' d' v := by
  unfold finC at h
  by_cases ha : (μ'.take μ.length).all (CO.low μ.length) = true
  case neg => rw [if_neg ha] at h; cases h
  rw [if_pos ha] at h
  have hn : μ.length ≤ κ'.cs.length := by rw [← s.len]; exact e.len
  have ex : Ext κ H (κ'.cut μ.length) H' := by rw [← s.len]; exact e.cut
  have so : StoOk g (κ'.cut μ.length) H' (μ'.take μ.length) := s'.cut hn (all_low ha)
  cases d with
  | cell i =>
    simp only at h
    by_cases hi : i < μ.length
    · rw [if_pos hi] at h; cases h
    · rw [if_neg hi] at h
      simp only [Rel] at r
      cases ec : μ'[i]? with
      | none => rw [ec] at h; cases h
      | some co =>
        rw [ec] at h
        obtain ⟨a, h1, h2⟩ := s'.at_ i _ ec
        cases co with
        | lst xs =>
          simp only at h
          by_cases hx : lowL μ.length xs = true
          · rw [if_pos hx] at h
            cases h
            obtain ⟨p, vs, rfl, h3, h4⟩ := h2
            have apart : ¬ (κ'.cut μ.length).has p := fun m => by
              rcases m with m | m
              · obtain ⟨j, hj⟩ := List.getElem?_of_mem m
                have hj : (κ'.cs.take μ.length)[j]? = some (some p) := hj
                have hlj := (List.getElem?_eq_some_iff.mp hj).1
                rw [List.length_take] at hlj
                rw [List.getElem?_take_of_lt (by omega)] at hj
                have := s'.inj i j p h1 hj
                omega
              · exact (s'.gst p m).2 (List.mem_of_getElem? h1)
            have len : (κ'.cut μ.length).cs.length = μ.length := by show (κ'.cs.take μ.length).length = _; rw [List.length_take]; omega
            -- the hidden way: p is hidden first, then known as a cell
            have xe : Ext0 (κ'.cut μ.length) H' ((κ'.cut μ.length).hide p) H' → True := fun _ => trivial
            have hHp : ∀ q ∈ (κ'.cut μ.length).gh, q ≠ p := fun q hq e => apart (.inr (e ▸ hq))
            have rel : RelL g (κ'.cut μ.length) H' xs vs := h4.cut hn hx
            -- what stands in κ' stands apart from p as well, for p is a cell there
            have x1 : Ext0 κ' H' ((κ'.cut μ.length).more p) H' → True := fun _ => trivial
            have sep : ∀ a o, H' a = some o → ¬ κ'.has a → ¬ ((κ'.cut μ.length).more p).has a := fun a o ha n m => by
              rcases m with m | m
              · rcases List.mem_append.mp m with m | m
                · exact n (.inl (List.mem_of_mem_take m))
                · have : a = p := by simpa using m
                  exact n (.inl (by rw [this]; exact List.mem_of_getElem? h1))
              · exact n (.inr m)
            have relM : ∀ {xs : List DV} {vs : List V}, RelL g κ' H' xs vs → lowL μ.length xs = true → RelL g ((κ'.cut μ.length).more p) H' xs vs := by
              -- by a detour: cells below the bound keep their places
              have y : Ext0 (KA.mk (κ'.cs.take μ.length ++ κ'.cs.drop μ.length) κ'.gh) H' ((κ'.cut μ.length).more p) H' → True := fun _ => trivial
              have both : (∀ (d : DV) (v : V), Rel g κ' H' d v → d.low μ.length = true → Rel g ((κ'.cut μ.length).more p) H' d v) ∧ (∀ (xs : List DV) (vs : List V), RelL g κ' H' xs vs → lowL μ.length xs = true → RelL g ((κ'.cut μ.length).more p) H' xs vs) := by
                have at' : ∀ {a o}, At κ' H' a o → At ((κ'.cut μ.length).more p) H' a o := fun {a o} h => ⟨h.1, sep a o h.1 h.2⟩
                have fl : ∀ {a vs}, FrL g κ' H' a vs → FrL g ((κ'.cut μ.length).more p) H' a vs := fun {a vs} h => by
                  rcases h with h | ⟨ob, h⟩ | h
                  · exact .inl (at' h)
                  · exact .inr (.inl ⟨ob, at' h⟩)
                  · exact .inr (.inr h)
                have ft : ∀ {a vs}, FrT g κ' H' a vs → FrT g ((κ'.cut μ.length).more p) H' a vs := fun {a vs} h => by
                  rcases h with ⟨ob, d, h⟩ | h
                  · exact .inl ⟨ob, d, at' h⟩
                  · exact .inr h
                suffices hh : ∀ n : Nat, (∀ (d : DV) (v : V), sizeOf d < n → Rel g κ' H' d v → d.low μ.length = true → Rel g ((κ'.cut μ.length).more p) H' d v) ∧ (∀ (xs : List DV) (vs : List V), sizeOf xs < n → RelL g κ' H' xs vs → lowL μ.length xs = true → RelL g ((κ'.cut μ.length).more p) H' xs vs) from
                  ⟨fun d v => (hh (sizeOf d + 1)).1 d v (Nat.lt_succ_self _), fun xs vs => (hh (sizeOf xs + 1)).2 xs vs (Nat.lt_succ_self _)⟩
                intro n
                induction n with
                | zero => exact ⟨fun _ _ h => absurd h (Nat.not_lt_zero _), fun _ _ h => absurd h (Nat.not_lt_zero _)⟩
                | succ n ih =>
                  refine ⟨fun d v hs r b => ?_, fun xs vs hs r b => ?_⟩
                  · cases d with
                    | tup xs =>
                      simp only [Rel] at r ⊢; simp only [DV.low] at b
                      obtain ⟨a, vs, h1, h2, h3⟩ := r
                      exact ⟨a, vs, h1, ft h2, ih.2 xs vs (by simp at hs; omega) h3 b⟩
                    | lst xs =>
                      simp only [Rel] at r ⊢; simp only [DV.low] at b
                      obtain ⟨a, vs, h1, h2, h3⟩ := r
                      exact ⟨a, vs, h1, at' h2, ih.2 xs vs (by simp at hs; omega) h3 b⟩
                    | scr xs =>
                      simp only [Rel] at r ⊢; simp only [DV.low] at b
                      obtain ⟨a, vs, h1, h2, h3⟩ := r
                      exact ⟨a, vs, h1, fl h2, ih.2 xs vs (by simp at hs; omega) h3 b⟩
                    | dct ks xs =>
                      simp only [Rel] at r ⊢; simp only [DV.low] at b
                      obtain ⟨a, vs, h1, h2, hl, h3⟩ := r
                      exact ⟨a, vs, h1, at' h2, hl, ih.2 xs vs (by simp at hs; omega) h3 b⟩
                    | obj c ns xs =>
                      simp only [Rel] at r ⊢; simp only [DV.low] at b
                      obtain ⟨a, dx, vs, h1, h2, hl, h3⟩ := r
                      exact ⟨a, dx, vs, h1, at' h2, hl, ih.2 xs vs (by simp at hs; omega) h3 b⟩
                    | exn c ns xs =>
                      simp only [Rel] at r ⊢; simp only [DV.low] at b
                      obtain ⟨a, d, vs, h0, h1, h2, hl, h3⟩ := r
                      exact ⟨a, d, vs, h0, h1, at' h2, hl, ih.2 xs vs (by simp at hs; omega) h3 b⟩
                    | cell i =>
                      simp only [Rel] at r ⊢; simp only [DV.low, decide_eq_true_eq] at b
                      refine ⟨by show i < (κ'.cs.take μ.length ++ [some p]).length; simp; omega, fun a ha => r.2 a ?_⟩
                      have ha : (κ'.cs.take μ.length ++ [some p])[i]? = some (some a) := ha
                      rw [List.getElem?_append_left (by rw [List.length_take]; omega), List.getElem?_take_of_lt b] at ha
                      exact ha
                    | _ => simp only [Rel] at r ⊢; exact r
                  · cases xs with
                    | nil => simp only [RelL] at r ⊢; exact r
                    | cons x xs =>
                      simp only [lowL, Bool.and_eq_true] at b
                      obtain ⟨v, r', rfl, q1, q2⟩ := r.of_cons
                      exact RelL.cons (ih.1 x v (by simp at hs; omega) q1 b.1) (ih.2 xs r' (by simp at hs; omega) q2 b.2)
              exact fun {xs vs} => both.2 xs vs
            refine ⟨(κ'.cut μ.length).more p, ⟨⟨ex.keep, fun a o ha n => ?_, ?_, fun j a hj ha => ?_⟩, ex.ghs, ex.ghv⟩, ⟨?_, ?_, ?_, ?_, ?_⟩, ?_⟩
            · exact sep a o (e.keep a o ha n) (e.sep a o ha n)
            · show κ.cs.length ≤ (κ'.cs.take μ.length ++ [some p]).length
              have := s.len; simp; omega
            · have ha : (κ'.cs.take μ.length ++ [some p])[j]? = some (some a) := ha
              have hjl : j < μ.length := by rw [← s.len]; exact hj
              rw [List.getElem?_append_left (by rw [List.length_take]; omega), List.getElem?_take_of_lt hjl] at ha
              exact e.old j a hj ha
            · show (κ'.cs.take μ.length ++ [some p]).length = _
              have h1' := s'.len
              simp; omega
            · intro j k a hj hk
              have key : ∀ (i : Nat), (κ'.cs.take μ.length ++ [some p])[i]? = some (some a) → (i < μ.length ∧ κ'.cs[i]? = some (some a)) ∨ (i = μ.length ∧ a = p) := fun i hi => by
                have lt : (κ'.cs.take μ.length).length = μ.length := by rw [List.length_take]; omega
                by_cases hl : i < μ.length
                · rw [List.getElem?_append_left (by omega), List.getElem?_take_of_lt hl] at hi; exact .inl ⟨hl, hi⟩
                · rw [List.getElem?_append_right (by omega), lt] at hi
                  have : i - μ.length = 0 := by
                    have := (List.getElem?_eq_some_iff.mp hi).1
                    simp at this; omega
                  rw [this] at hi
                  have e : p = a := by simpa using hi
                  exact .inr ⟨by omega, e.symm⟩
              rcases key j hj with ⟨a1, a2⟩ | ⟨a1, a2⟩ <;> rcases key k hk with ⟨a3, a4⟩ | ⟨a3, a4⟩
              · exact s'.inj j k a a2 a4
              · rw [a4] at a2; have := s'.inj i j p h1 a2; omega
              · rw [a2] at a4; have := s'.inj i k p h1 a4; omega
              · omega
            · intro j c hc
              show ∃ a, (κ'.cs.take μ.length ++ [some p])[j]? = some a ∧ _
              have lt : (μ'.take μ.length).length = μ.length := by have := s'.len; rw [List.length_take]; omega
              have ltk : (κ'.cs.take μ.length).length = μ.length := by rw [List.length_take]; omega
              by_cases hl : j < μ.length
              · rw [List.getElem?_append_left (by omega)] at hc
                have hm := List.mem_of_getElem? hc
                rw [List.getElem?_take_of_lt hl] at hc
                obtain ⟨a, a1, a2⟩ := s'.at_ j c hc
                refine ⟨a, by rw [List.getElem?_append_left (by omega), List.getElem?_take_of_lt hl]; exact a1, ?_⟩
                have b := all_low ha c hm
                cases c with
                | dead => exact a2
                | lst xs =>
                  obtain ⟨p', vs', rfl, h5, h6⟩ := a2
                  exact ⟨p', vs', rfl, h5, relM h6 b⟩
                | ins c ns xs =>
                  obtain ⟨p', dx, vs', rfl, h5, hl, h6⟩ := a2
                  exact ⟨p', dx, vs', rfl, h5, hl, relM h6 b⟩
              · rw [List.getElem?_append_right (by omega), lt] at hc
                have e0 : j - μ.length = 0 := by
                  have := (List.getElem?_eq_some_iff.mp hc).1
                  simp at this; omega
                rw [e0] at hc
                have ec : CO.lst xs = c := by simpa using hc
                subst ec
                refine ⟨some p, by rw [List.getElem?_append_right (by omega), ltk, e0]; rfl, p, vs, rfl, h3, relM h4 hx⟩
            · intro a ha
              obtain ⟨b1, b2⟩ := s'.gst a ha
              refine ⟨b1, fun m => ?_⟩
              rcases List.mem_append.mp m with m | m
              · exact b2 (List.mem_of_mem_take m)
              · have : a = p := by simpa using m
                exact hHp a ha this
            · intro q hq
              obtain ⟨m, t⟩ := s'.tbs q hq
              exact ⟨m, t.move rfl fun c z => ⟨z.1, sep _ _ z.1 z.2⟩⟩
            · simp only [Rel]
              refine ⟨by show μ.length < (κ'.cs.take μ.length ++ [some p]).length; simp; omega, fun a ha => ?_⟩
              have ha : (κ'.cs.take μ.length ++ [some p])[μ.length]? = some (some a) := ha
              have ltk : (κ'.cs.take μ.length).length = μ.length := by rw [List.length_take]; omega
              rw [List.getElem?_append_right (by omega), ltk] at ha
              simp at ha
              rw [← ha]; exact r.2 p h1
          · rw [if_neg hx] at h; cases h
        | dead => cases h
        | ins c ns xs => cases h
  | _ => cases h
theorem fin_ok {md : Md} {d d' : DV} {μ'' : Sto} {v : V} (s : StoOk g κ H μ) (e : Ext κ H κ' H') (s' : StoOk g κ' H' μ') (r : Rel g κ' H' d v) (h : fin md μ.length d μ' = .ok d' μ'') :
    ∃ κ'', Ext κ H κ'' H' ∧ StoOk g κ'' H' μ'' ∧ Rel g κ'' H' d' v := by
  cases md with
  | fz => exact finF_ok s e s' r h
  | cl => exact finC_ok s e s' r h
theorem finF_no {n c : Nat} {ns : List Str} {xs : List DV} {d : DV} {μ'' : Sto} : finF n d μ' ≠ .ex c ns xs μ'' := by
  unfold finF
  intro h
  (repeat' split at h) <;> cases h
theorem finC_no {n c : Nat} {ns : List Str} {xs : List DV} {d : DV} {μ'' : Sto} : finC n d μ' ≠ .ex c ns xs μ'' := by
  unfold finC
  intro h
  (repeat' split at h) <;> cases h
end

/-! ### promises -/
abbrev WF (E : XK) : WX := fun c d _ H => E c d H
def spF (g : Gc) (F : Fn) (np : Nat) : Sp := fun vs H Q E => vs.length = np ∧ ∃ κ ds μ, RelL g κ H ds vs ∧ StoOk g κ H μ ∧ wpR g (WF E) [] κ H (F ds μ) (fun d _ κ' H' => ∀ v, Rel g κ' H' d v → Q v H')
theorem wpR.slot {α : Type} {g : Gc} {E : XK} {W : WX} {σ τ : L2.St} {κ : KA} {H : Hp} {r : R α} {Φ : α → Sto → KA → Hp → Prop} (hW : ∀ c d H, W c d σ H → E c d H) (h : wpR g W σ κ H r Φ) : wpR g (WF E) τ κ H r Φ := by
  cases r with
  | ok a μ => exact h
  | ex c ns xs μ => intro κ' H' e s d vs h1 h2 h3; exact hW _ _ _ (h κ' H' e s d vs h1 h2 h3)
  | stuck => exact h
section
variable {P : Program} {w : World} {g : Gc} {mg : Str → Option Value} {base : Heap}
theorem start_rel {κ : KA} {H : Hp} {N : List Str} {ds : List DV} {vs : List V} (r : RelL g κ H ds vs) : RelE g κ H (ds.map some ++ List.replicate (N.length - ds.length) none) (L2.start N vs) := by
  refine ⟨by unfold L2.start; simp [r.length], fun i d hd => ?_⟩
  unfold L2.start
  by_cases hi : i < ds.length
  · rw [List.getElem?_append_left (by simpa using hi), List.getElem?_map] at hd
    cases e : ds[i]? with
    | none => rw [e] at hd; cases hd
    | some d' =>
      rw [e] at hd; cases hd
      obtain ⟨v, h1, h2⟩ := r.get e
      exact ⟨v, by rw [List.getElem?_append_left (by have := r.length; simp; omega), List.getElem?_map, h1]; rfl, h2⟩
  · rw [List.getElem?_append_right (by simpa using hi), List.getElem?_replicate] at hd
    split at hd <;> cases hd
/-- a def by its body -/
theorem gf_ok {x qual : Str} {params : Arguments} {body : List Stmt} {scope : Scope} {dvs : List V} {kws : List (Str × V)} {f : Addr} {fd : FuncData} {N ps : List Str} {k : Nat} {md : Md} {fb : DS}
    (F : FunD g.K x qual params body scope dvs kws f fd) (S : FnScope N ps scope)
    (hb : ∀ (cdv : Value) (A : Around) (outer : List Env) (s : Shared) (H : Hp) (E : XK), Room k (A.deeper (envOfC qual scope s.heap.objs.size f cdv)) → GSs g (WF E) (cxOf (L2.CX P w) P w g.K mg base N qual scope f cdv A outer s H E) body fb) :
    FnOk P w g.K mg base (L2.CX P w) (k + 1) f fd ps (spF g (runF md ps.length N.length fb) ps.length) := by
  refine F.ok S (fun vs H Q E h => h.1) (fun cdv A outer s H vs Q E hr h => ⟨_, hb cdv A outer s H E hr, ?_⟩)
  obtain ⟨hl, κ, ds, μ, r, so, h⟩ := h
  have hd : ds.length = ps.length := by rw [r.length]; exact hl
  unfold runF at h
  rw [if_pos hd] at h
  refine ⟨κ, _, μ, start_rel r, so, ?_⟩
  generalize fb (ds.map some ++ List.replicate (N.length - ds.length) none) μ = out at h
  have fin' : ∀ {d : DV} {v : V} {κ' : KA} {H' : Hp} {μ' : Sto}, Ext κ H κ' H' → StoOk g κ' H' μ' → Rel g κ' H' d v → wpR g (WF E) [] κ H (fin md μ.length d μ') (fun d _ κ' H' => ∀ v, Rel g κ' H' d v → Q v H') → Q v H' := fun {d v κ' H' μ'} e s' rv h => by
    cases ef : fin md μ.length d μ' with
    | ok d' μ'' =>
      rw [ef] at h
      obtain ⟨κ'', e2, s2, r2⟩ := fin_ok so e s' rv ef
      exact h κ'' H' e2 s2 v r2
    | ex c ns xs μ'' => cases md with
      | fz => exact (finF_no ef).elim
      | cl => exact (finC_no ef).elim
    | stuck => rw [ef] at h; exact h.elim
  cases out with
  | nx ρ' μ' => intro κ' H' σ' e s' _; exact fin' e s' (by simp [Rel]) h
  | rt d μ' => intro κ' H' v e s' rv; exact fin' e s' rv h
  | bk ρ' μ' => exact h.elim
  | ct ρ' μ' => exact h.elim
  | ex c ns xs ρ' μ' =>
    intro κ' H' σ' e s' _ d vs' h1 h2 h3
    simp only at h
    unfold finX at h
    by_cases hl : μ'.length = μ.length
    · rw [if_pos hl] at h; exact h κ' H' e s' d vs' h1 h2 h3
    · rw [if_neg hl] at h
      by_cases hc : ((μ'.take μ.length).all (CO.low μ.length) && lowL μ.length xs) = true
      · rw [if_pos hc] at h
        simp only [Bool.and_eq_true] at hc
        have hn : μ.length ≤ κ'.cs.length := by rw [← so.len]; exact e.len
        exact h _ H' (by rw [← so.len]; exact e.cut) (s'.cut hn (all_low hc.1)) d vs' h1.cut h2 (h3.cut hn hc.2)
      · rw [if_neg hc] at h; exact h.elim
  | stuck => exact h.elim
/-- what never ends well keeps every promise -/
theorem fnOk_stuck {f : Addr} {fd : FuncData} {ps : List Str} {k : Nat} : FnOk P w g.K mg base (L2.CX P w) k f fd ps (spF g (fun _ _ => .stuck) ps.length) :=
  ⟨fun vs H Q E h => h.1, fun A outer s H args us vs Q E _ _ _ _ h => by obtain ⟨_, _, _, _, _, _, h⟩ := h; exact h.elim⟩

/-- a def as callers see it -/
structure FnG (P : Program) (w : World) (g : Gc) (mg : Str → Option Value) (base : Heap) (k : Nat) (x : Str) (st : Stmt) (ps : List Str) (dvs : List V) (F : Fn) : Prop where
  ex : ∃ (f : Addr) (fd : FuncData), mg x = some (.ref f) ∧ FunD g.K x x (defArgs st) (defBody st) (defScope st) dvs [] f fd ∧ FnOk P w g.K mg base (L2.CX P w) k f fd ps (spF g F ps.length)
theorem FnG.mono {k j : Nat} {x : Str} {st : Stmt} {ps : List Str} {dvs : List V} {F : Fn} (G : FnG P w g mg base k x st ps dvs F) (h : k ≤ j) : FnG P w g mg base j x st ps dvs F := by
  obtain ⟨f, fd, h1, h2, h3⟩ := G.ex
  exact ⟨f, fd, h1, h2, h3.mono h⟩
end

/-! ### calls -/
section
variable {g : Gc} {W : WX} {X : Cx} {e : Expr} {es : List Expr} {fr fk : DA} {pos p : Pos} {x : Str} {k : Nat} {st : Stmt} {ps : List Str} {dvs : List V} {F : Fn}
/-- f(..), dds: the defaults that fill up -/
def eCall (F : Fn) (r : DA) : DE := fun ρ μ => (r ρ μ).bind fun xs μ1 => F xs μ1
def eCallD (F : Fn) (dds : List DV) (r : DA) : DE := fun ρ μ => (r ρ μ).bind fun xs μ1 => F (xs ++ dds) μ1
/-- only calls with the right number of arguments end well -/
def Ar (F : Fn) (np : Nat) : Prop := ∀ ds μ, ds.length ≠ np → F ds μ = .stuck
theorem ar_run {md : Md} {np n : Nat} {b : DS} : Ar (runF md np n b) np := fun ds μ h => by unfold runF; rw [if_neg h]
theorem sp_read {σ : L2.St} {κ : KA} {H : Hp} {ds : List DV} {vs : List V} {μ : Sto} {Q : VK} {np : Nat} (ar : Ar F np) (r : RelL g κ H ds vs) (s : StoOk g κ H μ) (h : wpR g W σ κ H (F ds μ) (fun d _ κ' H' => ∀ v, Rel g κ' H' d v → Q v H')) : spF g F np vs H Q (WE W σ) := by
  refine ⟨?_, κ, ds, μ, r, s, h.slot fun _ _ _ q => q⟩
  by_cases hn : ds.length = np
  · rw [← r.length]; exact hn
  · rw [ar ds μ hn] at h; exact h.elim
theorem ge_call (G : FnG X.prog X.w g X.mg X.base k x st ps dvs F) (xg : X.K = g.K) (ar : Ar F ps.length) (hr : Room k X.A) (hg : Gl X x) (tk : Takes X W) (ha : GA g W X (e :: es) fr) (hd : dvs = [])
    (hb : ∀ (kV doc pm : Value) (an : Option Addr) (cdv ct : Value) (us : List Value), us.length = ps.length → bindArgs (PySem.W.fnOf x x (defArgs st) (defBody st) (defScope st) .none kV doc pm an cdv ct) ⟨us, []⟩ = pure (ps.zip us))
    (hdb : (x == ("__debug__" : Str)) = false := by decide) (he : starEach (e :: es) X.env = (false, eval e X.env) :: starEach es X.env := by rfl) (hpl : (backTo pos (starEach es X.env)).any (·.1) = false := by rfl) :
    GE g W X (.Call (.Name x p) (e :: es) [] pos) (eCall F fr) := by
  obtain ⟨K, cls, T, ex⟩ := g
  obtain rfl : X.K = K := xg
  subst hd
  obtain ⟨f, fd, h1, h2, h3⟩ := G.ex
  have bn : Binds X.K fd ps [] := h2.bindsN hb
  refine PE.imp (pe_callSD (E := fun σ => WE W σ) h3 hr hg h1 h2.kp bn .nil (fun σ => passAt tk σ) ha hdb he hpl) fun σ H Q q => ?_
  obtain ⟨κ, ρ, μ, he, hs, hw⟩ := q
  refine ⟨κ, ρ, μ, he, hs, hw.bind.mono fun xs μ1 κ1 H1 e1 s1 hh vs rv => ?_⟩
  show spF _ F ps.length (vs ++ []) H1 Q (WE W σ)
  rw [List.append_nil]
  exact sp_read ar rv s1 hh
/-- f() -/
theorem ge_call0 (G : FnG X.prog X.w g X.mg X.base k x st [] dvs F) (xg : X.K = g.K) (ar : Ar F 0) (hr : Room k X.A) (hg : Gl X x) (tk : Takes X W) (hd : dvs = [])
    (hb : ∀ (kV doc pm : Value) (an : Option Addr) (cdv ct : Value) (us : List Value), us.length = 0 → bindArgs (PySem.W.fnOf x x (defArgs st) (defBody st) (defScope st) .none kV doc pm an cdv ct) ⟨us, []⟩ = pure (([] : List Str).zip us))
    (hdb : (x == ("__debug__" : Str)) = false := by decide) : GE g W X (.Call (.Name x p) [] [] pos) (eCall F aNil) := by
  obtain ⟨K, cls, T, ex⟩ := g
  obtain rfl : X.K = K := xg
  subst hd
  obtain ⟨f, fd, h1, h2, h3⟩ := G.ex
  have bn : Binds X.K fd [] [] := h2.bindsN hb
  refine ⟨fun pins s σ H Q I h => ?_⟩
  obtain ⟨κ, ρ, μ, he, hs, hw⟩ := h
  refine wpAny_Call_Name_kw (ld_glob I hg h1 ?_ hdb)
  refine PySem.W.callWith_K0 I.kIn h2.kp (run_fnSD (E := fun σ => WE W σ) (us := []) (vs := []) (dvs := []) (ds := []) h3 hr bn .nil (passAt tk σ) I .nil ?_)
  exact sp_read ar RelL.nil hs hw
/-- some of the defaults fill up -/
theorem ge_callD {dds : List DV} {n j : Nat} (G : FnG X.prog X.w g X.mg X.base k x st ps dvs F) (xg : X.K = g.K) (ar : Ar F ps.length) (hr : Room k X.A) (hg : Gl X x) (tk : Takes X W) (ha : GA g W X (e :: es) fr) (hd : dvs ≠ [])
    (hn : n + (dvs.length - j) = ps.length) (hdd : ∀ κ H, RelL g κ H dds (dvs.drop j))
    (hb : ∀ (T : Addr) (kV doc pm : Value) (an : Option Addr) (cdv ct : Value) (us its : List Value), us.length = n → its.length = dvs.length →
      ∃ k, bindArgs (PySem.W.fnOf x x (defArgs st) (defBody st) (defScope st) (.ref T) kV doc pm an cdv ct) ⟨us, []⟩ = seqItems? (.ref T) >>= k ∧ k (some its.toArray) = pure (ps.zip (us ++ its.drop j)))
    (hdb : (x == ("__debug__" : Str)) = false := by decide) (he : starEach (e :: es) X.env = (false, eval e X.env) :: starEach es X.env := by rfl) (hpl : (backTo pos (starEach es X.env)).any (·.1) = false := by rfl) :
    GE g W X (.Call (.Name x p) (e :: es) [] pos) (eCallD F dds fr) := by
  obtain ⟨K, cls, T, ex⟩ := g
  obtain rfl : X.K = K := xg
  obtain ⟨f, fd, h1, h2, h3⟩ := G.ex
  obtain ⟨ds, rd, bn⟩ := h2.binds1 n j hd hn hb
  refine PE.imp (pe_callSD (E := fun σ => WE W σ) h3 hr hg h1 h2.kp bn rd (fun σ => passAt tk σ) ha hdb he hpl) fun σ H Q q => ?_
  obtain ⟨κ, ρ, μ, he, hs, hw⟩ := q
  refine ⟨κ, ρ, μ, he, hs, hw.bind.mono fun xs μ1 κ1 H1 e1 s1 hh vs rv => ?_⟩
  show spF _ F ps.length (vs ++ dvs.drop j) H1 Q (WE W σ)
  exact sp_read ar (rv.append (hdd κ1 H1)) s1 hh
/-- keywords -/
abbrev GK (g : Gc) (W : WX) (X : Cx) (kws : List Keyword) (f : DA) : Prop := PK X kws (tA g W f)
theorem PK.imp {X : Cx} {es : List Keyword} {t u : TA} (h : PK X es t) (f : ∀ σ H Q, u σ H Q → t σ H Q) : PK X es u := ⟨fun pos pins s σ H Q I q => h.run pos pins s σ H Q I (f _ _ _ q)⟩
theorem gk_nil : GK g W X [] aNil := PK.imp pk_nil fun σ H Q q => by
  obtain ⟨κ, ρ, μ, he, hs, hw⟩ := q
  exact hw κ H Ext.refl hs [] RelL.nil
theorem gk_cons {fa : DE} {kws : List Keyword} {nm : Option Str} {kpos : Pos} (ha : GE g W X e fa) (hr : GK g W X kws fr) : GK g W X (⟨nm, e, kpos⟩ :: kws) (aCons fa fr) := by
  refine PK.imp (pk_cons ha hr) fun σ H Q q => ?_
  obtain ⟨κ, ρ, μ, he, hs, hw⟩ := q
  refine ⟨κ, ρ, μ, he, hs, hw.bind.mono fun x μ1 κ1 H1 e1 s1 h1 v rv => ?_⟩
  refine ⟨κ1, ρ, μ1, he.ext e1, s1, h1.bind.mono fun xs μ2 κ2 H2 e2 s2 h2 vs rvs => ?_⟩
  exact h2 κ2 H2 Ext.refl s2 (v :: vs) (RelL.cons (rv.ext e2) rvs)
/-- values in the parameters' order -/
def permL {α : Type} (ix : List Nat) (l : List α) : List α := ix.filterMap fun i => l[i]?
theorem permL_vals {ix : List Nat} {vs : List V} {us : List Value} (r : Vals vs us) : Vals (permL ix vs) (permL ix us) := by
  induction ix with
  | nil => exact .nil
  | cons i ix ih =>
    unfold permL at ih ⊢
    simp only [List.filterMap_cons]
    cases e : vs[i]? with
    | none => rw [r.none_of e]; exact ih
    | some v =>
      obtain ⟨u, h1, h2⟩ := r.get e
      rw [h1]; exact .cons h2 ih
theorem permL_rel {ix : List Nat} {κ : KA} {H : Hp} {ds : List DV} {vs : List V} (r : RelL g κ H ds vs) : RelL g κ H (permL ix ds) (permL ix vs) := by
  induction ix with
  | nil => exact RelL.nil
  | cons i ix ih =>
    unfold permL at ih ⊢
    simp only [List.filterMap_cons]
    cases e : ds[i]? with
    | none =>
      have : vs[i]? = none := by
        have h1 := List.getElem?_eq_none_iff.mp e
        exact List.getElem?_eq_none_iff.mpr (by rw [← r.length]; exact h1)
      rw [this]; exact ih
    | some d =>
      obtain ⟨v, h1, h2⟩ := r.get e
      rw [h1]; exact RelL.cons h2 ih
def eCallK (F : Fn) (ix : List Nat) (n m : Nat) (r k : DA) : DE := fun ρ μ => (r ρ μ).bind fun xs μ1 => (k ρ μ1).bind fun ys μ2 => if xs.length = n ∧ ys.length = m then F (permL ix (xs ++ ys)) μ2 else .stuck
theorem callN0 {CX : CXT} {fd : FuncData} {f : Addr} {ks : List Str} {sp : Sp} {E : L2.St → XK} {gg : List Value → List Value → List Value} {gV : List V → List V → List V} {kws : List Keyword} {t tk : TA} {n : Nat} (F : FnOk X.prog X.w X.K X.mg X.base CX k f fd ps sp) (hr : Room k X.A) (hg : Gl X x) (hm : X.mg x = some (.ref f)) (hk : PySem.W.keepIn X.K (.ref f) = true) (hb : KBn X.K fd ps n ks gg gV) (hx : ∀ σ, PassesAt CX X σ (E σ)) (hn : n = 0)
    (hkw : PK X kws tk) (hall : (backToKw pos (keywordEach kws X.env)).all (·.1.isSome) = true) (hks : (backToKw pos (keywordEach kws X.env)).filterMap (·.1) = ks)
    (hdb : (x == ("__debug__" : Str)) = false) (hpl : ((backTo pos (starEach [] X.env)).any (·.1) || (backToKw pos (keywordEach kws X.env)).any (·.1.isNone)) = false) :
    PE X (.Call (.Name x p) [] kws pos) (fun σ H Q => tk σ H fun zs H2 => zs.length = ks.length ∧ sp (gV [] zs) H2 Q (E σ)) := by
  subst hn
  refine ⟨fun pins s σ H Q I h => ?_⟩
  refine wpAny_Call_Name_kw (ld_glob I hg hm ?_ hdb)
  refine PySem.W.callWith_KW0 (h₀ := X.base) I.ok.mod.kin hk hall ?_ hpl
  refine thn (hkw.run pos pins s σ H _ I h) fun ws s2 ⟨zs, H2, I2, rz, l2, q2⟩ => ⟨I2.kIn, ?_⟩
  rw [hks]
  have r2 := hb.rel .nil rz
  refine wpAny_call (codeAny_mono (F.run X.A X.stack s2 H2 ⟨[], ks.zip ws⟩ (gg [] ws) (gV [] zs) Q (E σ) hr I2.env0 (hb.to s2 [] ws I2.kIn rfl (rz.length.symm.trans l2)) r2 q2) fun r s' hq => ?_)
  cases r with
  | error e => exact hx σ pins H2 s2 e s' I2 hq
  | ok fl =>
    cases fl with
    | ret u => exact I2.after hq
    | next => exact False.elim hq
    | brk => exact False.elim hq
    | cont => exact False.elim hq
theorem ge_callK0 {kws : List Keyword} {ix : List Nat} {ks : List Str} (G : FnG X.prog X.w g X.mg X.base k x st ps dvs F) (xg : X.K = g.K) (ar : Ar F ps.length) (hr : Room k X.A) (hg : Gl X x) (tk : Takes X W) (hk : GK g W X kws fk) (hd : dvs = [])
    (hb : ∀ (kV doc pm : Value) (an : Option Addr) (cdv ct : Value) (ws : List Value), ws.length = ks.length → bindArgs (PySem.W.fnOf x x (defArgs st) (defBody st) (defScope st) .none kV doc pm an cdv ct) ⟨[], ks.zip ws⟩ = pure (ps.zip (permL ix ws)))
    (hall : (backToKw pos (keywordEach kws X.env)).all (·.1.isSome) = true := by rfl) (hks : (backToKw pos (keywordEach kws X.env)).filterMap (·.1) = ks := by rfl) (hdb : (x == ("__debug__" : Str)) = false := by decide)
    (hpl : ((backTo pos (starEach [] X.env)).any (·.1) || (backToKw pos (keywordEach kws X.env)).any (·.1.isNone)) = false := by rfl) :
    GE g W X (.Call (.Name x p) [] kws pos) (eCallK F ix 0 ks.length aNil fk) := by
  obtain ⟨K, cls, T, ex⟩ := g
  obtain rfl : X.K = K := xg
  subst hd
  obtain ⟨f, fd, h1, h2, h3⟩ := G.ex
  have bn : KBn X.K fd ps 0 ks (fun us ws => permL ix (us ++ ws)) (fun vs zs => permL ix (vs ++ zs)) := by
    obtain ⟨oc, od, dV, kV, doc, pm, an, cdv, ct, osl, rfl, lk, hcd, hD, hK⟩ := h2.ex
    rcases hD with ⟨_, rfl⟩ | ⟨e, _⟩
    · refine ⟨fun s us ws X l1 l2 => ?_, fun r1 r2 => permL_vals (r1.append r2)⟩
      have : us = [] := List.length_eq_zero_iff.mp l1
      subst this
      exact .of_eq (hb kV doc pm an cdv ct ws l2)
    · exact absurd rfl e
  refine PE.imp (callN0 (E := fun σ => WE W σ) (t := tNil) h3 hr hg h1 h2.kp bn (fun σ => passAt tk σ) rfl hk hall hks hdb hpl) fun σ H Q q => ?_
  obtain ⟨κ, ρ, μ, he, hs, hw⟩ := q
  have hw : wpR _ W σ κ H ((fk ρ μ).bind fun ys μ2 => if ([] : List DV).length = 0 ∧ ys.length = ks.length then F (permL ix ([] ++ ys)) μ2 else .stuck) _ := hw
  refine ⟨κ, ρ, μ, he, hs, hw.bind.mono fun ys μ1 κ1 H1 e1 s1 hh zs rz => ?_⟩
  by_cases hl : ([] : List DV).length = 0 ∧ ys.length = ks.length
  · rw [if_pos hl] at hh
    refine ⟨by rw [← rz.length]; exact hl.2, ?_⟩
    exact sp_read ar (permL_rel (RelL.append RelL.nil rz)) s1 hh
  · rw [if_neg hl] at hh; exact hh.elim
end
end SD

set_option Elab.async false
set_option linter.all false
set_option maxRecDepth 100000
set_option maxHeartbeats 4000000
/-! SD, sixth part: operators, built-ins and methods by values. -/
namespace SD
open PySem PySem.Spec PyProof.Rows L2

/-! ### reading a list, a tuple -/
def lstOf (μ : Sto) : DV → Option (List DV)
  | .lst xs => some xs
  | .cell i => match μ[i]? with
    | some (.lst xs) => some xs
    | _ => none
  | _ => none
def seqOf (μ : Sto) : DV → Option (List DV)
  | .scr xs => some xs
  | d => lstOf μ d
section
variable {g : Gc} {κ : KA} {H : Hp} {μ : Sto} {d e : DV} {v u : V}
theorem lstOf_rel {xs : List DV} (s : StoOk g κ H μ) (r : Rel g κ H d v) (h : lstOf μ d = some xs) : ∃ a vs, v = .ref a ∧ H a = some (.lst vs) ∧ RelL g κ H xs vs := by
  cases d with
  | lst ys =>
    cases h
    simp only [Rel] at r
    obtain ⟨a, vs, rfl, h2, h3⟩ := r
    exact ⟨a, vs, rfl, h2.1, h3⟩
  | cell i =>
    simp only [lstOf] at h
    cases ec : μ[i]? with
    | none => rw [ec] at h; cases h
    | some c =>
      rw [ec] at h
      cases c with
      | lst ys =>
        cases h
        simp only [Rel] at r
        obtain ⟨o, h1, h2⟩ := s.at_ i _ ec
        obtain ⟨p, vs, rfl, h3, h4⟩ := h2
        exact ⟨p, vs, r.2 p h1, h3, h4⟩
      | _ => cases h
  | _ => cases h
theorem seqOf_rel {xs : List DV} (s : StoOk g κ H μ) (r : Rel g κ H d v) (h : seqOf μ d = some xs) : ∃ a vs, v = .ref a ∧ SqL g.K H a vs ∧ RelL g κ H xs vs := by
  cases d with
  | scr ys =>
    cases h
    simp only [Rel] at r
    obtain ⟨a, vs, rfl, h2, h3⟩ := r
    exact ⟨a, vs, rfl, h2.sq, h3⟩
  | _ =>
    obtain ⟨a, vs, e, h2, h3⟩ := lstOf_rel s r h
    exact ⟨a, vs, e, .inl (.inl h2), h3⟩
theorem tup_rel {xs : List DV} (r : Rel g κ H (.tup xs) v) : ∃ a vs, v = .ref a ∧ SqT g.K H a vs ∧ RelL g κ H xs vs := by
  simp only [Rel] at r
  obtain ⟨a, vs, rfl, h2, h3⟩ := r
  exact ⟨a, vs, rfl, h2.sq, h3⟩
/-- the end of a reading: a value without an object; a new tuple; a new list -/
theorem rOut.flat {z : DV} {w : V} {Q : VK} (s : StoOk g κ H μ) (h : rOut g κ H μ (some z) Q) (r : Rel g κ H z w) : Q w H := h κ H Ext.refl s w r
theorem rOut.newT {xs : List DV} {vs : List V} {Q : VK} {p : Addr} {ob : Obj} (s : StoOk g κ H μ) (h : rOut g κ H μ (some (.tup xs)) Q) (r : RelL g κ H xs vs) (hp : H p = none) (hd : ob.dict = none) : Q (.ref p) (upd H p (.frz ob (.tup vs))) :=
  h κ _ (Ext.new s hp) (s.new hp) _ (rel_tup s hp hd r)
theorem rOut.newL {xs : List DV} {vs : List V} {Q : VK} {p : Addr} (s : StoOk g κ H μ) (h : rOut g κ H μ (some (.lst xs)) Q) (r : RelL g κ H xs vs) (hp : H p = none) : Q (.ref p) (upd H p (.lst vs)) :=
  h κ _ (Ext.new s hp) (s.new hp) _ (rel_lst s hp r)
end
theorem okLen_iff {n : Nat} : okLen n = true ↔ n ≤ sizeLine := by simp [okLen]

/-! ### + - * // % ** -/
def vAdd : V2 := fun d e μ => match d, e with
  | .int i, .int j => some (.int (i + j))
  | .str a, .str b => if okLen (a.length + b.length) = true then some (.str (a ++ b)) else none
  | .tup xs, .tup ys => if okLen (xs.length + ys.length) = true then some (.tup (xs ++ ys)) else none
  | d, e => match lstOf μ d, lstOf μ e with
    | some xs, some ys => if okLen (xs.length + ys.length) = true then some (.lst (xs ++ ys)) else none
    | _, _ => none
def vSub : V2 := fun d e _ => match d, e with
  | .int i, .int j => some (.int (i - j))
  | _, _ => none
def mulOk (i j : Int) : Bool := (decide (i.natAbs < 2 ^ 64) || decide (j.natAbs < 2 ^ 64)) || decide (i.natAbs.log2 + j.natAbs.log2 < 1000000)
def vMul : V2 := fun d e μ => match d, e with
  | .int i, .int j => if mulOk i j = true then some (.int (i * j)) else none
  | d, .int k => match lstOf μ d with
    | some xs => if (decide (-(2 ^ 63) ≤ k) && decide (k < 2 ^ 63) && okLen (xs.length * k.toNat)) = true then some (.lst (List.replicate k.toNat xs).flatten) else none
    | none => none
  | _, _ => none
def vDiv : V2 := fun d e _ => match d, e with
  | .int i, .int j => if decide (0 < j) && decide (j < 1073741824) = true then some (.int (i / j)) else none
  | _, _ => none
def vMod : V2 := fun d e _ => match d, e with
  | .int i, .int j => if decide (0 < j) = true then some (.int (i % j)) else none
  | _, _ => none
def vPow : V2 := fun d e _ => match d, e with
  | .int i, .int j => if (decide (0 ≤ j) && decide (j ≤ 1000000) && decide (i.natAbs < 2 ^ 64)) = true then some (.int (i ^ j.toNat)) else none
  | _, _ => none
section
variable {g : Gc} {X : Cx}
theorem relL_rep {κ : KA} {H : Hp} {xs : List DV} {vs : List V} (r : RelL g κ H xs vs) : ∀ k : Nat, RelL g κ H (List.replicate k xs).flatten (List.replicate k vs).flatten
  | 0 => RelL.nil
  | k + 1 => by
    rw [List.replicate_succ, List.replicate_succ, List.flatten_cons, List.flatten_cons]
    exact r.append (relL_rep r k)
theorem opAdd (xg : XG g X) : OpR X (binaryOp .Add) (r2 g vAdd) := by
  intro pins s σ H x y v u Q I rx ry h
  obtain ⟨κ, d, e, μ, rd, re, so, ho⟩ := h
  unfold vAdd at ho
  split at ho
  · simp only [Rel] at rd re
    subst rd re
    exact op_add pins s σ H _ _ v u Q I rx ry ⟨_, _, rfl, rfl, ho.flat so (by simp [Rel])⟩
  · simp only [Rel] at rd re
    subst rd re
    split at ho
    · rename_i hz
      exact op_add_str pins s σ H _ _ v u Q I rx ry ⟨_, _, rfl, rfl, okLen_iff.mp hz, ho.flat so (by simp [Rel])⟩
    · exact ho.elim
  · rename_i xs ys
    obtain ⟨a, vs, rfl, h1, h2⟩ := tup_rel rd
    obtain ⟨b, ws, rfl, h3, h4⟩ := tup_rel re
    split at ho
    · rename_i hz
      have hz := okLen_iff.mp hz
      refine op_catF pins s σ H _ _ v u Q I rx ry ⟨a, b, vs, ws, rfl, rfl, by rw [xg.K]; exact h1, by rw [xg.K]; exact h3, by rw [← h2.length, ← h4.length]; exact hz, fun e => ?_, fun e1 e => ?_, fun e1 e2 p ob hp hd => ho.newT so (h2.append h4) hp hd⟩
      · subst e
        have : xs = [] := by have := h2.length; simpa using this
        subst this
        exact ho.flat so re
      · subst e
        have : ys = [] := by have := h4.length; simpa using this
        subst this
        rw [List.append_nil] at ho
        exact ho.flat so rd
    · exact ho.elim
  · split at ho
    · rename_i xs ys hx hy
      split at ho
      · rename_i hz
        obtain ⟨a, vs, rfl, h1, h2⟩ := lstOf_rel so rd hx
        obtain ⟨b, ws, rfl, h3, h4⟩ := lstOf_rel so re hy
        exact op_cat pins s σ H _ _ v u Q I rx ry ⟨a, b, vs, ws, rfl, rfl, h1, h3, by rw [← h2.length, ← h4.length]; exact okLen_iff.mp hz, fun p hp => ho.newL so (h2.append h4) hp⟩
      · exact ho.elim
    · exact ho.elim
theorem opSub : OpR X (binaryOp .Sub) (r2 g vSub) := by
  intro pins s σ H x y v u Q I rx ry h
  obtain ⟨κ, d, e, μ, rd, re, so, ho⟩ := h
  unfold vSub at ho
  split at ho
  · simp only [Rel] at rd re
    subst rd re
    exact op_sub pins s σ H _ _ v u Q I rx ry ⟨_, _, rfl, rfl, ho.flat so (by simp [Rel])⟩
  · exact ho.elim
theorem opMul : OpR X (binaryOp .Mult) (r2 g vMul) := by
  intro pins s σ H x y v u Q I rx ry h
  obtain ⟨κ, d, e, μ, rd, re, so, ho⟩ := h
  unfold vMul at ho
  split at ho
  · rename_i i j
    simp only [Rel] at rd re
    subst rd re
    split at ho
    · rename_i hz
      simp only [mulOk, Bool.or_eq_true, decide_eq_true_eq] at hz
      rcases hz with hz | hz
      · exact op_mul pins s σ H _ _ v u Q I rx ry ⟨_, _, rfl, rfl, by unfold CMul; omega, ho.flat so (by simp [Rel])⟩
      · exact op_mulW pins s σ H _ _ v u Q I rx ry ⟨_, _, rfl, rfl, hz, ho.flat so (by simp [Rel])⟩
    · exact ho.elim
  · rename_i k _
    split at ho
    · rename_i xs hx
      split at ho
      · rename_i hz
        simp only [Bool.and_eq_true, decide_eq_true_eq, okLen_iff] at hz
        obtain ⟨a, vs, rfl, h1, h2⟩ := lstOf_rel so rd hx
        simp only [Rel] at re
        subst re
        exact op_rep pins s σ H _ _ v u Q I rx ry ⟨a, k, vs, rfl, rfl, h1, hz.1.1, hz.1.2, by rw [← h2.length]; exact hz.2, fun p hp => ho.newL so (relL_rep h2 _) hp⟩
      · exact ho.elim
    · exact ho.elim
  · exact ho.elim
theorem opDiv : OpR X (binaryOp .FloorDiv) (r2 g vDiv) := by
  intro pins s σ H x y v u Q I rx ry h
  obtain ⟨κ, d, e, μ, rd, re, so, ho⟩ := h
  unfold vDiv at ho
  split at ho
  · simp only [Rel] at rd re
    subst rd re
    split at ho
    · rename_i hz
      simp only [Bool.and_eq_true, decide_eq_true_eq] at hz
      exact op_fdiv pins s σ H _ _ v u Q I rx ry ⟨_, _, rfl, rfl, hz, ho.flat so (by simp [Rel])⟩
    · exact ho.elim
  · exact ho.elim
theorem opMod : OpR X (binaryOp .Mod) (r2 g vMod) := by
  intro pins s σ H x y v u Q I rx ry h
  obtain ⟨κ, d, e, μ, rd, re, so, ho⟩ := h
  unfold vMod at ho
  split at ho
  · simp only [Rel] at rd re
    subst rd re
    split at ho
    · rename_i hz
      simp only [decide_eq_true_eq] at hz
      exact op_mod pins s σ H _ _ v u Q I rx ry ⟨_, _, rfl, rfl, hz, ho.flat so (by simp [Rel])⟩
    · exact ho.elim
  · exact ho.elim
theorem opPow : OpR X (binaryOp .Pow) (r2 g vPow) := by
  intro pins s σ H x y v u Q I rx ry h
  obtain ⟨κ, d, e, μ, rd, re, so, ho⟩ := h
  unfold vPow at ho
  split at ho
  · simp only [Rel] at rd re
    subst rd re
    split at ho
    · rename_i hz
      simp only [Bool.and_eq_true, decide_eq_true_eq] at hz
      exact op_pow pins s σ H _ _ v u Q I rx ry ⟨_, _, rfl, rfl, ⟨hz.1.1, hz.1.2, hz.2⟩, ho.flat so (by simp [Rel])⟩
    · exact ho.elim
  · exact ho.elim
def vNeg : V1 := fun d _ => match d with
  | .int i => some (.int (-i))
  | _ => none
theorem unNeg : UnR X (unaryOp .USub) (r1 g vNeg) := by
  intro pins s σ H x v Q I rx h
  obtain ⟨κ, d, μ, rd, so, ho⟩ := h
  unfold vNeg at ho
  split at ho
  · simp only [Rel] at rd
    subst rd
    exact un_neg pins s σ H _ v Q I rx ⟨_, rfl, ho.flat so (by simp [Rel])⟩
  · exact ho.elim

/-! ### comparisons -/
mutual
def toPy : DV → Option PyData
  | .non => some .none
  | .bl b => some (.bool b)
  | .int i => some (.int i)
  | .str x => some (.str x)
  | .tup xs => (toPyL xs).map .tuple
  | .lst xs => (toPyL xs).map .list
  | .scr xs => (toPyL xs).map .list
  | _ => none
def toPyL : List DV → Option (List PyData)
  | [] => some []
  | x :: xs => match toPy x, toPyL xs with
    | some p, some ps => some (p :: ps)
    | _, _ => none
end
def toPyC (μ : Sto) : DV → Option PyData
  | .cell i => match μ[i]? with
    | some (.lst xs) => (toPyL xs).map .list
    | _ => none
  | d => toPy d
mutual
theorem dp_of {κ : KA} {H : Hp} : ∀ {d : DV} {v : V} {p : PyData}, Rel g κ H d v → toPy d = some p → Dp g.K H v p
  | .non, _, _, r, h => by simp only [Rel] at r; subst r; cases h; exact .non
  | .bl b, _, _, r, h => by simp only [Rel] at r; subst r; cases h; exact .bl b
  | .int i, _, _, r, h => by simp only [Rel] at r; subst r; cases h; exact .int i
  | .str x, _, _, r, h => by simp only [Rel] at r; subst r; cases h; exact .str x
  | .tup xs, v, p, r, h => by
    obtain ⟨a, vs, rfl, h1, h2⟩ := tup_rel r
    simp only [toPy, Option.map_eq_some_iff] at h
    obtain ⟨ps, h3, rfl⟩ := h
    exact .tup h1 (dpAll_of h2 h3)
  | .lst xs, v, p, r, h => by
    simp only [Rel] at r
    obtain ⟨a, vs, rfl, h1, h2⟩ := r
    simp only [toPy, Option.map_eq_some_iff] at h
    obtain ⟨ps, h3, rfl⟩ := h
    exact .lst (.inl (.inl h1.1)) (dpAll_of h2 h3)
  | .scr xs, v, p, r, h => by
    simp only [Rel] at r
    obtain ⟨a, vs, rfl, h1, h2⟩ := r
    simp only [toPy, Option.map_eq_some_iff] at h
    obtain ⟨ps, h3, rfl⟩ := h
    exact .lst h1.sq (dpAll_of h2 h3)
  | .dct _ _, _, _, _, h => by simp [toPy] at h
  | .cell _, _, _, _, h => by simp [toPy] at h
  | .obj _ _ _, _, _, _, h => by simp [toPy] at h
  | .exn _ _ _, _, _, _, h => by simp [toPy] at h
  | .gl _, _, _, _, h => by simp [toPy] at h
  | .ty _, _, _, _, h => by simp [toPy] at h
theorem dpAll_of {κ : KA} {H : Hp} : ∀ {xs : List DV} {vs : List V} {ps : List PyData}, RelL g κ H xs vs → toPyL xs = some ps → DpAll g.K H vs ps
  | [], _, _, r, h => by cases r.of_nil; cases h; exact .nil
  | x :: xs, _, ps, r, h => by
    obtain ⟨v, r', rfl, h1, h2⟩ := r.of_cons
    simp only [toPyL] at h
    cases e1 : toPy x with
    | none => rw [e1] at h; cases h
    | some p =>
      cases e2 : toPyL xs with
      | none => rw [e1, e2] at h; cases h
      | some q =>
        rw [e1, e2] at h
        cases h
        exact .cons (dp_of h1 e1) (dpAll_of h2 e2)
end
theorem dpC_of {κ : KA} {H : Hp} {μ : Sto} {d : DV} {v : V} {p : PyData} (s : StoOk g κ H μ) (r : Rel g κ H d v) (h : toPyC μ d = some p) : Dp g.K H v p := by
  cases d with
  | cell i =>
    simp only [toPyC] at h
    cases ec : μ[i]? with
    | none => rw [ec] at h; cases h
    | some c =>
      rw [ec] at h
      cases c with
      | lst xs =>
        simp only [Option.map_eq_some_iff] at h
        obtain ⟨ps, h3, rfl⟩ := h
        obtain ⟨a, vs, rfl, h1, h2⟩ := lstOf_rel (xs := xs) s r (by simp only [lstOf, ec])
        exact .lst (.inl (.inl h1)) (dpAll_of h2 h3)
      | _ => cases h
  | _ => exact dp_of r h
/-- equal plain data -/
def flatEq : DV → DV → Bool
  | .non, .non => true
  | .bl a, .bl b => a == b
  | .int i, .int j => decide (i = j)
  | .str a, .str b => decide (a = b)
  | _, _ => false
def flatEqs : List DV → List DV → Bool
  | [], [] => true
  | x :: xs, y :: ys => flatEq x y && flatEqs xs ys
  | _, _ => false
/-- two dicts that are told alike -/
def dctEq (ks : List Key) (xs : List DV) (ls : List Key) (ys : List DV) : Bool := decide (ks = ls) && (decide ks.Nodup && flatEqs xs ys)
theorem flatEqs_rel {κ : KA} {H : Hp} : ∀ {xs ys : List DV} {vs ws : List V}, RelL g κ H xs vs → RelL g κ H ys ws → flatEqs xs ys = true → vs = ws ∧ ∀ v ∈ vs, flatB v = true
  | [], [], _, _, r, q, _ => by cases r.of_nil; cases q.of_nil; exact ⟨rfl, fun v hv => by cases hv⟩
  | x :: xs, y :: ys, _, _, r, q, h => by
    obtain ⟨v, vs, rfl, r1, r2⟩ := r.of_cons
    obtain ⟨w, ws, rfl, q1, q2⟩ := q.of_cons
    have h : (flatEq x y && flatEqs xs ys) = true := h
    rw [Bool.and_eq_true] at h
    obtain ⟨e, f⟩ := flatEqs_rel r2 q2 h.2
    have one : v = w ∧ flatB v = true := by
      have h1 := h.1
      unfold flatEq at h1
      split at h1
      · simp only [Rel] at r1 q1; subst r1 q1; exact ⟨rfl, rfl⟩
      · simp only [Rel] at r1 q1; subst r1 q1; exact ⟨by rw [eq_of_beq h1], rfl⟩
      · simp only [Rel] at r1 q1; subst r1 q1; exact ⟨by rw [of_decide_eq_true h1], rfl⟩
      · simp only [Rel] at r1 q1; subst r1 q1; exact ⟨by rw [of_decide_eq_true h1], rfl⟩
      · cases h1
    refine ⟨by rw [one.1, e], fun u hu => ?_⟩
    rcases List.mem_cons.mp hu with z | z
    · rw [z]; exact one.2
    · exact f u z
theorem valV_zip : ∀ {ks : List Key} {vs : List V}, ks.Nodup → ∀ p ∈ ks.zip vs, valV (ks.zip vs) p.1 = some p.2
  | [], _, _, p, hp => by simp at hp
  | k :: ks, [], _, p, hp => by simp at hp
  | k :: ks, v :: vs, hn, p, hp => by
    rw [List.zip_cons_cons] at hp ⊢
    obtain ⟨n1, n2⟩ := List.nodup_cons.mp hn
    rcases List.mem_cons.mp hp with e | hp
    · subst e; exact valV_pos rfl
    · have hk : p.1 ∈ ks := (List.of_mem_zip hp).1
      rw [valV_neg (fun e : k = p.1 => n1 (by rw [e]; exact hk))]
      exact valV_zip n2 p hp
theorem dctEq_rel {κ : KA} {H : Hp} {ks ls : List Key} {xs ys : List DV} {x y : V} {Q : VK} (rx : Rel g κ H (.dct ks xs) x) (ry : Rel g κ H (.dct ls ys) y) (h : dctEq ks xs ls ys = true) :
    ∃ a b kv lv, x = .ref a ∧ y = .ref b ∧ H a = some (.dK kv) ∧ H b = some (.dK lv) ∧ kv.length = lv.length ∧ ∀ p ∈ kv, valV lv p.1 = some p.2 ∧ flatB p.2 = true := by
  simp only [Rel] at rx ry
  obtain ⟨a, vs, rfl, h1, l1, r1⟩ := rx
  obtain ⟨b, ws, rfl, h2, l2, r2⟩ := ry
  unfold dctEq at h
  rw [Bool.and_eq_true, Bool.and_eq_true, decide_eq_true_eq, decide_eq_true_eq] at h
  obtain ⟨rfl, hn, hf⟩ := h
  obtain ⟨rfl, hb⟩ := flatEqs_rel r1 r2 hf
  exact ⟨a, b, _, _, rfl, rfl, h1.1, h2.1, rfl, fun p hp => ⟨valV_zip hn p hp, hb _ (List.of_mem_zip hp).2⟩⟩
/-! data that hold cells -/
mutual
def toPyM (μ : Sto) : DV → Option PyData
  | .tup xs => (toPyML μ xs).map .tuple
  | .lst xs => (toPyML μ xs).map .list
  | .cell i => match μ[i]? with
    | some (.lst xs) => (toPyL xs).map .list
    | _ => none
  | .non => some .none
  | .bl b => some (.bool b)
  | .int i => some (.int i)
  | .str x => some (.str x)
  | _ => none
def toPyML (μ : Sto) : List DV → Option (List PyData)
  | [] => some []
  | x :: xs => match toPyM μ x, toPyML μ xs with
    | some p, some ps => some (p :: ps)
    | _, _ => none
end
mutual
theorem dpM_of {κ : KA} {H : Hp} {μ : Sto} (s : StoOk g κ H μ) : ∀ {d : DV} {v : V} {p : PyData}, Rel g κ H d v → toPyM μ d = some p → Dp g.K H v p
  | .non, _, _, r, h => by simp only [Rel] at r; subst r; cases h; exact .non
  | .bl b, _, _, r, h => by simp only [Rel] at r; subst r; cases h; exact .bl b
  | .int i, _, _, r, h => by simp only [Rel] at r; subst r; cases h; exact .int i
  | .str x, _, _, r, h => by simp only [Rel] at r; subst r; cases h; exact .str x
  | .tup xs, v, p, r, h => by
    obtain ⟨a, vs, rfl, h1, h2⟩ := tup_rel r
    simp only [toPyM, Option.map_eq_some_iff] at h
    obtain ⟨ps, h3, rfl⟩ := h
    exact .tup h1 (dpML_of s h2 h3)
  | .lst xs, v, p, r, h => by
    simp only [Rel] at r
    obtain ⟨a, vs, rfl, h1, h2⟩ := r
    simp only [toPyM, Option.map_eq_some_iff] at h
    obtain ⟨ps, h3, rfl⟩ := h
    exact .lst (.inl (.inl h1.1)) (dpML_of s h2 h3)
  | .cell i, v, p, r, h => dpC_of s r h
  | .scr _, _, _, _, h => by simp [toPyM] at h
  | .dct _ _, _, _, _, h => by simp [toPyM] at h
  | .obj _ _ _, _, _, _, h => by simp [toPyM] at h
  | .exn _ _ _, _, _, _, h => by simp [toPyM] at h
  | .gl _, _, _, _, h => by simp [toPyM] at h
  | .ty _, _, _, _, h => by simp [toPyM] at h
theorem dpML_of {κ : KA} {H : Hp} {μ : Sto} (s : StoOk g κ H μ) : ∀ {xs : List DV} {vs : List V} {ps : List PyData}, RelL g κ H xs vs → toPyML μ xs = some ps → DpAll g.K H vs ps
  | [], _, _, r, h => by cases r.of_nil; cases h; exact .nil
  | x :: xs, _, ps, r, h => by
    obtain ⟨v, r', rfl, h1, h2⟩ := r.of_cons
    simp only [toPyML] at h
    cases e1 : toPyM μ x with
    | none => rw [e1] at h; cases h
    | some p =>
      cases e2 : toPyML μ xs with
      | none => rw [e1, e2] at h; cases h
      | some q =>
        rw [e1, e2] at h
        cases h
        exact .cons (dpM_of s h1 e1) (dpML_of s h2 e2)
end
/-- == of data -/
def eqP (d e : DV) (μ : Sto) : Option Bool := match toPyC μ d, toPyC μ e with
  | some p, some q => if (SeqAt.shaped p && SeqAt.shaped q) = true then some (PyData.eqv p q) else none
  | _, _ => match toPyM μ d, toPyM μ e with
    | some p, some q => if (SeqAt.shaped p && SeqAt.shaped q) = true then some (PyData.eqv p q) else none
    | _, _ => none
def eqD (d e : DV) (μ : Sto) : Option Bool := match d, e with
  | .dct ks xs, .dct ls ys => if dctEq ks xs ls ys = true then some true else none
  | d, e => eqP d e μ
def vEq : V2 := fun d e μ => (eqD d e μ).map .bl
def vNe : V2 := fun d e μ => (eqD d e μ).map fun b => .bl (!b)
theorem eqP_some {κ : KA} {H : Hp} {d e : DV} {μ : Sto} {b : Bool} {x y : V} (so : StoOk g κ H μ) (rd : Rel g κ H d x) (re : Rel g κ H e y) (h : eqP d e μ = some b) : ∃ p q, Dp g.K H x p ∧ Dp g.K H y q ∧ SeqAt.shaped p = true ∧ SeqAt.shaped q = true ∧ b = PyData.eqv p q := by
  unfold eqP at h
  split at h
  · split at h
    · rename_i p q h1 h2 hz
      rw [Bool.and_eq_true] at hz
      cases h
      exact ⟨p, q, dpC_of so rd h1, dpC_of so re h2, hz.1, hz.2, rfl⟩
    · cases h
  · split at h
    · split at h
      · rename_i p q h1 h2 hz
        rw [Bool.and_eq_true] at hz
        cases h
        exact ⟨p, q, dpM_of so rd h1, dpM_of so re h2, hz.1, hz.2, rfl⟩
      · cases h
    · cases h
theorem eqD_some {κ : KA} {H : Hp} {d e : DV} {μ : Sto} {b : Bool} {x y : V} (so : StoOk g κ H μ) (rd : Rel g κ H d x) (re : Rel g κ H e y) (h : eqD d e μ = some b) : (∃ p q, Dp g.K H x p ∧ Dp g.K H y q ∧ SeqAt.shaped p = true ∧ SeqAt.shaped q = true ∧ b = PyData.eqv p q) ∨ ∃ ks xs ls ys, d = .dct ks xs ∧ e = .dct ls ys ∧ dctEq ks xs ls ys = true ∧ b = true := by
  unfold eqD at h
  split at h
  · split at h
    · rename_i z; cases h; exact .inr ⟨_, _, _, _, rfl, rfl, z, rfl⟩
    · cases h
  · exact .inl (eqP_some so rd re h)
theorem opEq (xg : XG g X) (hu : X.A.units + 64 < cLine) : OpR X (compareOp .Eq) (r2 g vEq) := by
  intro pins s σ H x y v u Q I rx ry h
  obtain ⟨κ, d, e, μ, rd, re, so, ho⟩ := h
  unfold vEq at ho
  cases hb : eqD d e μ with
  | none => rw [hb] at ho; exact ho.elim
  | some b =>
    rw [hb] at ho
    rcases eqD_some so rd re hb with ⟨p, q, h1, h2, h3, h4, rfl⟩ | ⟨ks, xs, ls, ys, rfl, rfl, hz, rfl⟩
    · exact op_eqD hu pins s σ H _ _ v u Q I rx ry ⟨p, q, by rw [xg.K]; exact h1, by rw [xg.K]; exact h2, h3, h4, rOut.flat so ho (by simp [Rel])⟩
    · obtain ⟨a, b, kv, lv, e1, e2, h1, h2, h3, h4⟩ := dctEq_rel (Q := Q) rd re hz
      exact op_eq_dictA (by omega) pins s σ H _ _ v u Q I rx ry ⟨a, b, kv, lv, e1, e2, h1, h2, h3, h4, rOut.flat so ho (by simp [Rel])⟩
theorem opNe (xg : XG g X) (hu : X.A.units + 64 < cLine) : OpR X (compareOp .NotEq) (r2 g vNe) := by
  intro pins s σ H x y v u Q I rx ry h
  obtain ⟨κ, d, e, μ, rd, re, so, ho⟩ := h
  unfold vNe at ho
  cases hb : eqD d e μ with
  | none => rw [hb] at ho; exact ho.elim
  | some b =>
    rw [hb] at ho
    rcases eqD_some so rd re hb with ⟨p, q, h1, h2, h3, h4, rfl⟩ | ⟨ks, xs, ls, ys, rfl, rfl, hz, rfl⟩
    · exact op_neD hu pins s σ H _ _ v u Q I rx ry ⟨p, q, by rw [xg.K]; exact h1, by rw [xg.K]; exact h2, h3, h4, rOut.flat so ho (by simp [Rel])⟩
    · obtain ⟨a, b, kv, lv, e1, e2, h1, h2, h3, h4⟩ := dctEq_rel (Q := Q) rd re hz
      exact op_ne_dictA (by omega) pins s σ H _ _ v u Q I rx ry ⟨a, b, kv, lv, e1, e2, h1, h2, h3, h4, rOut.flat so ho (by simp [Rel])⟩
def vCmp (f : Int → Int → Bool) : V2 := fun d e _ => match d, e with
  | .int i, .int j => some (.bl (f i j))
  | _, _ => none
theorem cmp_int {op : CmpOp} {f : Int → Int → Bool} (ho : OpR X (compareOp op) (rI0 fun i j => .bl (f i j))) : OpR X (compareOp op) (r2 g (vCmp f)) := by
  intro pins s σ H x y v u Q I rx ry h
  obtain ⟨κ, d, e, μ, rd, re, so, h⟩ := h
  unfold vCmp at h
  split at h
  · simp only [Rel] at rd re
    subst rd re
    exact ho pins s σ H _ _ v u Q I rx ry ⟨_, _, rfl, rfl, h.flat so (by simp [Rel])⟩
  · exact h.elim
def vLt : V2 := vCmp fun i j => decide (i < j)
def vLe : V2 := vCmp fun i j => decide (i ≤ j)
def vGt : V2 := vCmp fun i j => decide (j < i)
def vGe : V2 := vCmp fun i j => decide (j ≤ i)
theorem opLt : OpR X (compareOp .Lt) (r2 g vLt) := cmp_int op_lt
theorem opLe : OpR X (compareOp .LtE) (r2 g vLe) := cmp_int op_le
theorem opGt : OpR X (compareOp .Gt) (r2 g vGt) := cmp_int op_gt
theorem opGe : OpR X (compareOp .GtE) (r2 g vGe) := cmp_int op_ge
def isNon : DV → Bool
  | .non => true
  | _ => false
theorem isNon_rel {κ : KA} {H : Hp} {d : DV} {v : V} {μ : Sto} (s : StoOk g κ H μ) (r : Rel g κ H d v) (hc : ∀ i, d = .cell i → ∃ xs, μ[i]? = some (.lst xs)) : decide (v = .non) = isNon d := by
  cases d with
  | non => simp only [Rel] at r; subst r; rfl
  | cell i =>
    obtain ⟨xs, hx⟩ := hc i rfl
    obtain ⟨a, vs, rfl, _⟩ := lstOf_rel (xs := xs) s r (by simp only [lstOf, hx])
    rfl
  | bl b => simp only [Rel] at r; subst r; rfl
  | int b => simp only [Rel] at r; subst r; rfl
  | str b => simp only [Rel] at r; subst r; rfl
  | ty b => simp only [Rel] at r; subst r; rfl
  | gl b => simp only [Rel] at r; subst r; rfl
  | tup xs => simp only [Rel] at r; obtain ⟨a, vs, rfl, _⟩ := r; rfl
  | lst xs => simp only [Rel] at r; obtain ⟨a, vs, rfl, _⟩ := r; rfl
  | scr xs => simp only [Rel] at r; obtain ⟨a, vs, rfl, _⟩ := r; rfl
  | dct ks xs => simp only [Rel] at r; obtain ⟨a, vs, rfl, _⟩ := r; rfl
  | obj c ks xs => simp only [Rel] at r; obtain ⟨a, dx, vs, rfl, _⟩ := r; rfl
  | exn c ks xs => simp only [Rel] at r; obtain ⟨a, dx, vs, _, rfl, _⟩ := r; rfl
def okIs (μ : Sto) : DV → Bool
  | .cell i => match μ[i]? with
    | some (.lst _) => true
    | _ => false
  | _ => true
theorem okIs_c {μ : Sto} {d : DV} (h : okIs μ d = true) : ∀ i, d = .cell i → ∃ xs, μ[i]? = some (.lst xs) := by
  rintro i rfl
  simp only [okIs] at h
  split at h
  · exact ⟨_, by assumption⟩
  · cases h
/-- is None, is not None -/
def vIs : V2 := fun d e μ => match e with
  | .non => if okIs μ d = true then some (.bl (isNon d)) else none
  | _ => none
def vIsNot : V2 := fun d e μ => match e with
  | .non => if okIs μ d = true then some (.bl (!isNon d)) else none
  | _ => none
theorem opIs : OpR X (compareOp .Is) (r2 g vIs) := by
  intro pins s σ H x y v u Q I rx ry h
  obtain ⟨κ, d, e, μ, rd, re, so, ho⟩ := h
  unfold vIs at ho
  split at ho
  · split at ho
    · rename_i hc
      simp only [Rel] at re
      subst re
      exact op_isN pins s σ H _ _ v u Q I rx ry ⟨rfl, by rw [isNon_rel so rd (okIs_c hc)]; exact ho.flat so (by simp [Rel])⟩
    · exact ho.elim
  · exact ho.elim
theorem opIsNot : OpR X (compareOp .IsNot) (r2 g vIsNot) := by
  intro pins s σ H x y v u Q I rx ry h
  obtain ⟨κ, d, e, μ, rd, re, so, ho⟩ := h
  unfold vIsNot at ho
  split at ho
  · split at ho
    · rename_i hc
      simp only [Rel] at re
      subst re
      exact op_notN pins s σ H _ _ v u Q I rx ry ⟨rfl, by rw [isNon_rel so rd (okIs_c hc)]; exact ho.flat so (by simp [Rel])⟩
    · exact ho.elim
  · exact ho.elim
/-- in: one sign in a text; data in a list -/
def inL (d : DV) (xs : List DV) : Option Bool := match toPy d, toPyL xs with
  | some p, some ps => if (SeqAt.shaped p && SeqAt.shaped (.list ps)) = true then some (ps.any fun z => PyData.eqv z p) else none
  | _, _ => none
def inD (d e : DV) (μ : Sto) : Option Bool := match d, e with
  | .str a, .str b => match a.cps.toList with
    | [c] => some (decide (c ∈ b.cps.toList))
    | _ => none
  | d, .tup xs => inL d xs
  | d, e => match seqOf μ e with
    | some xs => inL d xs
    | none => none
def vIn : V2 := fun d e μ => (inD d e μ).map .bl
def vNotIn : V2 := fun d e μ => (inD d e μ).map fun b => .bl (!b)
theorem str_one {a : Str} {c : Nat} (h : a.cps.toList = [c]) : a = ⟨#[c]⟩ := by
  obtain ⟨cps⟩ := a
  have : cps = #[c] := Array.ext' (by simpa using h)
  rw [this]
theorem inL_some {d : DV} {xs : List DV} {b : Bool} (h : inL d xs = some b) : ∃ p ps, toPy d = some p ∧ toPyL xs = some ps ∧ SeqAt.shaped p = true ∧ SeqAt.shaped (.list ps) = true ∧ b = ps.any fun z => PyData.eqv z p := by
  unfold inL at h
  split at h
  · split at h
    · rename_i p q h1 h2 hz
      rw [Bool.and_eq_true] at hz
      cases h
      exact ⟨p, q, h1, h2, hz.1, hz.2, rfl⟩
    · cases h
  · cases h
theorem in_read {d e : DV} {μ : Sto} {κ : KA} {H : Hp} {x y : V} {b : Bool} (so : StoOk g κ H μ) (rd : Rel g κ H d x) (re : Rel g κ H e y) (h : inD d e μ = some b) :
    (∃ c z, x = .str ⟨#[c]⟩ ∧ y = .str z ∧ b = decide (c ∈ z.cps.toList)) ∨ (∃ p ps, Dp g.K H x p ∧ Dp g.K H y (.list ps) ∧ SeqAt.shaped p = true ∧ SeqAt.shaped (.list ps) = true ∧ b = ps.any fun z => PyData.eqv z p) ∨
    (∃ p ps, Dp g.K H x p ∧ Dp g.K H y (.tuple ps) ∧ SeqAt.shaped p = true ∧ SeqAt.shaped (.list ps) = true ∧ b = ps.any fun z => PyData.eqv z p) := by
  unfold inD at h
  split at h
  · rename_i a b'
    split at h
    · rename_i c hc
      cases h
      simp only [Rel] at rd re
      subst rd re
      exact .inl ⟨c, b', by rw [str_one hc], rfl, rfl⟩
    · cases h
  · obtain ⟨p, ps, h1, h2, h3, h4, rfl⟩ := inL_some h
    obtain ⟨a, vs, rfl, h5, h6⟩ := tup_rel re
    exact .inr (.inr ⟨p, ps, dp_of rd h1, .tup h5 (dpAll_of h6 h2), h3, h4, rfl⟩)
  · split at h
    · rename_i xs hx
      obtain ⟨p, ps, h1, h2, h3, h4, rfl⟩ := inL_some h
      obtain ⟨a, vs, rfl, h5, h6⟩ := seqOf_rel so re hx
      exact .inr (.inl ⟨p, ps, dp_of rd h1, .lst h5 (dpAll_of h6 h2), h3, h4, rfl⟩)
    · cases h
/-- in a tuple -/
def rInT (K : PySem.W.Frag) : R2 := fun x y H Q => ∃ d ds, Dp K H x d ∧ Dp K H y (.tuple ds) ∧ SeqAt.shaped d = true ∧ SeqAt.shaped (.list ds) = true ∧ Q (.bl (ds.any fun z => PyData.eqv z d)) H
def rNotInT (K : PySem.W.Frag) : R2 := fun x y H Q => ∃ d ds, Dp K H x d ∧ Dp K H y (.tuple ds) ∧ SeqAt.shaped d = true ∧ SeqAt.shaped (.list ds) = true ∧ Q (.bl (!ds.any fun z => PyData.eqv z d)) H
theorem op_inT (hu : X.A.units + 65 < cLine) : OpR X (compareOp .In) (rInT X.K) := by
  intro pins s σ H x y v u Q I rx ry h
  obtain ⟨d, ds, hd, hl, sd, sl, q⟩ := h
  obtain ⟨as, k1⟩ := Dp.reads I d x v hd rx
  obtain ⟨bs, k2⟩ := Dp.reads I (.tuple ds) y u hl ry
  exact SeqAt.in_tuple_reads k2 k1 (SeqAt.canLay_of_shaped sl) (SeqAt.canLay_of_shaped sd) (room_in_shaped sd hu) ⟨.bl _, H, I, rfl, q⟩
theorem op_notInT (hu : X.A.units + 65 < cLine) : OpR X (compareOp .NotIn) (rNotInT X.K) := by
  intro pins s σ H x y v u Q I rx ry h
  obtain ⟨d, ds, hd, hl, sd, sl, q⟩ := h
  obtain ⟨as, k1⟩ := Dp.reads I d x v hd rx
  obtain ⟨bs, k2⟩ := Dp.reads I (.tuple ds) y u hl ry
  exact SeqAt.notIn_tuple_reads k2 k1 (SeqAt.canLay_of_shaped sl) (SeqAt.canLay_of_shaped sd) (room_in_shaped sd hu) ⟨.bl _, H, I, rfl, q⟩
theorem opIn (xg : XG g X) (hu : X.A.units + 65 < cLine) : OpR X (compareOp .In) (r2 g vIn) := by
  intro pins s σ H x y v u Q I rx ry h
  obtain ⟨κ, d, e, μ, rd, re, so, ho⟩ := h
  unfold vIn at ho
  cases hb : inD d e μ with
  | none => rw [hb] at ho; exact ho.elim
  | some b =>
    rw [hb] at ho
    rcases in_read so rd re hb with ⟨c, z, rfl, rfl, rfl⟩ | ⟨p, ps, h1, h2, h3, h4, rfl⟩ | ⟨p, ps, h1, h2, h3, h4, rfl⟩
    · exact op_in_sign pins s σ H _ _ v u Q I rx ry ⟨c, z, rfl, rfl, rOut.flat so ho (by simp [Rel])⟩
    · exact op_inD hu pins s σ H _ _ v u Q I rx ry ⟨p, ps, by rw [xg.K]; exact h1, by rw [xg.K]; exact h2, h3, h4, rOut.flat so ho (by simp [Rel])⟩
    · exact op_inT hu pins s σ H _ _ v u Q I rx ry ⟨p, ps, by rw [xg.K]; exact h1, by rw [xg.K]; exact h2, h3, h4, rOut.flat so ho (by simp [Rel])⟩
theorem opNotIn (xg : XG g X) (hu : X.A.units + 65 < cLine) : OpR X (compareOp .NotIn) (r2 g vNotIn) := by
  intro pins s σ H x y v u Q I rx ry h
  obtain ⟨κ, d, e, μ, rd, re, so, ho⟩ := h
  unfold vNotIn at ho
  cases hb : inD d e μ with
  | none => rw [hb] at ho; exact ho.elim
  | some b =>
    rw [hb] at ho
    rcases in_read so rd re hb with ⟨c, z, rfl, rfl, rfl⟩ | ⟨p, ps, h1, h2, h3, h4, rfl⟩ | ⟨p, ps, h1, h2, h3, h4, rfl⟩
    · exact op_notIn_sign pins s σ H _ _ v u Q I rx ry ⟨c, z, rfl, rfl, rOut.flat so ho (by simp [Rel])⟩
    · exact op_notInD hu pins s σ H _ _ v u Q I rx ry ⟨p, ps, by rw [xg.K]; exact h1, by rw [xg.K]; exact h2, h3, h4, rOut.flat so ho (by simp [Rel])⟩
    · exact op_notInT hu pins s σ H _ _ v u Q I rx ry ⟨p, ps, by rw [xg.K]; exact h1, by rw [xg.K]; exact h2, h3, h4, rOut.flat so ho (by simp [Rel])⟩

/-! ### subscripts -/
def vIx : V2 := fun d e μ => match e with
  | .int i => match d with
    | .str z => if okLen z.length = true then (atI z.cps.toList i).map fun c => .str ⟨#[c]⟩ else none
    | .tup xs => atI xs i
    | d => match seqOf μ d with
      | some xs => atI xs i
      | none => none
  | _ => none
theorem atI_rel {κ : KA} {H : Hp} {xs : List DV} {vs : List V} {i : Int} {d : DV} (r : RelL g κ H xs vs) (h : atI xs i = some d) : ∃ v, atI vs i = some v ∧ Rel g κ H d v := by
  unfold atI at h ⊢
  rw [← r.length]
  cases e : ixN xs.length i with
  | none => rw [e] at h; cases h
  | some j =>
    rw [e] at h
    simp only [Option.bind_some] at h ⊢
    exact r.get h
theorem ixAny (xg : XG g X) : IxR X (r2 g vIx) := by
  intro value slice pins s σ H x y v u Q I rx ry h hs
  obtain ⟨κ, d, e, μ, rd, re, so, ho⟩ := h
  unfold vIx at ho
  split at ho
  · rename_i i
    simp only [Rel] at re
    subst re
    split at ho
    · rename_i z
      simp only [Rel] at rd
      subst rd
      split at ho
      · rename_i hz
        cases hc : atI z.cps.toList i with
        | none => rw [hc] at ho; exact ho.elim
        | some c =>
          rw [hc] at ho
          exact ix_str value slice pins s σ H _ _ v u Q I rx ry ⟨z, i, c, rfl, rfl, okLen_iff.mp hz, hc, rOut.flat so ho (by simp [Rel])⟩ hs
      · exact ho.elim
    · rename_i xs
      obtain ⟨a, vs, rfl, h1, h2⟩ := tup_rel rd
      cases hc : atI xs i with
      | none => rw [hc] at ho; exact ho.elim
      | some c =>
        rw [hc] at ho
        obtain ⟨w', h3, h4⟩ := atI_rel h2 hc
        exact ix_tup value slice pins s σ H _ _ v u Q I rx ry ⟨a, vs, i, w', rfl, rfl, by rw [xg.K]; exact h1, h3, rOut.flat so ho h4⟩ hs
    · split at ho
      · rename_i xs hx
        obtain ⟨a, vs, rfl, h1, h2⟩ := seqOf_rel so rd hx
        cases hc : atI xs i with
        | none => rw [hc] at ho; exact ho.elim
        | some c =>
          rw [hc] at ho
          obtain ⟨w', h3, h4⟩ := atI_rel h2 hc
          exact ix_list value slice pins s σ H _ _ v u Q I rx ry ⟨a, vs, i, w', rfl, rfl, by rw [xg.K]; exact h1, h3, rOut.flat so ho h4⟩ hs
      · exact ho.elim
  · exact ho.elim
def cutD (xs : List DV) (lo hi : Option Int) : List DV := (xs.drop (HT.sIx xs.length 0 lo)).take (HT.sIx xs.length xs.length hi - HT.sIx xs.length 0 lo)
theorem cutD_rel {κ : KA} {H : Hp} {xs : List DV} {vs : List V} {lo hi : Option Int} (r : RelL g κ H xs vs) : RelL g κ H (cutD xs lo hi) (cutV vs lo hi) := by
  unfold cutD cutV
  rw [r.length]
  exact RelL.take _ (RelL.drop _ r)
def vSlc : VSl := fun d lo hi μ => match d with
  | .str z => if okLen z.length = true then some (.str (cutS z lo hi)) else none
  | .tup xs => some (.tup (cutD xs lo hi))
  | d => match seqOf μ d with
    | some xs => some (.lst (cutD xs lo hi))
    | none => none
theorem slAny (xg : XG g X) : SlR X (rSl g vSlc) := by
  intro pins s σ H x v vl vu lo hi sl Q I rx hs pl pu h
  obtain ⟨κ, d, μ, rd, so, ho⟩ := h
  unfold vSlc at ho
  split at ho
  · rename_i z
    simp only [Rel] at rd
    subst rd
    split at ho
    · rename_i hz
      exact sl_str pins s σ H _ v vl vu lo hi sl Q I rx hs pl pu ⟨z, rfl, okLen_iff.mp hz, rOut.flat so ho (by simp [Rel])⟩
    · exact ho.elim
  · rename_i xs
    obtain ⟨a, vs, rfl, h1, h2⟩ := tup_rel rd
    refine sl_tupFA pins s σ H _ v vl vu lo hi sl Q I rx hs pl pu ⟨a, vs, rfl, by rw [xg.K]; exact h1, fun hw => ?_, fun _ p ob hp hd => ho.newT so (cutD_rel h2) hp hd⟩
    have e : cutD xs lo hi = xs := by
      unfold cutD
      rw [h2.length, hw.1, hw.2]
      simp [← h2.length]
    rw [e] at ho
    exact ho.flat so rd
  · split at ho
    · rename_i xs hx
      obtain ⟨a, vs, rfl, h1, h2⟩ := seqOf_rel so rd hx
      exact sl_list pins s σ H _ v vl vu lo hi sl Q I rx hs pl pu ⟨a, vs, rfl, by rw [xg.K]; exact h1, fun p hp => ho.newL so (cutD_rel h2) hp⟩
    · exact ho.elim
end
end SD

set_option Elab.async false
set_option linter.all false
set_option maxRecDepth 100000
set_option maxHeartbeats 4000000
/-! SD, seventh part: built-in functions, methods, stores into lists, dict displays. -/
namespace SD
open PySem PySem.Spec PyProof.Rows L2
section
variable {g : Gc} {X : Cx}

/-! ### len, abs, int, str, list, tuple, all, any, sum -/
def vLen : VN := fun ds μ => match ds with
  | [.str z] => if okLen z.length = true then some (.int z.length) else none
  | [.tup xs] => some (.int xs.length)
  | [d] => match seqOf μ d with
    | some xs => some (.int xs.length)
    | none => none
  | _ => none
theorem relL1 {κ : KA} {H : Hp} {d : DV} {vs : List V} (r : RelL g κ H [d] vs) : ∃ v, vs = [v] ∧ Rel g κ H d v := by
  obtain ⟨v, r', rfl, h1, h2⟩ := r.of_cons
  cases h2.of_nil
  exact ⟨v, rfl, h1⟩
theorem relL2 {κ : KA} {H : Hp} {d e : DV} {vs : List V} (r : RelL g κ H [d, e] vs) : ∃ v w, vs = [v, w] ∧ Rel g κ H d v ∧ Rel g κ H e w := by
  obtain ⟨v, r', rfl, h1, h2⟩ := r.of_cons
  obtain ⟨w, rfl, h3⟩ := relL1 h2
  exact ⟨v, w, rfl, h1, h3⟩
theorem cLen (xg : XG g X) : CallR X (.builtin "len") (rN g vLen) := by
  intro pins s σ H xs us Q I rx h
  obtain ⟨κ, ds, μ, rd, so, ho⟩ := h
  unfold vLen at ho
  split at ho
  · obtain ⟨v, rfl, r1⟩ := relL1 rd
    simp only [Rel] at r1
    subst r1
    split at ho
    · rename_i hz
      exact call_len_str pins s σ H _ us Q I rx ⟨_, rfl, okLen_iff.mp hz, rOut.flat so ho (by simp [Rel])⟩
    · exact ho.elim
  · obtain ⟨v, rfl, r1⟩ := relL1 rd
    obtain ⟨a, vs, rfl, h1, h2⟩ := tup_rel r1
    exact call_len_seq pins s σ H _ us Q I rx ⟨a, vs, rfl, .inr (by rw [xg.K]; exact h1), rOut.flat so ho (by simp [Rel, h2.length])⟩
  · obtain ⟨v, rfl, r1⟩ := relL1 rd
    split at ho
    · rename_i ys hy
      obtain ⟨a, vs, rfl, h1, h2⟩ := seqOf_rel so r1 hy
      exact call_len_seq pins s σ H _ us Q I rx ⟨a, vs, rfl, .inl (by rw [xg.K]; exact h1), rOut.flat so ho (by simp [Rel, h2.length])⟩
    · exact ho.elim
  · exact ho.elim
def vAbs : VN := fun ds _ => match ds with
  | [.int i] => some (.int (if i < 0 then -i else i))
  | _ => none
theorem cAbs : CallR X (.builtin "abs") (rN g vAbs) := by
  intro pins s σ H xs us Q I rx h
  obtain ⟨κ, ds, μ, rd, so, ho⟩ := h
  unfold vAbs at ho
  split at ho
  · obtain ⟨v, rfl, r1⟩ := relL1 rd
    simp only [Rel] at r1
    subst r1
    exact call_abs pins s σ H _ us Q I rx ⟨_, rfl, rOut.flat so ho (by simp [Rel])⟩
  · exact ho.elim
/-- int(n), int(flag), int(text) -/
def vInt : VN := fun ds _ => match ds with
  | [.int i] => some (.int i)
  | [.bl b] => some (.int (if b then 1 else 0))
  | [.str a] => if decide (a.length ≤ 640) = true then (PySem.intText? a).map .int else none
  | _ => none
theorem cInt : CallR X (.type "int") (rN g vInt) := by
  intro pins s σ H xs us Q I rx h
  obtain ⟨κ, ds, μ, rd, so, ho⟩ := h
  unfold vInt at ho
  split at ho
  · obtain ⟨v, rfl, r1⟩ := relL1 rd
    simp only [Rel] at r1
    subst r1
    exact call_int1 pins s σ H _ us Q I rx (.inl ⟨_, rfl, rOut.flat so ho (by simp [Rel])⟩)
  · obtain ⟨v, rfl, r1⟩ := relL1 rd
    simp only [Rel] at r1
    subst r1
    exact call_int1 pins s σ H _ us Q I rx (.inr ⟨_, rfl, rOut.flat so ho (by simp [Rel])⟩)
  · rename_i a
    obtain ⟨v, rfl, r1⟩ := relL1 rd
    simp only [Rel] at r1
    subst r1
    split at ho
    · rename_i hz
      cases hn : PySem.intText? a with
      | none => rw [hn] at ho; exact ho.elim
      | some n =>
        rw [hn] at ho
        exact call_int_str pins s σ H _ us Q I rx ⟨a, n, rfl, hn, by simpa using hz, rOut.flat so ho (by simp [Rel])⟩
    · exact ho.elim
  · exact ho.elim
def vStr : VN := fun ds _ => match ds with
  | [.int i] => if decide (i.natAbs.log2 < 1920) = true then some (.str (toString i)) else none
  | _ => none
theorem cStr : CallR X (.type "str") (rN g vStr) := by
  intro pins s σ H xs us Q I rx h
  obtain ⟨κ, ds, μ, rd, so, ho⟩ := h
  unfold vStr at ho
  split at ho
  · obtain ⟨v, rfl, r1⟩ := relL1 rd
    simp only [Rel] at r1
    subst r1
    split at ho
    · rename_i hz
      exact call_str_int pins s σ H _ us Q I rx ⟨_, rfl, by simpa using hz, rOut.flat so ho (by simp [Rel])⟩
    · exact ho.elim
  · exact ho.elim
/-- list(x), of a list, a tuple -/
def signsD (z : Str) : List DV := z.cps.toList.map fun c => .str ⟨#[c]⟩
def signsV (z : Str) : List V := z.cps.toList.map fun c => .str ⟨#[c]⟩
theorem signs_rel {g : Gc} {κ : KA} {H : Hp} : ∀ (cs : List Nat), RelL g κ H (cs.map fun c => DV.str ⟨#[c]⟩) (cs.map fun c => V.str ⟨#[c]⟩)
  | [] => RelL.nil
  | _ :: cs => RelL.cons (by simp only [Rel]) (signs_rel cs)
theorem vals_signs {z : Str} {acc : Array Value} (h : ItemsOf (SignAt z) acc z.cps.size) : Vals (signsV z) acc.toList := by
  refine vals_of_at (by unfold signsV; rw [List.length_map, Array.length_toList, Array.length_toList, h.1]) fun j x u h1 h2 => ?_
  obtain ⟨c, t, e1, e2⟩ := h.2 j u (by rw [← Array.getElem?_toList]; exact h2)
  unfold signsV at h1
  rw [List.getElem?_map, Array.getElem?_toList, e1] at h1
  cases h1
  subst e2
  exact ⟨t, rfl⟩
def vList : VN := fun ds μ => match ds with
  | [.str z] => if okLen z.cps.size = true then some (.lst (signsD z)) else none
  | [.tup xs] => some (.lst xs)
  | [d] => match seqOf μ d with
    | some xs => some (.lst xs)
    | none => none
  | _ => none
theorem cList (xg : XG g X) (hc : X.calm = true) : CallR X (.type "list") (rN g vList) := by
  intro pins s σ H xs us Q I rx h
  obtain ⟨κ, ds, μ, rd, so, ho⟩ := h
  unfold vList at ho
  split at ho
  · rename_i z
    obtain ⟨v, rfl, r1⟩ := relL1 rd
    simp only [Rel] at r1
    subst r1
    split at ho
    · rename_i hz
      have hz' := okLen_iff.mp hz
      obtain ⟨u, rfl, rz⟩ := vals1 rx
      obtain ⟨t, rfl⟩ := rz
      refine call_list_str (I.ok.hd hc) z t (fun h' tk acc' c' kp e hi => ?_) hz'
      refine ⟨.ref s.heap.objs.size, _, I.laid kp (Nat.le_refl _) (show ObjOk X.prog X.w _ h' _ (.lst (signsV z)) from ⟨?_, acc'.toList, c', vals_signs hi, ?_⟩), rfl, rOut.newL so ho (signs_rel z.cps.toList) (I.hok.fresh (Nat.le_refl _))⟩
      · unfold signsV; rw [List.length_map, Array.length_toList]; exact hz'
      · rw [Array.toArray_toList]; exact e
    · exact ho.elim
  · obtain ⟨v, rfl, r1⟩ := relL1 rd
    obtain ⟨a, vs, rfl, h1, h2⟩ := tup_rel r1
    exact call_list_of pins s σ H _ us Q I rx ⟨a, vs, rfl, .inr (by rw [xg.K]; exact h1), fun l hl => rOut.newL so ho h2 hl⟩
  · obtain ⟨v, rfl, r1⟩ := relL1 rd
    split at ho
    · rename_i ys hy
      obtain ⟨a, vs, rfl, h1, h2⟩ := seqOf_rel so r1 hy
      exact call_list_of pins s σ H _ us Q I rx ⟨a, vs, rfl, .inl (by rw [xg.K]; exact h1), fun l hl => rOut.newL so ho h2 hl⟩
    · exact ho.elim
  · exact ho.elim
def vTuple : VN := fun ds μ => match ds with
  | [.tup xs] => some (.tup xs)
  | [d] => match seqOf μ d with
    | some xs => some (.tup xs)
    | none => none
  | _ => none
theorem cTuple (xg : XG g X) : CallR X (.type "tuple") (rN g vTuple) := by
  intro pins s σ H xs us Q I rx h
  obtain ⟨κ, ds, μ, rd, so, ho⟩ := h
  unfold vTuple at ho
  split at ho
  · obtain ⟨v, rfl, r1⟩ := relL1 rd
    obtain ⟨a, vs, rfl, h1, h2⟩ := tup_rel r1
    exact call_tuple_of pins s σ H _ us Q I rx ⟨a, vs, rfl, .inr ⟨by rw [xg.K]; exact h1, rOut.flat so ho r1⟩⟩
  · obtain ⟨v, rfl, r1⟩ := relL1 rd
    split at ho
    · rename_i ys hy
      obtain ⟨a, vs, rfl, h1, h2⟩ := seqOf_rel so r1 hy
      exact call_tupleF pins s σ H _ us Q I rx ⟨a, vs, rfl, by rw [xg.K]; exact h1, fun l ob hl hd => rOut.newT so ho h2 hl hd⟩
    · exact ho.elim
  · exact ho.elim
def asBs : List DV → Option (List Bool)
  | [] => some []
  | .bl b :: r => (asBs r).map (b :: ·)
  | _ => none
def asIs : List DV → Option (List Int)
  | [] => some []
  | .int i :: r => (asIs r).map (i :: ·)
  | _ => none
def asSs : List DV → Option (List Str)
  | [] => some []
  | .str i :: r => (asSs r).map (i :: ·)
  | _ => none
theorem asBs_rel {κ : KA} {H : Hp} : ∀ {xs : List DV} {vs : List V} {bs : List Bool}, RelL g κ H xs vs → asBs xs = some bs → vs = bs.map V.bl
  | [], _, _, r, h => by cases r.of_nil; cases h; rfl
  | x :: xs, _, bs, r, h => by
    obtain ⟨v, r', rfl, h1, h2⟩ := r.of_cons
    cases x with
    | bl b =>
      simp only [asBs, Option.map_eq_some_iff] at h
      obtain ⟨cs, h3, rfl⟩ := h
      simp only [Rel] at h1
      subst h1
      rw [asBs_rel h2 h3]; rfl
    | _ => cases h
theorem asIs_rel {κ : KA} {H : Hp} : ∀ {xs : List DV} {vs : List V} {bs : List Int}, RelL g κ H xs vs → asIs xs = some bs → vs = bs.map V.int
  | [], _, _, r, h => by cases r.of_nil; cases h; rfl
  | x :: xs, _, bs, r, h => by
    obtain ⟨v, r', rfl, h1, h2⟩ := r.of_cons
    cases x with
    | int b =>
      simp only [asIs, Option.map_eq_some_iff] at h
      obtain ⟨cs, h3, rfl⟩ := h
      simp only [Rel] at h1
      subst h1
      rw [asIs_rel h2 h3]; rfl
    | _ => cases h
theorem asSs_rel {κ : KA} {H : Hp} : ∀ {xs : List DV} {vs : List V} {bs : List Str}, RelL g κ H xs vs → asSs xs = some bs → vs = bs.map V.str
  | [], _, _, r, h => by cases r.of_nil; cases h; rfl
  | x :: xs, _, bs, r, h => by
    obtain ⟨v, r', rfl, h1, h2⟩ := r.of_cons
    cases x with
    | str b =>
      simp only [asSs, Option.map_eq_some_iff] at h
      obtain ⟨cs, h3, rfl⟩ := h
      simp only [Rel] at h1
      subst h1
      rw [asSs_rel h2 h3]; rfl
    | _ => cases h
def vAll : VN := fun ds μ => match ds with
  | [d] => match seqOf μ d with
    | some xs => (asBs xs).map fun bs => .bl (bs.all id)
    | none => none
  | _ => none
def vAny : VN := fun ds μ => match ds with
  | [d] => match seqOf μ d with
    | some xs => (asBs xs).map fun bs => .bl (bs.any id)
    | none => none
  | _ => none
theorem cAll (xg : XG g X) (hc : X.calm = true) : CallR X (.builtin "all") (rN g vAll) := by
  intro pins s σ H xs us Q I rx h
  obtain ⟨κ, ds, μ, rd, so, ho⟩ := h
  unfold vAll at ho
  split at ho
  · obtain ⟨v, rfl, r1⟩ := relL1 rd
    split at ho
    · rename_i ys hy
      obtain ⟨a, vs, rfl, h1, h2⟩ := seqOf_rel so r1 hy
      cases hb : asBs ys with
      | none => rw [hb] at ho; exact ho.elim
      | some bs =>
        rw [hb] at ho
        have e := asBs_rel h2 hb
        subst e
        exact cr_all hc pins s σ H _ us Q I rx ⟨a, bs, rfl, by rw [xg.K]; exact h1, rOut.flat so ho (by simp [Rel])⟩
    · exact ho.elim
  · exact ho.elim
theorem cAny (xg : XG g X) (hc : X.calm = true) : CallR X (.builtin "any") (rN g vAny) := by
  intro pins s σ H xs us Q I rx h
  obtain ⟨κ, ds, μ, rd, so, ho⟩ := h
  unfold vAny at ho
  split at ho
  · obtain ⟨v, rfl, r1⟩ := relL1 rd
    split at ho
    · rename_i ys hy
      obtain ⟨a, vs, rfl, h1, h2⟩ := seqOf_rel so r1 hy
      cases hb : asBs ys with
      | none => rw [hb] at ho; exact ho.elim
      | some bs =>
        rw [hb] at ho
        have e := asBs_rel h2 hb
        subst e
        exact cr_any hc pins s σ H _ us Q I rx ⟨a, bs, rfl, by rw [xg.K]; exact h1, rOut.flat so ho (by simp [Rel])⟩
    · exact ho.elim
  · exact ho.elim
def vSum : VN := fun ds μ => match ds with
  | [d] => match seqOf μ d with
    | some xs => (asIs xs).map fun bs => .int bs.sum
    | none => none
  | _ => none
theorem cSum (xg : XG g X) (hc : X.calm = true) : CallR X (.builtin "sum") (rN g vSum) := by
  intro pins s σ H xs us Q I rx h
  obtain ⟨κ, ds, μ, rd, so, ho⟩ := h
  unfold vSum at ho
  split at ho
  · obtain ⟨v, rfl, r1⟩ := relL1 rd
    split at ho
    · rename_i ys hy
      obtain ⟨a, vs, rfl, h1, h2⟩ := seqOf_rel so r1 hy
      cases hb : asIs ys with
      | none => rw [hb] at ho; exact ho.elim
      | some bs =>
        rw [hb] at ho
        have e := asIs_rel h2 hb
        subst e
        exact cr_sum hc pins s σ H _ us Q I rx ⟨a, bs, rfl, by rw [xg.K]; exact h1, rOut.flat so ho (by simp [Rel])⟩
    · exact ho.elim
  · exact ho.elim

/-! ### isinstance against built-in types -/
def tyOf (μ : Sto) : DV → Option T7
  | .non => some .non
  | .bl _ => some .bl
  | .int _ => some .int
  | .str _ => some .str
  | .tup _ => some .tup
  | .lst _ => some .lst
  | .scr _ => some .lst
  | .dct _ _ => some .dct
  | .cell i => match μ[i]? with
    | some (.lst _) => some .lst
    | _ => none
  | _ => none
def T7.sub (a b : T7) : Bool := decide (a = b) || (decide (a = .bl) && decide (b = .int))
theorem kit7 (a b : T7) : kitB a.name b.name = some (a.sub b) := by
  cases a <;> cases b <;> decide +kernel
theorem tyX_of {κ : KA} {H : Hp} {μ : Sto} {d : DV} {v : V} {t : T7} (so : StoOk g κ H μ) (r : Rel g κ H d v) (h : tyOf μ d = some t) : TyX g.K H v (.type t.name) := by
  cases d with
  | non => cases h; simp only [Rel] at r; subst r; exact .base .non
  | bl b => cases h; simp only [Rel] at r; subst r; exact .base (.bl b)
  | int b => cases h; simp only [Rel] at r; subst r; exact .base (.int b)
  | str b => cases h; simp only [Rel] at r; subst r; exact .base (.str b)
  | tup xs =>
    cases h
    simp only [Rel] at r
    obtain ⟨a, vs, rfl, h2, h3⟩ := r
    rcases h2 with ⟨ob, _, h2⟩ | ⟨o, its, n, h4, h5, _⟩
    · exact .fTuple h2.1
    · exact .kTuple h4 h5
  | lst xs =>
    cases h
    simp only [Rel] at r
    obtain ⟨a, vs, rfl, h2, h3⟩ := r
    exact .base (.lst h2.1)
  | scr xs =>
    cases h
    simp only [Rel] at r
    obtain ⟨a, vs, rfl, h2, h3⟩ := r
    rcases h2 with h2 | ⟨ob, h2⟩ | ⟨o, its, n, h4, h5, _⟩
    · exact .base (.lst h2.1)
    · exact .base (.frz h2.1)
    · exact .kList h4 h5
  | dct ks xs =>
    cases h
    simp only [Rel] at r
    obtain ⟨a, vs, rfl, h2, h3⟩ := r
    exact .base (.dK h2.1)
  | cell i =>
    simp only [tyOf] at h
    cases ec : μ[i]? with
    | none => rw [ec] at h; cases h
    | some c =>
      rw [ec] at h
      cases c with
      | lst xs =>
        cases h
        obtain ⟨a, vs, rfl, h1, h2⟩ := lstOf_rel (xs := xs) so r (by simp only [lstOf, ec])
        exact .base (.lst h1)
      | _ => cases h
  | _ => cases h
def asTys : List DV → Option (List T7)
  | [] => some []
  | .ty t :: r => (asTys r).map (t :: ·)
  | _ => none
def vIsi : VN := fun ds μ => match ds with
  | [d, .ty t] => (tyOf μ d).map fun a => .bl (a.sub t)
  | [d, .tup cs] => match tyOf μ d, asTys cs with
    | some a, some ts => some (.bl (ts.any fun t => a.sub t))
    | _, _ => none
  | _ => none
theorem asTys_rel {κ : KA} {H : Hp} : ∀ {xs : List DV} {vs : List V} {ts : List T7}, RelL g κ H xs vs → asTys xs = some ts → Paired ClsV vs (ts.map fun t => Value.type t.name)
  | [], _, _, r, h => by cases r.of_nil; cases h; exact .nil
  | x :: xs, _, ts, r, h => by
    obtain ⟨v, r', rfl, h1, h2⟩ := r.of_cons
    cases x with
    | ty t =>
      simp only [asTys, Option.map_eq_some_iff] at h
      obtain ⟨cs, h3, rfl⟩ := h
      simp only [Rel] at h1
      subst h1
      exact .cons (.ty _) (asTys_rel h2 h3)
    | _ => cases h
theorem kitAny7 {K : PySem.W.Frag} (a : T7) : ∀ ts : List T7, PySem.W.kitAny K (.type a.name) (ts.map fun t => Value.type t.name) = some (ts.any fun t => a.sub t)
  | [] => kitAny_nil
  | t :: ts => by
    rw [List.map_cons, List.any_cons]
    refine kitAny_cons (kit_ty (kit7 a t)) (fun h => ?_) (fun h => by rw [h, Bool.true_or])
    rw [h, Bool.false_or]
    exact kitAny7 a ts
theorem cIsi (xg : XG g X) : CallR X (.builtin "isinstance") (rN g vIsi) := by
  intro pins s σ H xs us Q I rx h
  obtain ⟨κ, ds, μ, rd, so, ho⟩ := h
  unfold vIsi at ho
  split at ho
  · rename_i d t
    obtain ⟨v, w', rfl, r1, r2⟩ := relL2 rd
    simp only [Rel] at r2
    subst r2
    cases ht : tyOf μ d with
    | none => rw [ht] at ho; exact ho.elim
    | some a =>
      rw [ht] at ho
      exact call_isi pins s σ H _ us Q I rx ⟨v, _, _, _, _, rfl, .ty _, by rw [xg.K]; exact tyX_of so r1 ht, kit_ty (kit7 a t), rOut.flat so ho (by simp [Rel])⟩
  · rename_i d cs
    obtain ⟨v, w', rfl, r1, r2⟩ := relL2 rd
    cases ht : tyOf μ d with
    | none => rw [ht] at ho; exact ho.elim
    | some a =>
      cases hc : asTys cs with
      | none => rw [ht, hc] at ho; exact ho.elim
      | some ts =>
        rw [ht, hc] at ho
        simp only [Rel] at r2
        obtain ⟨p, vs, rfl, h2, h3⟩ := r2
        have ty : TyX X.K H v (.type a.name) := by rw [xg.K]; exact tyX_of so r1 ht
        exact call_isiS pins s σ H _ us Q I rx ⟨v, p, vs, _, _, _, rfl, by rw [xg.K]; exact h2.sq, asTys_rel h3 hc, ty, kitAny7 a ts, rOut.flat so ho (by simp [Rel])⟩
  · exact ho.elim

/-! ### methods of lists -/
/-- a cell that is a list, at its place -/
theorem cell_at {κ : KA} {H : Hp} {μ : Sto} {i : Nat} {v : V} {xs : List DV} (so : StoOk g κ H μ) (r : Rel g κ H (.cell i) v) (h : μ[i]? = some (.lst xs)) : ∃ p vs, v = .ref p ∧ κ.cs[i]? = some (some p) ∧ H p = some (.lst vs) ∧ RelL g κ H xs vs := by
  simp only [Rel] at r
  obtain ⟨o, h1, h2⟩ := so.at_ i _ h
  obtain ⟨p, vs, rfl, h3, h4⟩ := h2
  exact ⟨p, vs, r.2 p h1, h1, h3, h4⟩
theorem rOutS.write {κ : KA} {H : Hp} {μ : Sto} {i : Nat} {p : Addr} {z : DV} {xs : List DV} {vs : List V} {w : V} {Q : VK} (so : StoOk g κ H μ) (hi : κ.cs[i]? = some (some p)) (r : RelL g κ H xs vs) (rz : Rel g κ H z w) (h : rOutS g κ H (some (z, μ.set i (.lst xs))) Q) : Q w (upd H p (.lst vs)) := by
  have e := Ext.write (o := .lst vs) so hi
  exact h κ _ e (so.write hi ⟨p, vs, rfl, upd_same, r.ext e⟩) w (rz.ext e)
def mAppend : VM := fun d ds μ => match d, ds with
  | .cell i, [y] => match μ[i]? with
    | some (.lst xs) => if okLen (xs.length + 1) = true then some (.non, μ.set i (.lst (xs ++ [y]))) else none
    | _ => none
  | _, _ => none
theorem mtAppend : MtR X "list.append" (rM g mAppend) := by
  intro pins s σ H x xs v us Q I rx rs h
  obtain ⟨κ, d, ds, μ, rd, rds, so, ho⟩ := h
  unfold mAppend at ho
  split at ho
  · rename_i i y
    obtain ⟨w', rfl, ry⟩ := relL1 rds
    split at ho
    · rename_i ys hy
      split at ho
      · rename_i hz
        have hz := okLen_iff.mp hz
        obtain ⟨p, vs, rfl, h1, h2, h3⟩ := cell_at so rd hy
        exact mt_append pins s σ H _ _ v us Q I rx rs ⟨p, vs, w', rfl, rfl, h2, by rw [← h3.length]; omega, ho.write so h1 (h3.append (RelL.cons ry RelL.nil)) (by simp [Rel])⟩
      · exact ho.elim
    · exact ho.elim
  · exact ho.elim
def mInsert : VM := fun d ds μ => match d, ds with
  | .cell i, [.int k, y] => match μ[i]? with
    | some (.lst xs) => if (okLen (xs.length + 1) && (decide (0 ≤ k) && decide (k < 2 ^ 63))) = true then some (.non, μ.set i (.lst (xs.take k.toNat ++ [y] ++ xs.drop k.toNat))) else none
    | _ => none
  | _, _ => none
theorem mtInsert : MtR X "list.insert" (rM g mInsert) := by
  intro pins s σ H x xs v us Q I rx rs h
  obtain ⟨κ, d, ds, μ, rd, rds, so, ho⟩ := h
  unfold mInsert at ho
  split at ho
  · rename_i i k y
    obtain ⟨w1, w', rfl, r1, ry⟩ := relL2 rds
    simp only [Rel] at r1
    subst r1
    split at ho
    · rename_i ys hy
      split at ho
      · rename_i hz
        simp only [Bool.and_eq_true, decide_eq_true_eq, okLen_iff] at hz
        obtain ⟨p, vs, rfl, h1, h2, h3⟩ := cell_at so rd hy
        exact mt_insert pins s σ H _ _ v us Q I rx rs ⟨p, vs, k, w', rfl, rfl, h2, by rw [← h3.length]; omega, hz.2.1, hz.2.2,
          ho.write so h1 (((RelL.take _ h3).append (RelL.cons ry RelL.nil)).append (RelL.drop _ h3)) (by simp [Rel])⟩
      · exact ho.elim
    · exact ho.elim
  · exact ho.elim
theorem RelL.dropLast' {κ : KA} {H : Hp} {xs : List DV} {vs : List V} (r : RelL g κ H xs vs) : RelL g κ H xs.dropLast vs.dropLast := by
  rw [List.dropLast_eq_take, List.dropLast_eq_take, r.length]
  exact RelL.take _ r
def mPop : VM := fun d ds μ => match d, ds with
  | .cell i, [] => match μ[i]? with
    | some (.lst xs) => match xs[xs.length - 1]? with
      | some y => some (y, μ.set i (.lst xs.dropLast))
      | none => none
    | _ => none
  | _, _ => none
theorem mtPop : MtR X "list.pop" (rM g mPop) := by
  intro pins s σ H x xs v us Q I rx rs h
  obtain ⟨κ, d, ds, μ, rd, rds, so, ho⟩ := h
  unfold mPop at ho
  split at ho
  · rename_i i
    cases rds.of_nil
    split at ho
    · rename_i ys hy
      split at ho
      · rename_i y hl
        obtain ⟨p, vs, rfl, h1, h2, h3⟩ := cell_at so rd hy
        obtain ⟨w', h4, h5⟩ := h3.get hl
        exact mt_pop pins s σ H _ _ v us Q I rx rs ⟨p, vs, w', rfl, rfl, h2, by rw [← h3.length]; exact h4, ho.write so h1 (RelL.dropLast' h3) h5⟩
      · exact ho.elim
    · exact ho.elim
  · exact ho.elim
/-- xs[i] = e -/
theorem ixN_lt {n : Nat} {i : Int} {j : Nat} (h : ixN n i = some j) : j < n := (ixN_seq h).2.1
def sSetIx (e o i : DE) : DS := fun ρ μ => (e ρ μ).toS ρ fun y μ1 => (o ρ μ1).toS ρ fun d μ2 => (i ρ μ2).toS ρ fun k μ3 => match d, k with
  | .cell c, .int k => match μ3[c]? with
    | some (.lst xs) => match ixN xs.length k with
      | some j => .nx ρ (μ3.set c (.lst (xs.set j y)))
      | none => .stuck
    | _ => .stuck
  | _, _ => .stuck
theorem gs_setIx {W : WX} {e o i : Expr} {fe fo fi : DE} {pos pos' : Pos} (he : GE g W X e fe) (ho : GE g W X o fo) (hi : GE g W X i fi)
    (ha : ∀ v, assign (.Subscript o i pos') X.env v = (do
      let ov ← holding [v] (eval o X.env)
      let iv ← holding [v, ov] (eval i X.env)
      standAt pos'
      holding [v, ov, iv] (setItem ov iv v)
      release [v, ov, iv] []) := by intro _; rfl)
    (hs : swapsWithSole [.Subscript o i pos'] e pos.line X.env = pure false := by rfl) (hw : swappedStores [.Subscript o i pos'] e X.env = pure none := by rfl)
    (h1 : (assignEach [.Subscript o i pos'] X.env).map (·.2) = [assign (.Subscript o i pos') X.env] := by rfl) : GS g W X (.Assign [.Subscript o i pos'] e pos) (sSetIx fe fo fi) :=
  PS.imp (ps_asg he (pg_sub ho hi set_list ha) hs hw h1) fun D σ H q => by
  obtain ⟨κ, ρ, μ, he, hs, hw⟩ := q
  refine ⟨κ, ρ, μ, he, hs, (wpS.bind he hw).mono fun y μ1 κ1 H1 e1 s1 h1 v rv => ?_⟩
  refine ⟨κ1, ρ, μ1, he.ext e1, s1, (wpS.bind (he.ext e1) h1).mono fun d μ2 κ2 H2 e2 s2 h2 w' rw' => ?_⟩
  refine ⟨κ2, ρ, μ2, (he.ext e1).ext e2, s2, (wpS.bind ((he.ext e1).ext e2) h2).mono fun k μ3 κ3 H3 e3 s3 h3 z rz => ?_⟩
  split at h3
  · rename_i c k
    split at h3
    · rename_i xs hx
      split at h3
      · rename_i j hj
        obtain ⟨p, vs, rfl, h4, h5, h6⟩ := cell_at s3 (rw'.ext e3) hx
        simp only [Rel] at rz
        subst rz
        have ry := rv.ext (e2.trans e3)
        have ex := Ext.write (o := .lst (vs.set j v)) s3 h4
        refine ⟨p, vs, k, j, rfl, rfl, h5, by rw [← h6.length]; exact hj, ?_⟩
        exact h3 κ3 _ σ ex (s3.write h4 ⟨p, _, rfl, upd_same, (RelL.set ry j h6).ext ex⟩) ((((he.ext e1).ext e2).ext e3).ext ex)
      · exact h3.elim
    · exact h3.elim
  · exact h3.elim

/-! ### methods of texts -/
theorem outS_flat {κ : KA} {H : Hp} {μ : Sto} {z : DV} {w : V} {Q : VK} (so : StoOk g κ H μ) (h : rOutS g κ H (some (z, μ)) Q) (r : Rel g κ H z w) : Q w H := h κ H Ext.refl so w r
def mJoin : VM := fun d ds μ => match d, ds with
  | .str a, [.tup xs] => (asSs xs).bind fun ys => if decide ((ys.map (·.length)).sum + ys.length * a.length ≤ 16777216) = true then some (.str (Txt.join a ys), μ) else none
  | .str a, [e] => match seqOf μ e with
    | some xs => (asSs xs).bind fun ys => if decide ((ys.map (·.length)).sum + ys.length * a.length ≤ 16777216) = true then some (.str (Txt.join a ys), μ) else none
    | none => none
  | _, _ => none
theorem mtJoin (xg : XG g X) : MtR X "str.join" (rM g mJoin) := by
  intro pins s σ H x xs v us Q I rx rs h
  obtain ⟨κ, d, ds, μ, rd, rds, so, ho⟩ := h
  unfold mJoin at ho
  split at ho
  · rename_i a zs
    obtain ⟨w', rfl, ry⟩ := relL1 rds
    simp only [Rel] at rd
    subst rd
    obtain ⟨p, vs, rfl, h1, h2⟩ := tup_rel ry
    cases hb : asSs zs with
    | none => rw [hb] at ho; exact ho.elim
    | some ys =>
      rw [hb] at ho
      simp only [Option.bind_some] at ho
      split at ho
      · rename_i hz
        have e := asSs_rel h2 hb
        subst e
        exact mt_join pins s σ H _ _ v us Q I rx rs ⟨a, p, ys, rfl, rfl, .inr (by rw [xg.K]; exact h1), by simpa using hz, outS_flat so ho (by simp [Rel])⟩
      · exact ho.elim
  · rename_i a e _
    obtain ⟨w', rfl, ry⟩ := relL1 rds
    simp only [Rel] at rd
    subst rd
    split at ho
    · rename_i zs hx
      obtain ⟨p, vs, rfl, h1, h2⟩ := seqOf_rel so ry hx
      cases hb : asSs zs with
      | none => rw [hb] at ho; exact ho.elim
      | some ys =>
        rw [hb] at ho
        simp only [Option.bind_some] at ho
        split at ho
        · rename_i hz
          have e := asSs_rel h2 hb
          subst e
          exact mt_join pins s σ H _ _ v us Q I rx rs ⟨a, p, ys, rfl, rfl, .inl (by rw [xg.K]; exact h1), by simpa using hz, outS_flat so ho (by simp [Rel])⟩
        · exact ho.elim
    · exact ho.elim
  · exact ho.elim
def mUpper : VM := fun d ds μ => match d, ds with
  | .str a, [] => if decide (a.length ≤ 5592405) = true then some (.str (Txt.upper a), μ) else none
  | _, _ => none
theorem mtUpper : MtR X "str.upper" (rM g mUpper) := by
  intro pins s σ H x xs v us Q I rx rs h
  obtain ⟨κ, d, ds, μ, rd, rds, so, ho⟩ := h
  unfold mUpper at ho
  split at ho
  · simp only [Rel] at rd
    subst rd
    cases rds.of_nil
    split at ho
    · rename_i hz
      exact mt_upper pins s σ H _ _ v us Q I rx rs ⟨_, rfl, rfl, by simpa using hz, outS_flat so ho (by simp [Rel])⟩
    · exact ho.elim
  · exact ho.elim
def mLstrip : VM := fun d ds μ => match d, ds with
  | .str a, [.str b] => if okLen a.length = true then some (.str (Txt.lstripChars a b), μ) else none
  | _, _ => none
theorem mtLstrip : MtR X "str.lstrip" (rM g mLstrip) := by
  intro pins s σ H x xs v us Q I rx rs h
  obtain ⟨κ, d, ds, μ, rd, rds, so, ho⟩ := h
  unfold mLstrip at ho
  split at ho
  · simp only [Rel] at rd
    subst rd
    obtain ⟨w', rfl, ry⟩ := relL1 rds
    simp only [Rel] at ry
    subst ry
    split at ho
    · rename_i hz
      exact mt_lstripChars pins s σ H _ _ v us Q I rx rs ⟨_, _, rfl, rfl, okLen_iff.mp hz, outS_flat so ho (by simp [Rel])⟩
    · exact ho.elim
  · exact ho.elim
end
end SD

set_option Elab.async false
set_option linter.all false
set_option maxRecDepth 100000
set_option maxHeartbeats 4000000
/-! SD, eighth part: dict displays. -/
namespace SD
open PySem PySem.Spec PyProof.Rows L2
section
variable {g : Gc} {W : WX} {X : Cx} {pos : Pos}
def eDct0 : DE := fun _ μ => .ok (.dct [] []) μ
theorem ge_dct0 : GE g W X (.Dict [] [] pos) eDct0 := PE.imp pe_dnewK fun σ H Q q => by
  obtain ⟨κ, ρ, μ, he, hs, hw⟩ := q
  intro p hp
  refine hw κ _ (Ext.new hs hp) (hs.new hp) (.ref p) ?_
  simp only [Rel]
  exact ⟨p, [], rfl, ⟨upd_same, hs.fresh hp⟩, rfl, RelL.nil⟩
def evPs : List (DE × DE) → En → Sto → R (List (DV × DV))
  | [], _, μ => .ok [] μ
  | (k, v) :: r, ρ, μ => (k ρ μ).bind fun x μ1 => (v ρ μ1).bind fun y μ2 => (evPs r ρ μ2).bind fun ps μ3 => .ok ((x, y) :: ps) μ3
def asKey : DV → Option Key
  | .int i => some (.inl i)
  | .str x => some (.inr x)
  | _ => none
def asKeys : List (DV × DV) → Option (List Key)
  | [] => some []
  | (k, _) :: r => match asKey k, asKeys r with
    | some k, some ks => some (k :: ks)
    | _, _ => none
def nodupB : List Key → Bool
  | [] => true
  | k :: ks => !(ks.any fun j => decide (j = k)) && nodupB ks
/-- {k: v, ..}, frozen, its keys ints and texts, all different -/
def eDct (ps : List (DE × DE)) : DE := fun ρ μ => (evPs ps ρ μ).bind fun kvs μ1 => match asKeys kvs with
  | some ks => if (decide (kvs.length ≤ 15) && nodupB ks) = true then .ok (.dct ks (kvs.map (·.2))) μ1 else .stuck
  | none => .stuck
theorem putK_new {kvs : List (Key × V)} {k : Key} {v : V} (h : (kvs.any fun kv => decide (kv.1 = k)) = false) : putK kvs k v = kvs ++ [(k, v)] := by
  unfold putK
  rw [if_neg (by rw [h]; exact Bool.false_ne_true)]
theorem mergeK_nodup : ∀ (more kvs : List (Key × V)), (∀ p ∈ more, ∀ q ∈ kvs, q.1 ≠ p.1) → nodupB (more.map (·.1)) = true → mergeK kvs more = kvs ++ more
  | [], kvs, _, _ => by simp [mergeK]
  | p :: more, kvs, h, hn => by
    simp only [List.map_cons, nodupB, Bool.and_eq_true, Bool.not_eq_true'] at hn
    have h1 : mergeK kvs (p :: more) = mergeK (putK kvs p.1 p.2) more := rfl
    rw [h1, putK_new (by
      rw [List.any_eq_false]
      intro q hq
      simpa using h p (by simp) q hq)]
    rw [mergeK_nodup more (kvs ++ [(p.1, p.2)]) (fun q hq r hr => ?_) hn.2]
    · simp
    · rcases List.mem_append.mp hr with hr | hr
      · exact h q (List.mem_cons_of_mem _ hq) r hr
      · have : r = (p.1, p.2) := by simpa using hr
        subst this
        intro e
        have := List.any_eq_false.mp hn.1 q.1 (List.mem_map_of_mem hq)
        simp at this
        exact this e.symm
structure GPs (g : Gc) (W : WX) (X : Cx) (pos : Pos) (keys : List (Option Expr)) (values : List Expr) (ps : List (DE × DE)) : Prop where
  ok : PPs X pos keys values (ps.map fun p => (tE g W p.1, tE g W p.2))
  all : keys.all (·.isSome) = true
  len : keys.length = values.length
  few : keys.length = ps.length
theorem gps_nil : GPs g W X pos [] [] [] := ⟨pps_nil, rfl, rfl, rfl⟩
theorem gps_cons {k v : Expr} {fk fv : DE} {ks : List (Option Expr)} {vs : List Expr} {ps : List (DE × DE)} (hk : GE g W X k fk) (hv : GE g W X v fv) (hr : GPs g W X pos ks vs ps) : GPs g W X pos (some k :: ks) (v :: vs) ((fk, fv) :: ps) :=
  ⟨pps_cons hk hv hr.ok, by simp [hr.all], by simp [hr.len], by simp [hr.few]⟩
theorem pairs_read {σ : L2.St} {ρ : En} : ∀ (ps : List (DE × DE)) {κ : KA} {H : Hp} {μ : Sto} {Q : List (V × V) → Hp → Prop}, RelE g κ H ρ σ → StoOk g κ H μ →
    wpR g W σ κ H (evPs ps ρ μ) (fun kvs μ' κ' H' => ∀ xs ys, RelL g κ' H' (kvs.map (·.1)) xs → RelL g κ' H' (kvs.map (·.2)) ys → Q (xs.zip ys) H') → tPairs (ps.map fun p => (tE g W p.1, tE g W p.2)) σ H Q
  | [], κ, H, μ, Q, he, hs, hw => hw κ H Ext.refl hs [] [] RelL.nil RelL.nil
  | (k, v) :: ps, κ, H, μ, Q, he, hs, hw => by
    refine ⟨κ, ρ, μ, he, hs, (wpR.bind (show wpR g W σ κ H ((k ρ μ).bind fun x μ1 => (v ρ μ1).bind fun y μ2 => (evPs ps ρ μ2).bind fun ps μ3 => .ok ((x, y) :: ps) μ3) _ from hw)).mono fun x μ1 κ1 H1 e1 s1 h1 vx rx => ?_⟩
    refine ⟨κ1, ρ, μ1, he.ext e1, s1, h1.bind.mono fun y μ2 κ2 H2 e2 s2 h2 vy ry => ?_⟩
    refine pairs_read ps ((he.ext e1).ext e2) s2 (h2.bind.mono fun kvs μ3 κ3 H3 e3 s3 h3 xs ys r1 r2 => ?_)
    exact h3 κ3 H3 Ext.refl s3 (vx :: xs) (vy :: ys) (RelL.cons (rx.ext (e2.trans e3)) r1) (RelL.cons (ry.ext e3) r2)
theorem asKeys_rel {κ : KA} {H : Hp} : ∀ {kvs : List (DV × DV)} {ks : List Key} {xs : List V}, asKeys kvs = some ks → RelL g κ H (kvs.map (·.1)) xs → xs = ks.map kV ∧ ks.length = kvs.length
  | [], _, _, h, r => by cases h; cases r.of_nil; exact ⟨rfl, rfl⟩
  | (k, v) :: kvs, ks, xs, h, r => by
    obtain ⟨x, r', rfl, h1, h2⟩ := RelL.of_cons (show RelL g κ H (k :: kvs.map (·.1)) xs from r)
    simp only [asKeys] at h
    cases e1 : asKey k with
    | none => rw [e1] at h; cases h
    | some k' =>
      cases e2 : asKeys kvs with
      | none => rw [e1, e2] at h; cases h
      | some ks' =>
        rw [e1, e2] at h
        cases h
        obtain ⟨h3, h4⟩ := asKeys_rel e2 h2
        refine ⟨?_, by simp [h4]⟩
        rw [h3]
        cases k with
        | int i => cases e1; simp only [Rel] at h1; subst h1; rfl
        | str i => cases e1; simp only [Rel] at h1; subst h1; rfl
        | _ => cases e1
theorem zip_kvs {ks : List Key} {ys : List V} (h : ks.length = ys.length) : (ks.map kV).zip ys = (ks.zip ys).map fun kv => (kV kv.1, kv.2) := by
  induction ks generalizing ys with
  | nil => rfl
  | cons k ks ih =>
    cases ys with
    | nil => cases h
    | cons y ys => simp only [List.map_cons, List.zip_cons_cons]; rw [ih (by simpa using h)]
theorem zip_fst {ks : List Key} {ys : List V} (h : ks.length = ys.length) : (ks.zip ys).map (·.1) = ks := by
  induction ks generalizing ys with
  | nil => rfl
  | cons k ks ih =>
    cases ys with
    | nil => cases h
    | cons y ys => simp only [List.zip_cons_cons, List.map_cons]; rw [ih (by simpa using h)]
theorem ge_dct {keys : List (Option Expr)} {values : List Expr} {ps : List (DE × DE)} (h : GPs g W X pos keys values ps) (h0 : keys ≠ []) (h15 : keys.length ≤ 15) : GE g W X (.Dict keys values pos) (eDct ps) := by
  refine PE.imp (pe_disp h.ok h.all h.len h0 h15) fun σ H Q q => ?_
  obtain ⟨κ, ρ, μ, he, hs, hw⟩ := q
  intro p hp
  have x0 : Ext0 κ H (κ.hide p) (upd H p (.dK [])) := Ext0.hide hp
  have he1 : RelE g (κ.hide p) (upd H p (.dK [])) ρ σ := ⟨he.len, fun i d hd => by
    obtain ⟨v, a1, a2⟩ := he.at_ i d hd
    exact ⟨v, a1, a2.ext0 x0⟩⟩
  refine pairs_read ps he1 (hs.hide hp) ?_
  -- the pairs, with p hidden
  have hb : ∀ (Φ : List (DV × DV) → Sto → KA → Hp → Prop), (∀ kvs μ1, evPs ps ρ μ = .ok kvs μ1 → ∀ κ' H', Ext (κ.hide p) (upd H p (.dK [])) κ' H' → StoOk g κ' H' μ1 → Φ kvs μ1 κ' H') →
      (∀ c ns xs μ1, evPs ps ρ μ = .ex c ns xs μ1 → wpR g W σ (κ.hide p) (upd H p (.dK [])) (.ex c ns xs μ1 : R (List (DV × DV))) Φ) → evPs ps ρ μ ≠ .stuck → wpR g W σ (κ.hide p) (upd H p (.dK [])) (evPs ps ρ μ) Φ := by
    intro Φ h1 h2 h3
    cases e : evPs ps ρ μ with
    | ok a μ1 => exact h1 a μ1 e
    | ex c ns xs μ1 => exact h2 c ns xs μ1 e
    | stuck => exact (h3 e).elim
  have again : ∀ {κ' : KA}, κ'.gh = (κ.hide p).gh → κ' = (KA.mk κ'.cs κ.gh).hide p := fun {κ'} e => by
    obtain ⟨cs, gh⟩ := κ'
    show KA.mk cs gh = KA.mk cs (p :: κ.gh)
    rw [show gh = p :: κ.gh from e]
  have fin : ∀ {κ' : KA} {H' : Hp}, Ext (κ.hide p) (upd H p (.dK [])) κ' H' → Ext κ H (KA.mk κ'.cs κ.gh) H' := fun {κ' H'} e => by
    have k1 := again e.ghs
    have x1 : Ext0 κ H ((KA.mk κ'.cs κ.gh).hide p) H' := by rw [← k1]; exact x0.trans e.toExt0
    refine ⟨x1.trans Ext0.show', rfl, fun a ha nt => ?_⟩
    have : a ≠ p := fun z => by
      obtain ⟨⟨u, hu⟩, _⟩ := hs.gst a ha
      rw [z, hp] at hu; cases hu
    rw [e.ghv a (List.mem_cons_of_mem _ ha) (fun ps => by rw [upd_ne this]; exact nt ps), upd_ne this]
  have hw : wpR g W σ κ H ((evPs ps ρ μ).bind fun kvs μ1 => match asKeys kvs with
    | some ks => if (decide (kvs.length ≤ 15) && nodupB ks) = true then .ok (.dct ks (kvs.map (·.2))) μ1 else .stuck
    | none => .stuck) (fun d _ κ' H' => ∀ v, Rel g κ' H' d v → Q v H') := hw
  refine hb _ (fun kvs μ1 e κ' H' ex so xs ys r1 r2 => ?_) (fun c ns xs μ1 e => ?_) (fun e => by rw [e] at hw; exact hw)
  · rw [e] at hw
    have hw : wpR g W σ κ H (match asKeys kvs with
      | some ks => if (decide (kvs.length ≤ 15) && nodupB ks) = true then R.ok (DV.dct ks (kvs.map (·.2))) μ1 else .stuck
      | none => .stuck) (fun d _ κ' H' => ∀ v, Rel g κ' H' d v → Q v H') := hw
    have hH : H' p = some (.dK []) := by
      rw [ex.ghv p (show p ∈ p :: κ.gh by simp) (fun ps => by rw [upd_same]; exact fun z => by cases z), upd_same]
    refine ⟨hH, ?_⟩
    cases ek : asKeys kvs with
    | none => rw [ek] at hw; exact hw.elim
    | some ks =>
      rw [ek] at hw
      simp only at hw
      split at hw
      · rename_i hz
        simp only [Bool.and_eq_true, decide_eq_true_eq] at hz
        obtain ⟨rfl, hl⟩ := asKeys_rel ek r1
        have hly : ks.length = ys.length := by rw [hl, ← r2.length]; simp
        refine ⟨ks.zip ys, zip_kvs hly, by rw [List.length_zip]; omega, ?_⟩
        rw [mergeK_nodup _ [] (fun _ _ _ h => nomatch h) (by rw [zip_fst hly]; exact hz.2), List.nil_append]
        -- p is filled, then known
        have k1 := again ex.ghs
        have mp : p ∈ κ'.gh := by rw [ex.ghs]; show p ∈ p :: κ.gh; simp
        have xw : Ext0 κ' H' κ' (upd H' p (.dK (ks.zip ys))) := Ext0.write (.inr mp)
        have so2 : StoOk g ((KA.mk κ'.cs κ.gh).hide p) (upd H' p (.dK (ks.zip ys))) μ1 := by rw [← k1]; exact so.fill mp (fun ps => by rw [hH]; exact fun z => by cases z)
        have npg : p ∉ κ.gh := fun m => by
          obtain ⟨⟨u, hu⟩, _⟩ := hs.gst p m
          rw [hp] at hu; cases hu
        have np : ¬ (KA.mk κ'.cs κ.gh).has p := fun m => m.elim (fun m => (so.gst p mp).2 m) npg
        have x2 : Ext κ H (KA.mk κ'.cs κ.gh) (upd H' p (.dK (ks.zip ys))) := by
          have f := fin ex
          have x1 : Ext0 κ H ((KA.mk κ'.cs κ.gh).hide p) (upd H' p (.dK (ks.zip ys))) := by rw [← k1]; exact (x0.trans ex.toExt0).trans xw
          exact ⟨x1.trans Ext0.show', rfl, fun a ha nt => by
            have hap : a ≠ p := fun z => npg (by rw [← z]; exact ha)
            rw [upd_ne hap]; exact f.ghv a ha nt⟩
        refine hw _ _ x2 (so2.show' fun ps => by rw [upd_same]; exact fun z => by cases z) (.ref p) ?_
        simp only [Rel]
        refine ⟨p, ys, rfl, ⟨upd_same, np⟩, hly, ?_⟩
        have r3 : RelL g ((KA.mk κ'.cs κ.gh).hide p) (upd H' p (.dK (ks.zip ys))) (kvs.map (·.2)) ys := by rw [← k1]; exact r2.ext0 xw
        exact r3.ext0 Ext0.show'
      · exact hw.elim
  · rw [e] at hw
    intro κ' H' ex so d vs h1 h2 h3
    have k1 := again ex.ghs
    have so2 : StoOk g ((KA.mk κ'.cs κ.gh).hide p) H' μ1 := by rw [← k1]; exact so
    have h1' : At (KA.mk κ'.cs κ.gh) H' d (.xd (ns.zip vs)) := ⟨h1.1, fun m => h1.2 (m.elim .inl fun m => .inr (by rw [ex.ghs]; exact List.mem_cons_of_mem _ m))⟩
    have h3' : RelL g ((KA.mk κ'.cs κ.gh).hide p) H' xs vs := by rw [← k1]; exact h3
    exact hw _ H' (fin ex) (so2.show' fun ps => by rw [ex.ghv p (show p ∈ p :: κ.gh by simp) (fun ps => by rw [upd_same]; exact fun z => by cases z), upd_same]; exact fun z => by cases z) d vs h1' h2 (h3'.ext0 Ext0.show')
end
end SD

set_option Elab.async false
set_option linter.all false
set_option maxRecDepth 100000
set_option maxHeartbeats 4000000
/-! SD, ninth part: what a printed derivation leans on. -/
namespace SD
open PySem PySem.Spec PyProof.Rows L2
section
variable {g : Gc} {W : WX} {X : Cx} {x : Str} {pos : Pos}
theorem ge_gint {i : Int} (hm : ∃ t, X.mg x = some (.int i t)) (hg : Gl X x) (hd : (x == ("__debug__" : Str)) = false := by decide) : GE g W X (.Name x pos) (eC (.int i)) := by
  obtain ⟨t, h⟩ := hm
  exact ge_c (v := .int i) (pe_glob hg h ⟨t, rfl⟩ hd)
theorem ge_gstr {z : Str} (hm : ∃ t, X.mg x = some (.str z t)) (hg : Gl X x) (hd : (x == ("__debug__" : Str)) = false := by decide) : GE g W X (.Name x pos) (eC (.str z)) := by
  obtain ⟨t, h⟩ := hm
  exact ge_c (v := .str z) (pe_glob hg h ⟨t, rfl⟩ hd)
theorem ge_ty (t : T7) (hm : X.mg x = none) (hg : Gl X x) (hv : bootBuiltins x = some (.type t.name)) (hn : x ≠ "__name__" := by decide) (hd : (x == ("__debug__" : Str)) = false := by decide) : GE g W X (.Name x pos) (eC (.ty t)) :=
  ge_c (v := .ty t.name) (pe_bltn hg hm hv rfl hn hd)
end
theorem hu65 {k : Nat} {A : Around} (r : Room k A) : A.units + 65 < cLine := by have := r.un; omega
theorem hu64 {k : Nat} {A : Around} (r : Room k A) : A.units + 64 < cLine := r.units
/-- the facts of the head, over some heap -/
structure Hd (fa : List He.Fa) (fn : List He.DefD) (K : PySem.W.Frag) (mg : Str → Option Value) : Prop where
  ex : ∃ h : Heap, K.In h ∧ h.Ns mainGlobals mg ∧ He.SaysD fa fn K
section
variable {fa : List He.Fa} {fn : List He.DefD} {K : PySem.W.Frag} {mg : Str → Option Value}
theorem Hd.glo (T : Hd fa fn K mg) (i : Nat) {x : Str} (h : fa[i]? = some (.glo x) := by rfl) : mg x = some (.ref (He.ga K x)) := by
  obtain ⟨_, X, G, c⟩ := T.ex
  exact He.glo_ok X G (c.fact i h)
theorem Hd.free (T : Hd fa fn K mg) (i : Nat) {x : Str} (h : fa[i]? = some (.free x) := by rfl) : mg x = none := by
  obtain ⟨_, X, G, c⟩ := T.ex
  exact He.free_ok X G (c.fact i h)
theorem Hd.int (T : Hd fa fn K mg) (i : Nat) {x : Str} {k : Int} (h : fa[i]? = some (.int x k) := by rfl) : ∃ t, mg x = some (.int k t) := by
  obtain ⟨_, X, G, c⟩ := T.ex
  exact He.int_ok X G (c.fact i h)
theorem Hd.str (T : Hd fa fn K mg) (i : Nat) {x z : Str} (h : fa[i]? = some (.str x z) := by rfl) : ∃ t, mg x = some (.str z t) := by
  obtain ⟨_, X, G, c⟩ := T.ex
  exact He.str_ok X G (c.fact i h)
theorem Hd.def_ (T : Hd fa fn K mg) (i : Nat) {d : He.DefD} (h : fn[i]? = some d := by rfl) : ∃ fd, FunD K d.name d.qual d.params d.body d.scope (d.dvs K) (d.kws K) (He.fAd K d.at_) fd := by
  obtain ⟨_, X, G, c⟩ := T.ex
  exact c.def_ i h
end
/-- a global def: where it stands, and its promise by its body -/
theorem fg_of {P : Program} {w : World} {g : Gc} {mg : Str → Option Value} {base : Heap} {x : Str} {st : Stmt} {N ps : List Str} {dvs : List V} {k : Nat} {md : Md} {fb : DS} {f : Addr}
    (hm : mg x = some (.ref f)) (hF : ∃ fd, FunD g.K x x (defArgs st) (defBody st) (defScope st) dvs [] f fd) (S : FnScope N ps (defScope st))
    (hb : ∀ (cdv : Value) (A : Around) (outer : List Env) (s : Shared) (H : Hp) (E : XK), Room k (A.deeper (envOfC x (defScope st) s.heap.objs.size f cdv)) → GSs g (WF E) (cxOf (L2.CX P w) P w g.K mg base N x (defScope st) f cdv A outer s H E) (defBody st) fb) :
    FnG P w g mg base (k + 1) x st ps dvs (runF md ps.length N.length fb) := by
  obtain ⟨fd, F⟩ := hF
  exact ⟨f, fd, hm, F, gf_ok F S hb⟩
theorem fg_stuck {P : Program} {w : World} {g : Gc} {mg : Str → Option Value} {base : Heap} {x : Str} {st : Stmt} {ps : List Str} {dvs : List V} {k : Nat} {f : Addr}
    (hm : mg x = some (.ref f)) (hF : ∃ fd, FunD g.K x x (defArgs st) (defBody st) (defScope st) dvs [] f fd) : FnG P w g mg base k x st ps dvs (fun _ _ => .stuck) := by
  obtain ⟨fd, F⟩ := hF
  exact ⟨f, fd, hm, F, fnOk_stuck⟩
theorem ar_stuck {np : Nat} : Ar (fun _ _ => .stuck) np := fun _ _ _ => rfl
/-- the body's wish about exceptions -/
theorem tk_of {P : Program} {w : World} {K : PySem.W.Frag} {mg : Str → Option Value} {base : Heap} {N : List Str} {qual : Str} {scope : Scope} {f : Addr} {cdv : Value} {A : Around} {outer : List Env} {s : Shared} {H : Hp} {E : XK} :
    Takes (cxOf (L2.CX P w) P w K mg base N qual scope f cdv A outer s H E) (WF E) := takes_of rfl rfl rfl rfl
theorem po_of {P : Program} {w : World} {K : PySem.W.Frag} {mg : Str → Option Value} {base : Heap} {N : List Str} {qual : Str} {scope : Scope} {f : Addr} {cdv : Value} {A : Around} {outer : List Env} {s : Shared} {H : Hp} {E : XK} :
    PassesOwn (model P w) (cxOf (L2.CX P w) P w K mg base N qual scope f cdv A outer s H E).A (cxOf (L2.CX P w) P w K mg base N qual scope f cdv A outer s H E).env (cxOf (L2.CX P w) P w K mg base N qual scope f cdv A outer s H E).xe :=
  passes_of (X := cxOf (L2.CX P w) P w K mg base N qual scope f cdv A outer s H E) rfl
end SD

set_option Elab.async false
set_option linter.all false
set_option maxRecDepth 100000
set_option maxHeartbeats 4000000
/-! SD, tenth part: x[::-1] of a tuple, a list. -/
namespace HT2
open PySem PySem.Spec PyProof.Rows HT PySem.W
theorem filterMap_ext {α β : Type} {f g : α → Option β} : ∀ {l : List α}, (∀ a ∈ l, f a = g a) → l.filterMap f = l.filterMap g
  | [], _ => rfl
  | a :: l, h => by
    rw [List.filterMap_cons, List.filterMap_cons, h a (by simp), filterMap_ext fun b hb => h b (List.mem_cons_of_mem _ hb)]
theorem pick_rev (xs : Array Value) : ((List.range xs.size).filterMap fun (m : Nat) => xs[((((xs.size : Int) - 1)) + (m : Int) * (-1)).toNat]?).toArray = xs.toList.reverse.toArray := by
  congr 1
  have e : ∀ m ∈ List.range xs.size, (fun (m : Nat) => xs[((((xs.size : Int) - 1)) + (m : Int) * (-1)).toNat]?) m = ((fun k => xs[k]?) ∘ fun k => xs.size - 1 - k) m := fun m hm => by
    have := List.mem_range.mp hm
    show xs[((((xs.size : Int) - 1)) + (m : Int) * (-1)).toNat]? = xs[xs.size - 1 - m]?
    congr 1
    omega
  rw [filterMap_ext e, ← List.filterMap_map, krv_range, List.filterMap_reverse, krv_all]
section
variable {prog : Program} {w : World} {A : Around} {E : Value → Shared → Prop} {s : Shared}
theorem sliceApplied_rev {sl : Addr} {vl vu vs : Value} {n : Nat} {Q : Int × Int × Nat → Shared → Prop} (hs : s.heap.IsSliceOf sl vl vu vs) (pl : IsPart vl none) (pu : IsPart vu none) (ps : IsPart vs (some (-1)))
    (h : Q ((n : Int) - 1, -1, n) s) : wpAny (model prog w) A (Builtin.Slice.sliceApplied (.ref sl) (pure (n : Int))) Q E s := by
  obtain ⟨os, hos, hcs, hds⟩ := id hs
  unfold Builtin.Slice.sliceApplied Builtin.Slice.sliceFields
  refine wpAny_bind (wpAny_bind (wpAny_field hos hds (x := vl) rfl (wpAny_bind (wpAny_field hos hds (x := vu) rfl (wpAny_bind (wpAny_field hos hds (x := vs) rfl (wpAny_pure ?_)))))))
  refine wpAny_bind (slicePart_ ps ?_)
  show wpAny _ _ (if ((-1 : Int) == 0) = true then _ else _) _ _ s
  rw [if_neg (by decide)]
  refine wpAny_bind (slicePart_ pl (wpAny_bind (slicePart_ pu (wpAny_bind (wpAny_pure ?_)))))
  show wpAny _ _ (pure ((n : Int) - 1, (-1 : Int), Builtin.Slice.slicePlaces ((n : Int) - 1) (-1) (-1))) _ _ s
  have e : Builtin.Slice.slicePlaces ((n : Int) - 1) (-1) (-1) = n := by
    unfold Builtin.Slice.slicePlaces
    rw [if_neg (by decide)]
    by_cases h : (n : Int) - 1 > -1
    · rw [if_pos h]
      have : ((n : Int) - 1 - -1 - 1) / (- -1) + 1 = (n : Int) := by
        rw [show (- -1 : Int) = 1 by decide, Int.ediv_one]; omega
      rw [this]; simp
    · rw [if_neg h]
      omega
  rw [e]
  exact wpAny_pure h
theorem getItem_tuple_rev {t sl : Addr} {items : Array Value} {vl vu vs : Value} {Q : Value → Shared → Prop} (ht : IsTup s.heap t items) (hs : s.heap.IsSliceOf sl vl vu vs) (pl : IsPart vl none) (pu : IsPart vu none) (ps : IsPart vs (some (-1)))
    (h : Q (.ref s.heap.objs.size) { s with heap := s.heap.push { cls := .type "tuple", data := .seq items.toList.reverse.toArray } })
    (hsz : items.size ≤ sizeLine) : wpAny (model prog w) A (getItem (.ref t) (.ref sl)) Q E s := by
  have htake : sizeOk (.seq items.toList.reverse.toArray) := by
    show items.toList.reverse.toArray.size ≤ sizeLine
    rw [List.size_toArray, List.length_reverse, Array.length_toList]
    exact hsz
  obtain ⟨os, hos, hcs, hds⟩ := id hs
  have hTs : s.TypeIs (.ref sl) "slice" := ⟨os, hos, hcs⟩
  unfold getItem
  try with_reducible refine wpAny_holding ?_
  first | refine wpAny_bind (wpAny_pure ?_) | skip
  refine wpAny_bind (wpAny_sequenceKey ht.typeIs (by decide) ?_)
  refine wpAny_bind (wpAny_callSpecial?_slot (name := Str.ofString "__getitem__") ht.typeIs PyProof.Rows.slot_tuple_getitem
    (wpAny_call_entry PyProof.Rows.slot_tuple_getitem ht.typeIs entry_tuple_getitem ?_ (args_tuple_getitem _ _)))
  show wpAny _ _ (Builtin.Tuple.tupleItemsOf (.ref t) >>= _) _ _ s
  refine wpAny_bind (tupleItemsOf_ ht ?_)
  refine wpAny_bind (wpAny_typeOf hTs ?_)
  rw [if_pos (by decide)]
  refine wpAny_bind (sliceApplied_rev hs pl pu ps ?_)
  have hno : ¬ ((((items.size : Int) - 1) == 0 && (-1 : Int) == 1 && items.size == items.size) = true) := by
    intro q
    rw [Bool.and_eq_true, Bool.and_eq_true] at q
    exact absurd q.1.2 (by decide)
  show wpAny _ _ (if (((items.size : Int) - 1) == 0 && (-1 : Int) == 1 && items.size == items.size) = true then _ else _) _ _ s
  rw [if_neg hno, pick_rev]
  first
    | exact wpAny_bind (m := Builtin.Tuple.tupleExact _) (wpAny_newObj_type (wpAny_pure ⟨_, rfl, wpAny_pure h⟩) htake)
    | exact wpAny_bind (m := Builtin.Tuple.tupleExact _) (wpAny_newObj_type (wpAny_bind (wpAny_pure (wpAny_pure ⟨_, rfl, wpAny_pure h⟩))) htake)
    | exact wpAny_bind (wpAny_bind (m := Builtin.Tuple.tupleExact _) (wpAny_newObj_type (wpAny_pure (wpAny_pure ⟨_, rfl, wpAny_pure h⟩)) htake))
    | exact wpAny_bind (wpAny_bind (m := Builtin.Tuple.tupleExact _) (wpAny_newObj_type (wpAny_pure ⟨_, rfl, wpAny_pure h⟩) htake))
end
end HT2
namespace SD
open PySem PySem.Spec PyProof.Rows L2
section
variable {g : Gc} {W : WX} {X : Cx}
def tRevT (K : PySem.W.Frag) (te : TE) : TE := fun σ H Q => te σ H fun x H1 => ∃ a xs, x = .ref a ∧ SqT K H1 a xs ∧ ∀ (p : Addr) (ob : Obj), H1 p = none → ob.dict = none → Q (.ref p) (upd H1 p (.frz ob (.tup xs.reverse)))
theorem pe_revT {e : Expr} {te : TE} {k : Nat} {p1 p2 p3 pos : Pos} (he : PE X e te) : PE X (.Subscript e (.Slice none none (some (.UnaryOp .USub (.Constant (.int 1) k p1) p2)) p3) pos) (tRevT X.K te) := by
  refine ⟨fun pins s σ H Q I h => ?_⟩
  refine Subscript_ (thn (he.run pins s σ H _ I h) fun v s1 ⟨x, H1, I1, r1, q1⟩ => ?_)
  obtain ⟨a, xs, ex, hx, q⟩ := q1
  subst ex
  cases r1
  have hst : PO X (some (.UnaryOp .USub (.Constant (.int 1) k p1) p2)) (tPart (tUn (rU fun i => .int (-i)) (tC (.int 1)))) := po_some (pe_un un_neg pe_int)
  refine wpAny_Slice (thn (po_none.run pins s1 σ H1 (fun o H2 => o = none ∧ H2 = H1) I1 ⟨rfl, rfl⟩) fun vl s2 ⟨l, H2, I2, pl, el, e2⟩ => ?_)
  subst el e2
  refine thn (po_none.run pins s2 σ H2 (fun o H3 => o = none ∧ H3 = H2) I2 ⟨rfl, rfl⟩) fun vu s3 ⟨u, H3, I3, pu, eu, e3⟩ => ?_
  subst eu e3
  refine thn (hst.run pins s3 σ H3 (fun o H4 => o = some (-1) ∧ H4 = H3) I3 ⟨1, rfl, -1, rfl, rfl, rfl⟩) fun vs s4 ⟨o, H4, I4, ps, eo, e4⟩ => ?_
  subst eo e4
  have I5 : Inv X pins σ H4 { s4 with heap := s4.heap.push { cls := .type "slice", data := .fields #[vl, vu, vs] } } := I4.kept (t' := s4.toks) fun b ob q => Heap.get?_push_of_some _ q
  obtain ⟨its, r, ht, hz⟩ := I5.tuple hx
  have hlen := r.length
  show wpAny (model X.prog X.w) X.A (subscriptTail e (.Slice none none (some (.UnaryOp .USub (.Constant (.int 1) k p1) p2)) p3) (.ref a) (.ref s4.heap.objs.size)) (EP X pins σ Q) X.xe { s4 with heap := s4.heap.push { cls := .type "slice", data := .fields #[vl, vu, vs] } }
  refine tail_any (ops := [.ref a, .ref s4.heap.objs.size]) ht.typeIs PyProof.Rows.slot_tuple_getitem.lookup ?_ (by with_unfolding_all rfl)
  refine HT2.getItem_tuple_rev ht (Heap.IsSliceOf.new _ vl vu vs) pl pu ps ?_ (by rw [List.size_toArray]; omega)
  obtain ⟨ob, d, n, J⟩ := Inv.tupF (tk := s4.toks) (s := { s4 with heap := s4.heap.push { cls := .type "slice", data := .fields #[vl, vu, vs] } }) I5 r.reverse (by rw [List.length_reverse]; exact hz)
  exact ⟨.ref _, _, J, rfl, q _ _ n d⟩
/-- x[::-1] -/
def revD (μ : Sto) : DV → Option DV
  | .tup xs => some (.tup xs.reverse)
  | d => match seqOf μ d with
    | some xs => some (.lst xs.reverse)
    | none => none
def eRev (a : DE) : DE := eUn (fun d μ => revD μ d) a
theorem RelL.rev {κ : KA} {H : Hp} : ∀ {xs : List DV} {vs : List V}, RelL g κ H xs vs → RelL g κ H xs.reverse vs.reverse
  | [], _, r => by cases r.of_nil; exact RelL.nil
  | x :: xs, _, r => by
    obtain ⟨v, r', rfl, h1, h2⟩ := r.of_cons
    rw [List.reverse_cons, List.reverse_cons]
    exact (RelL.rev h2).append (RelL.cons h1 RelL.nil)
theorem PE.or {e : Expr} {t u : TE} (h : PE X e t) (h' : PE X e u) : PE X e (fun σ H Q => t σ H Q ∨ u σ H Q) := ⟨fun pins s σ H Q I q => q.elim (h.run pins s σ H Q I) (h'.run pins s σ H Q I)⟩
theorem ge_rev {e : Expr} {fe : DE} {k : Nat} {p1 p2 p3 pos : Pos} (xg : XG g X) (he : GE g W X e fe) : GE g W X (.Subscript e (.Slice none none (some (.UnaryOp .USub (.Constant (.int 1) k p1) p2)) p3) pos) (eRev fe) :=
  PE.imp (PE.or (pe_revT he) (pe_revL he)) fun σ H Q q => by
  obtain ⟨κ, ρ, μ, he, hs, hw⟩ := q
  have hb := wpR.bind (show wpR g W σ κ H ((fe ρ μ).bind fun x μ1 => R.of (revD μ1 x) μ1) _ from hw)
  cases e : fe ρ μ with
  | stuck => rw [e] at hb; exact hb.elim
  | ex c ns xs μ1 =>
    refine .inl ⟨κ, ρ, μ, he, hs, ?_⟩
    rw [e] at hb ⊢
    exact hb
  | ok d μ1 =>
    rw [e] at hb
    by_cases hd : ∃ xs, d = .tup xs
    · obtain ⟨xs, rfl⟩ := hd
      refine .inl ⟨κ, ρ, μ, he, hs, ?_⟩
      rw [e]
      intro κ1 H1 e1 s1 v rv
      obtain ⟨a, vs, rfl, h1, h2⟩ := tup_rel rv
      refine ⟨a, vs, rfl, by rw [xg.K]; exact h1, fun p ob hp hd => ?_⟩
      exact rOut.newT s1 (out_of (hb κ1 H1 e1 s1)) (RelL.rev h2) hp hd
    · have ed : revD μ1 d = match seqOf μ1 d with
        | some xs => some (.lst xs.reverse)
        | none => none := by
        cases d <;> first | rfl | exact absurd ⟨_, rfl⟩ hd
      refine .inr ⟨κ, ρ, μ, he, hs, ?_⟩
      rw [e]
      intro κ1 H1 e1 s1 v rv
      have h3 := out_of (hb κ1 H1 e1 s1)
      rw [ed] at h3
      cases es : seqOf μ1 d with
      | none => rw [es] at h3; exact h3.elim
      | some xs =>
        rw [es] at h3
        obtain ⟨a, vs, rfl, h1, h2⟩ := seqOf_rel s1 rv es
        refine ⟨a, vs, rfl, by rw [xg.K]; exact h1, fun p hp => ?_⟩
        exact rOut.newL s1 h3 (RelL.rev h2) hp
end
end SD
namespace SD
open PySem PySem.Spec PyProof.Rows L2
/-- the end of a law: as walk_ofE, what is let out hangs on the world -/
theorem walk_W {l : PySem.W.OpenLaw} {n k : Nat} {q : Program} {loose : List Str} {XP : (Str → Option Value) → Heap → Prop} {YP : World → Heap → Prop} {d : DefRec} {CX : World → CXT} {x : Str}
    (hn : l.most = some n) (hn2 : n ≤ sizeLine) (hdf : d.params.defaults = []) (hr : Room k callerA)
    (F : ∀ (w : World) (mg : Str → Option Value) (fa : Addr) (h : Heap), YP w h → h.Ns mainGlobals mg → mg d.name = some (.ref fa) →
      ∃ (K : PySem.W.Frag) (fd : FuncData) (sp : Sp), K.In h ∧ (∀ (s : Shared) (u : Value), BindsTo s fd ⟨[u], []⟩ [(x, u)]) ∧
        (∀ (H : Hp) (a : Addr) (ns : List Int), ns.length ≤ n → Only H → SqL K H a (ns.map V.int) → sp [.ref a] H (fun v _ => v = .bl true) fun _ _ _ => False) ∧
        ∀ base : Heap, K.In base → base.Ns mainGlobals mg → FnOk l.prog w K mg base (CX w) k fa fd [x] sp)
    (hCX : ∀ (w : World) (H : Hp) (s : Shared) (e : Value) (s' : Shared), CX w [] H s (fun _ _ _ => False) e s' → False) :
    PySem.W.WalkO q loose XP YP l.row.toRowW d [] (fun f vs => PySem.call f vs) := by
  refine Att.attach_call hn hdf fun w s₀ s₁ mg mb fa o pm cd doc a vs ns G Y ho hd hcd hmg hobj hints hlen hg => ?_
  obtain ⟨K, fd, sp, KX, hb, hsp, hF⟩ := F w mg fa _ Y G.T.g hmg
  exact law_call KX G.T.g G.T.b G.T.builtins G.T.nolimit hg hobj hints (Nat.le_trans hlen hn2) hr hF hb (fun H hO hS => hsp H a ns hlen hO hS) fun H e s' => hCX w H s₁ e s'
theorem noCX {P : Program} {w : World} {H : Hp} {s : Shared} {e : Value} {s' : Shared} (z : L2.CX P w [] H s (fun _ _ _ => False) e s') : False := by
  obtain ⟨_, _, _, _, _, _, _, _, _, _, _, _, z⟩ := z
  exact z
end SD

set_option Elab.async false
set_option linter.all false
set_option maxRecDepth 100000
set_option maxHeartbeats 4000000
/-! SD: min, max, sorted of whole numbers; lists unpacked. -/
namespace SD
open PySem PySem.Spec PyProof.Rows L2
section
variable {g : Gc} {X : Cx}
def minI : List Int → Int
  | [] => 0
  | [a] => a
  | a :: b :: r => if a ≤ minI (b :: r) then a else minI (b :: r)
def maxI : List Int → Int
  | [] => 0
  | [a] => a
  | a :: b :: r => if maxI (b :: r) ≤ a then a else maxI (b :: r)
theorem minI_mem : ∀ {l : List Int}, 0 < l.length → minI l ∈ l
  | [a], _ => by simp [minI]
  | a :: b :: r, _ => by
    have := minI_mem (l := b :: r) (by simp)
    unfold minI
    split
    · exact List.mem_cons_self
    · exact List.mem_cons_of_mem _ this
theorem minI_le : ∀ {l : List Int} {y : Int}, y ∈ l → minI l ≤ y
  | [a], y, h => by simp at h; simp [minI, h]
  | a :: b :: r, y, h => by
    unfold minI
    rcases List.mem_cons.mp h with rfl | h
    · split <;> omega
    · have := minI_le h
      split <;> omega
theorem maxI_mem : ∀ {l : List Int}, 0 < l.length → maxI l ∈ l
  | [a], _ => by simp [maxI]
  | a :: b :: r, _ => by
    have := maxI_mem (l := b :: r) (by simp)
    unfold maxI
    split
    · exact List.mem_cons_self
    · exact List.mem_cons_of_mem _ this
theorem maxI_ge : ∀ {l : List Int} {y : Int}, y ∈ l → y ≤ maxI l
  | [a], y, h => by simp at h; simp [maxI, h]
  | a :: b :: r, y, h => by
    unfold maxI
    rcases List.mem_cons.mp h with rfl | h
    · split <;> omega
    · have := maxI_ge h
      split <;> omega
/-- small lists, so insertion is enough -/
def insI (a : Int) : List Int → List Int
  | [] => [a]
  | b :: r => if a ≤ b then a :: b :: r else b :: insI a r
def sortI : List Int → List Int
  | [] => []
  | a :: r => insI a (sortI r)
theorem insI_perm (a : Int) : ∀ l : List Int, (insI a l).Perm (a :: l)
  | [] => .refl _
  | b :: r => by
    unfold insI
    split
    · exact .refl _
    · exact ((insI_perm a r).cons b).trans (.swap a b r)
theorem sortI_perm : ∀ l : List Int, (sortI l).Perm l
  | [] => .refl _
  | a :: r => (insI_perm a _).trans ((sortI_perm r).cons a)
theorem insI_sorted (a : Int) : ∀ {l : List Int}, l.Pairwise (· ≤ ·) → (insI a l).Pairwise (· ≤ ·)
  | [], _ => by simp [insI]
  | b :: r, h => by
    have hb := List.pairwise_cons.mp h
    unfold insI
    split
    · rename_i hab
      refine List.pairwise_cons.mpr ⟨fun y hy => ?_, h⟩
      rcases List.mem_cons.mp hy with rfl | hy
      · exact hab
      · exact Int.le_trans hab (hb.1 y hy)
    · rename_i hab
      refine List.pairwise_cons.mpr ⟨fun y hy => ?_, insI_sorted a hb.2⟩
      rcases List.mem_cons.mp ((insI_perm a r).mem_iff.mp hy) with rfl | hy
      · omega
      · exact hb.1 y hy
theorem sortI_sorted : ∀ l : List Int, (sortI l).Pairwise (· ≤ ·)
  | [] => .nil
  | a :: r => insI_sorted a (sortI_sorted r)
theorem sorted_eq : ∀ {l m : List Int}, l.Perm m → l.Pairwise (· ≤ ·) → m.Pairwise (· ≤ ·) → l = m
  | [], m, h, _, _ => (h.symm.eq_nil).symm
  | a :: l, [], h, _, _ => nomatch h.eq_nil
  | a :: l, b :: m, h, h1, h2 => by
    obtain ⟨p1, p2⟩ := List.pairwise_cons.mp h1
    obtain ⟨q1, q2⟩ := List.pairwise_cons.mp h2
    have e : a = b := by
      have i1 : a ≤ b := by
        rcases List.mem_cons.mp (h.mem_iff.mpr (List.mem_cons_self (a := b) (l := m))) with e | e
        · omega
        · exact p1 b e
      have i2 : b ≤ a := by
        rcases List.mem_cons.mp (h.mem_iff.mp (List.mem_cons_self (a := a) (l := l))) with e | e
        · omega
        · exact q1 a e
      omega
    subst e
    rw [sorted_eq h.cons_inv p2 q2]
def vMin : VN := fun ds μ => match ds with
  | [.int i, .int j] => some (.int (if j < i then j else i))
  | [d] => match seqOf μ d with
    | some xs => (asIs xs).bind fun ns => if 0 < ns.length then some (.int (minI ns)) else none
    | none => none
  | _ => none
def vMax : VN := fun ds μ => match ds with
  | [.int i, .int j] => some (.int (if j > i then j else i))
  | [d] => match seqOf μ d with
    | some xs => (asIs xs).bind fun ns => if 0 < ns.length then some (.int (maxI ns)) else none
    | none => none
  | _ => none
theorem cMin (xg : XG g X) (hc : X.calm = true) : CallR X (.builtin "min") (rN g vMin) := by
  intro pins s σ H xs us Q I rx h
  obtain ⟨κ, ds, μ, rd, so, ho⟩ := h
  unfold vMin at ho
  split at ho
  · obtain ⟨v, w, rfl, r1, r2⟩ := relL2 rd
    simp only [Rel] at r1 r2
    subst r1 r2
    exact call_min2 hc pins s σ H _ us Q I rx ⟨_, _, rfl, rOut.flat so ho (by simp [Rel])⟩
  · obtain ⟨v, rfl, r1⟩ := relL1 rd
    split at ho
    · rename_i ys hy
      obtain ⟨a, vs, rfl, h1, h2⟩ := seqOf_rel so r1 hy
      cases hb : asIs ys with
      | none => rw [hb] at ho; exact ho.elim
      | some bs =>
        rw [hb] at ho
        have e := asIs_rel h2 hb
        subst e
        simp only [Option.bind_some] at ho
        split at ho
        · rename_i hn
          refine cr_min hc pins s σ H _ us Q I rx ⟨a, bs, rfl, by rw [xg.K]; exact h1, hn, fun m hm hle => ?_⟩
          have : m = minI bs := Int.le_antisymm (hle _ (minI_mem hn)) (minI_le hm)
          subst this
          exact rOut.flat so ho (by simp [Rel])
        · exact ho.elim
    · exact ho.elim
  · exact ho.elim
theorem cMax (xg : XG g X) (hc : X.calm = true) : CallR X (.builtin "max") (rN g vMax) := by
  intro pins s σ H xs us Q I rx h
  obtain ⟨κ, ds, μ, rd, so, ho⟩ := h
  unfold vMax at ho
  split at ho
  · obtain ⟨v, w, rfl, r1, r2⟩ := relL2 rd
    simp only [Rel] at r1 r2
    subst r1 r2
    exact call_max2 hc pins s σ H _ us Q I rx ⟨_, _, rfl, rOut.flat so ho (by simp [Rel])⟩
  · obtain ⟨v, rfl, r1⟩ := relL1 rd
    split at ho
    · rename_i ys hy
      obtain ⟨a, vs, rfl, h1, h2⟩ := seqOf_rel so r1 hy
      cases hb : asIs ys with
      | none => rw [hb] at ho; exact ho.elim
      | some bs =>
        rw [hb] at ho
        have e := asIs_rel h2 hb
        subst e
        simp only [Option.bind_some] at ho
        split at ho
        · rename_i hn
          refine cr_max hc pins s σ H _ us Q I rx ⟨a, bs, rfl, by rw [xg.K]; exact h1, hn, fun m hm hle => ?_⟩
          have : m = maxI bs := Int.le_antisymm (maxI_ge hm) (hle _ (maxI_mem hn))
          subst this
          exact rOut.flat so ho (by simp [Rel])
        · exact ho.elim
    · exact ho.elim
  · exact ho.elim
def vSorted : VN := fun ds μ => match ds with
  | [d] => match seqOf μ d with
    | some xs => (asIs xs).map fun ns => .lst ((sortI ns).map .int)
    | none => none
  | _ => none
theorem cSorted (xg : XG g X) : CallR X (.builtin "sorted") (rN g vSorted) := by
  intro pins s σ H xs us Q I rx h
  obtain ⟨κ, ds, μ, rd, so, ho⟩ := h
  unfold vSorted at ho
  split at ho
  · obtain ⟨v, rfl, r1⟩ := relL1 rd
    split at ho
    · rename_i ys hy
      obtain ⟨a, vs, rfl, h1, h2⟩ := seqOf_rel so r1 hy
      cases hb : asIs ys with
      | none => rw [hb] at ho; exact ho.elim
      | some bs =>
        rw [hb] at ho
        have e := asIs_rel h2 hb
        subst e
        refine cr_sortedI pins s σ H _ us Q I rx ⟨a, bs, rfl, by rw [xg.K]; exact h1, fun ns' p hp hs hn => ?_⟩
        have : ns' = sortI bs := sorted_eq (hp.trans (sortI_perm bs).symm) hs (sortI_sorted bs)
        subst this
        exact rOut.newL so ho (RelL.ints _) hn
    · exact ho.elim
  · exact ho.elim
/-- a, b = [..] -/
def gUnl' (f : DGs) (n : Nat) : DG := fun d ρ μ => match seqOf μ d with
  | some xs => if xs.length = n then f xs ρ μ else none
  | none => none
theorem gg_unl {es : List Expr} {k : Nat} {t : DGs} {n : Nat} {sl : List Nat} {pos : Pos} (xg : XG g X) (hc : X.calm = true) (h : GGs g X es sl t)
    (hn : (assignEach es X.env).length = n := by rfl) (hst : (assignEach es X.env).findIdx? (·.1) = none := by rfl) : GG g X (.Tuple es k pos) sl (gUnl' t n) := PG.imp (pg_unl hc h hn hst) fun v σ H Q q => by
  obtain ⟨κ, d, ρ, μ, r, he, hs, hw⟩ := q
  unfold gUnl' at hw
  cases hd : seqOf μ d with
  | none => rw [hd] at hw; exact hw.elim
  | some xs =>
    rw [hd] at hw
    obtain ⟨a, vs, rfl, h1, h2⟩ := seqOf_rel hs r hd
    simp only at hw
    by_cases hl : xs.length = n
    · rw [if_pos hl] at hw
      exact ⟨a, vs, rfl, by rw [xg.K]; exact h1, by rw [← h2.length]; exact hl, κ, xs, ρ, μ, h2, he, hs, hw⟩
    · rw [if_neg hl] at hw; exact hw.elim
/-- x, y, z = a, b, c -/
def sPar3 (i j l : Nat) (r : DA) : DS := fun ρ μ => (r ρ μ).toS ρ fun ds μ1 => match ds with
  | [d, e, f] => .nx (((ρ.set i (some d)).set j (some e)).set l (some f)) μ1
  | _ => .stuck
theorem gs_par3 {W : WX} {fr : DA} {pos : Pos} {i j l : Nat} {x y z : Str} {a b c : Expr} {px py pz pt : Pos} {kt k2 pt2} (hc : X.calm = true) (hN : X.N.Nodup) (hi : X.N[i]? = some x) (hj : X.N[j]? = some y) (hl : X.N[l]? = some z) (hij : i ≠ j) (hil : i ≠ l) (hjl : j ≠ l)
    (hx : X.env.scope.names.lookup x = some .local) (hy : X.env.scope.names.lookup y = some .local) (hz : X.env.scope.names.lookup z = some .local) (ha : GA g W X [a, b, c] fr)
    (hw : swappedStores [.Tuple [.Name x px, .Name y py, .Name z pz] kt pt] (.Tuple [a, b, c] k2 pt2) X.env = pure (some [x, y, z]) := by rfl)
    (hs : swapsWithSole [.Tuple [.Name x px, .Name y py, .Name z pz] kt pt] (.Tuple [a, b, c] k2 pt2) pos.line X.env = pure false := by rfl) :
    GS g W X (.Assign [.Tuple [.Name x px, .Name y py, .Name z pz] kt pt] (.Tuple [a, b, c] k2 pt2) pos) (sPar3 i j l fr) := PS.imp (ps_par3 hc hN hi hj hl hij hil hjl hx hy hz ha hw hs) fun D σ H q => by
  obtain ⟨κ, ρ, μ, he, hs, hw⟩ := q
  refine ⟨κ, ρ, μ, he, hs, (wpS.bind he hw).mono fun ds μ1 κ1 H1 e1 s1 h1 vs rv => ?_⟩
  match ds, rv, h1 with
  | [d, e, f], rv, h1 =>
    obtain ⟨v, r1, rfl, q1, q2⟩ := rv.of_cons
    obtain ⟨w, r2, rfl, q3, q4⟩ := q2.of_cons
    obtain ⟨u, r3, rfl, q5, q6⟩ := q4.of_cons
    cases q6.of_nil
    exact ⟨v, w, u, rfl, h1 κ1 H1 _ Ext.refl s1 ((((he.ext e1).set q1).set q3).set q5)⟩
  | [], _, h1 => exact h1.elim
  | [_], _, h1 => exact h1.elim
  | [_, _], _, h1 => exact h1.elim
  | _ :: _ :: _ :: _ :: _, _, h1 => exact h1.elim
end
end SD

set_option Elab.async false
set_option linter.all false
set_option maxRecDepth 100000
set_option maxHeartbeats 4000000
/-! SD: p, q, *others = a tuple. -/
namespace L2
open PySem PySem.Spec PyProof.Rows
/-- the last target takes what is left, as a new list -/
theorem rest_items {prog : Program} {w : World} {A : Around} {E : Value → Shared → Prop} {s : Shared} {a : Addr} {xs : Array Value} {k : Nat} {Q : List Value → Shared → Prop} (ht : IsTup s.heap a xs) (hd : A.handled = none) (hk : k ≤ xs.size) (hz : xs.size ≤ sizeLine)
    (h : ∀ (G : Heap) (tk : Nat), (∀ b o, s.heap.get? b = some o → G.get? b = some o) → Q (xs.toList.take k ++ [.ref G.objs.size]) { s with heap := G.push { cls := .type "list", data := .seq (xs.toList.drop k).toArray }, toks := tk }) :
    wpAny (model prog w) A (unpackItems (.ref a) (k + 1) (some k)) Q E s := by
  have ne : a ≠ s.heap.objs.size := by
    obtain ⟨o, e, _⟩ := ht
    exact Nat.ne_of_lt (Heap.lt_size e)
  unfold unpackItems notIterableAtAll
  refine wpAny_bind (wpAny_bind (wpAny_specialOf ht.typeIs slot_tuple_iter.lookup (wpAny_pure ?_)))
  rw [if_neg (by decide)]
  refine wpAny_bind (wpAny_holding (iter_tuple ht (wpAny_bind (wpAny_holding ?_))))
  refine draw_tuple ne k 0 _ _ ⟨_, Heap.get?_push_size _ rfl, rfl, rfl⟩ ((ht.push _)) (by omega) fun g it st => ?_
  have tg : IsTup g a xs := (ht.push _).extBut st.extBut ne
  rw [Nat.zero_add] at it
  have it2 := it
  obtain ⟨o1, e1, _⟩ := it2
  have tg2 := tg
  obtain ⟨o2, e2, _⟩ := tg2
  have fl : (xs.toList.take k).length = k := by rw [List.length_take, Array.length_toList]; omega
  rw [List.drop_zero, if_neg (show ¬ (xs.toList.take k).length < k by omega)]
  refine wpAny_bind (wpAny_holding (PySem.W.kun_collect (s := { s with heap := g }) (T := "tuple_iterator") (.inr (.inr (.inr rfl))) (Walks.tuple (A := A.in1) hd s.heap.objs.size a ne xs) (fun _ _ z => z.1.typeIs) hk ⟨it, tg⟩ (Heap.lt_size e1) (Heap.lt_size e2) (fun g2 tk kp => ?_) hz))
  have z0 : k + 1 - 1 - k = 0 := by omega
  show wpAny _ _ (if (xs.toList.drop k).length < k + 1 - 1 - k then _ else _) _ _ _
  rw [z0, if_neg (by omega)]
  show wpAny _ _ (newList ((xs.toList.drop k).take ((xs.toList.drop k).length - 0)) >>= fun d => pure (xs.toList.take k ++ [d] ++ (xs.toList.drop k).drop ((xs.toList.drop k).length - 0))) _ _ _
  rw [Nat.sub_zero, List.take_length, List.drop_length]
  refine wpAny_bind (wpAny_newList (wpAny_pure ?_) (by rw [List.length_drop, Array.length_toList]; omega))
  rw [List.append_nil]
  exact h g2 tk fun b o e => kp b o (Nat.ne_of_lt (Heap.lt_size e)) (st.extBut b o (Nat.ne_of_lt (Heap.lt_size e)) (Heap.get?_push_of_some _ e))
/-- (a, b, .., *r) = a tuple -/
def gRst (K : PySem.W.Frag) (k : Nat) (t : TGs) : TG := fun v σ H Q => ∃ a xs, v = .ref a ∧ SqT K H a xs ∧ k ≤ xs.length ∧ ∀ p, H p = none → t (xs.take k ++ [.ref p]) σ (upd H p (.lst (xs.drop k))) Q
theorem pg_rst {X : Cx} {es : List Expr} {k m : Nat} {pos : Pos} {t : TGs} (hc : X.calm = true) (h : PGs X es t)
    (hn : (assignEach es X.env).length = k + 1 := by rfl) (hst : (assignEach es X.env).findIdx? (·.1) = some k := by rfl) : PG X (.Tuple es m pos) (gRst X.K k t) := by
  refine ⟨fun pins s σ H v u Q I r hw => ?_⟩
  obtain ⟨a, xs, e1, hq, hl, hw⟩ := hw
  subst e1
  cases r
  obtain ⟨its, rv, ht, hz⟩ := I.tuple hq
  rw [PyProof.Rows.assign_Tuple]
  refine wpAny_bind (wpAny_standAt ?_)
  unfold unpack
  rw [hn, hst]
  have hlen := rv.length
  refine wpAny_bind (wpAny_holding (rest_items ht (I.ok.hd hc) (by simp; omega) (by simp; omega) fun G tk kp => ?_))
  have no : s.heap.get? G.objs.size = none := by
    cases q : s.heap.get? G.objs.size with
    | none => rfl
    | some o => exact absurd (Heap.lt_size (kp _ o q)) (Nat.lt_irrefl _)
  have hN : H G.objs.size = none := I.hok.gone no
  have kp2 : ∀ b o, s.heap.get? b = some o → (G.push { cls := .type "list", data := .seq (its.toArray.toList.drop k).toArray }).get? b = some o := fun b o e => Heap.get?_push_of_some _ (kp b o e)
  have rd : Vals (xs.drop k) (its.toArray.toList.drop k) := by
    have := rv.drop k
    simpa using this
  have J := I.laidN (t' := tk) (a := G.objs.size) (o := .lst (xs.drop k)) kp2 no hN (show ObjOk X.prog X.w _ _ _ (.lst (xs.drop k)) from ⟨by rw [List.length_drop]; omega, its.toArray.toList.drop k, _, rd, Heap.get?_push_size _ rfl⟩)
  have rt : Vals (xs.take k ++ [V.ref G.objs.size]) (its.toArray.toList.take k ++ [Value.ref G.objs.size]) := by
    have := rv.take k
    exact Vals.append (by simpa using this) (.cons rfl .nil)
  exact h.run pins _ σ _ _ _ Q J rt (hw _ hN)
end L2
namespace SD
open PySem PySem.Spec PyProof.Rows L2
section
variable {g : Gc} {W : WX} {X : Cx} {e : Expr} {fa : DE} {pos : Pos}
def gRst' (f : DGs) (k : Nat) : DG := fun d ρ μ => match asT d with
  | some xs => if k ≤ xs.length then f (xs.take k ++ [.lst (xs.drop k)]) ρ μ else none
  | none => none
theorem gs_rst {es : List Expr} {m k : Nat} {p : Pos} {t : DGs} {sl : List Nat} (xg : XG g X) (hc : X.calm = true) (he : GE g W X e fa) (hg : GGs g X es sl t)
    (hs : swapsWithSole [.Tuple es m p] e pos.line X.env = pure false := by rfl) (hw : swappedStores [.Tuple es m p] e X.env = pure none := by rfl)
    (h1 : (assignEach [.Tuple es m p] X.env).map (·.2) = [assign (.Tuple es m p) X.env] := by rfl)
    (hn : (assignEach es X.env).length = k + 1 := by rfl) (hst : (assignEach es X.env).findIdx? (·.1) = some k := by rfl) :
    GS g W X (.Assign [.Tuple es m p] e pos) (sAsg fa (gRst' t k)) := PS.imp (ps_asg he (pg_rst hc hg hn hst) hs hw h1) fun D σ H q => by
  obtain ⟨κ, ρ, μ, hE, hS, hw⟩ := q
  refine ⟨κ, ρ, μ, hE, hS, (wpS.bind hE hw).mono fun d μ1 κ1 H1 e1 s1 h1 v rv => ?_⟩
  cases d with
  | tup xs =>
    obtain ⟨a, vs, rfl, q1, q2⟩ := tup_rel rv
    simp only [gRst', asT] at h1
    by_cases hl : k ≤ xs.length
    · rw [if_pos hl] at h1
      refine ⟨a, vs, rfl, by rw [xg.K]; exact q1, by rw [← q2.length]; exact hl, fun p hp => ?_⟩
      refine ⟨κ1, xs.take k ++ [.lst (xs.drop k)], ρ, μ1, ?_, (hE.ext e1).ext (Ext.new s1 hp), s1.new hp, ?_⟩
      · exact ((RelL.take k q2).ext (Ext.new s1 hp)).append (RelL.cons (rel_lst s1 hp (RelL.drop k q2)) RelL.nil)
      · cases et : t (xs.take k ++ [.lst (xs.drop k)]) ρ μ1 with
        | none => rw [et] at h1; exact h1.elim
        | some ρ' => rw [et] at h1; exact fun σ' hE' _ _ => h1 κ1 _ σ' (Ext.new s1 hp) (s1.new hp) hE'
    · rw [if_neg hl] at h1; exact h1.elim
  | _ => exact h1.elim
theorem ggs_star {t : Expr} {p : Pos} {sl : List Nat} {f : DGs} (h : GGs g X [t] sl f) (hs : (assignEach [.Starred t p] X.env).map (·.2) = (assignEach [t] X.env).map (·.2) := by rfl) : GGs g X [.Starred t p] sl f :=
  ⟨fun pins s σ H vs us Q I r q => by rw [hs]; exact h.run pins s σ H vs us Q I r q⟩
end
end SD

set_option Elab.async false
set_option linter.all false
set_option maxRecDepth 100000
set_option maxHeartbeats 4000000
/-! SD: the least of objects: the loop of min over what is compared by looking at the heap. -/
namespace PySem
section
variable {prog : Program} {w : World} {A : Around} {R : Result → Shared → Prop} {it : Addr} {fp wr : List Addr} {n : Nat} {P : Nat → Value → Prop} {St : Nat → Heap → Prop} {S : Addr}
/-- all but the walk's own and the keeper stay -/
def Stay (wr : List Addr) (S : Addr) (h h' : Heap) : Prop := ∀ b o, b ∉ wr → b ≠ S → h.get? b = some o → h'.get? b = some o
theorem Stay.trans {h h1 h2 : Heap} (a : Stay wr S h h1) (b : Stay wr S h1 h2) : Stay wr S h h2 := fun c o x y e => b c o x y (a c o x y e)
theorem least_loop (V : Walks prog w A.in1 it fp wr n P St) (lt : Nat → Nat → Bool) (h0 : Heap)
    (cmp : ∀ (i j : Nat) (x y : Value) (s : Shared) (Q E : Value → Shared → Prop), Stay wr S h0 s.heap → P i x → P j y → Q (.bool (lt i j)) s → wpAny (model prog w) A.in1 (richCompare .Lt x y) Q E s) (nf : S ∉ fp) :
    ∀ (k j : Nat) (s : Shared) (best : Value) (c : Nat), n - (j + 1) = k → j + 1 ≤ n → Stay wr S h0 s.heap → St (j + 1) s.heap → P (argBest lt j) best → s.heap.get? S = some { cls := .type "list", dict := none, data := .seq #[best, best] c, slots := #[] } →
      (∀ v g tk, P (argBest lt (n - 1)) v → Stay wr S s.heap g → R (.ok (.ret v)) { s with heap := g, toks := tk }) → codeAny (model prog w) A (.builtin "min.loop" ⟨[.ref it, .none, .ref S], []⟩) R s := by
  have nw : S ∉ wr := fun h => nf (V.sub _ h)
  have nm : (toString "min" ++ toString ".loop" : String) = "min.loop" := by decide
  intro k
  induction k with
  | zero =>
    intro j s best c hk hj stay st pb kS fin
    have e0 : j + 1 = n := by omega
    refine codeAny_builtin F.entry_min_loop (?_ : _); rw [Around.under_plainId F.plain_min_loop _]
    show wpAny _ A.in1 (seqItems? (.ref S) >>= _) (_) _ s
    refine wpAny_bind (wpAny_seqItems kS rfl (?_ : _)); show wpAny _ A.in1 (tryCatch (pyNext (.ref it)) _ >>= _) _ _ s
    refine wpAny_bind (wpAny_tryCatch (V.done s _ _ (e0 ▸ st) fun g tk kg => ?_))
    have kS2 := kg S _ nw kS
    show wpAny _ A.in1 (updateSeq S (fun _ => #[]) >>= _) (_) _ _
    refine wpAny_bind (wpAny_updateSeq kS2 rfl (wpAny_bind (wpAny_letGo (wpAny_pure ?_))))
    exact fin best _ tk (by rw [← e0]; exact pb) fun b o x y e => (Heap.get?_update_other _ _ (Ne.symm y)).trans (kg b o x e)
  | succ k ih =>
    intro j s best c hk hj stay st pb kS fin
    have hlt : j + 1 < n := by omega
    refine codeAny_builtin F.entry_min_loop (?_ : _); rw [Around.under_plainId F.plain_min_loop _]
    show wpAny _ A.in1 (seqItems? (.ref S) >>= _) (_) _ s
    refine wpAny_bind (wpAny_seqItems kS rfl (?_ : _)); show wpAny _ A.in1 (tryCatch (pyNext (.ref it)) _ >>= _) _ _ s
    refine wpAny_bind (wpAny_tryCatch (V.item (j + 1) s _ _ hlt st fun x g tk px st2 kg => ?_))
    have kS2 := kg S _ nw kS
    have stay2 : Stay wr S h0 g := stay.trans fun b o q1 q2 e => kg b o q1 e
    show wpAny _ A.in1 (tryCatch (holding [x, x] (richCompare .Lt x best >>= _)) _ >>= _) (_) _ _
    refine wpAny_bind (wpAny_tryCatch (wpAny_holding (wpAny_bind (cmp (j + 1) (argBest lt j) x best { s with heap := g, toks := tk } _ _ stay2 px pb ?_))))
    refine wpAny_bind (wpAny_holding (wpAny_truthy_bool (wpAny_bind (wpAny_letGo (wpAny_pure ?_)))))
    cases hb : lt (j + 1) (argBest lt j) with
    | true =>
      rw [if_pos rfl]
      refine wpAny_bind (wpAny_updateSeq kS2 rfl (wpAny_bind (wpAny_letGo ?_)))
      rw [nm]
      have up : Stay wr S g (g.update S (Obj.mapSeq fun _ => #[x, x])) := fun b o q1 q2 e => (Heap.get?_update_other _ _ (Ne.symm q2)).trans e
      refine wpAny_pure ⟨plainId_quiet F.plain_min_loop _, ih (j + 1) _ x _ (by omega) hlt (stay2.trans up) (V.frame _ _ _ st2 fun b q o e => ?_) (by simp only [argBest, hb, if_true]; exact px) (Heap.get?_update_self _ kS2 rfl) fun v g2 tk2 pv s2 => ?_⟩
      · exact (Heap.get?_update_other _ _ (fun q2 : S = b => nf (by rw [q2]; exact q))).trans e
      · exact fin v g2 tk2 pv ((Stay.trans (fun b o q1 _ e => kg b o q1 e) up).trans s2)
    | false =>
      rw [if_neg (by decide)]
      refine wpAny_bind (wpAny_letGo (?_ : _))
      rw [nm]
      refine wpAny_pure ⟨plainId_quiet F.plain_min_loop _, ih (j + 1) { s with heap := g, toks := tk } best c (by omega) hlt stay2 st2 (by simp only [argBest, hb, Bool.false_eq_true, if_false]; exact pb) kS2 fun v g2 tk2 pv s2 => ?_⟩
      exact fin v g2 tk2 pv (Stay.trans (fun b o q1 _ e => kg b o q1 e) s2)
theorem least_first (V : Walks prog w A.in1 it fp wr n P St) (lt : Nat → Nat → Bool) {s : Shared} {c : Nat}
    (cmp : ∀ (i j : Nat) (x y : Value) (s' : Shared) (Q E : Value → Shared → Prop), Stay wr S s.heap s'.heap → P i x → P j y → Q (.bool (lt i j)) s' → wpAny (model prog w) A.in1 (richCompare .Lt x y) Q E s') (nf : S ∉ fp) (hn : 0 < n)
    (st : St 0 s.heap) (kS : s.heap.get? S = some { cls := .type "list", dict := none, data := .seq #[] c, slots := #[] })
    (fin : ∀ v g tk, P (argBest lt (n - 1)) v → Stay wr S s.heap g → R (.ok (.ret v)) { s with heap := g, toks := tk }) : codeAny (model prog w) A (.builtin "min.loop" ⟨[.ref it, .none, .ref S], []⟩) R s := by
  have nw : S ∉ wr := fun h => nf (V.sub _ h)
  have nm : (toString "min" ++ toString ".loop" : String) = "min.loop" := by decide
  refine codeAny_builtin F.entry_min_loop (?_ : _); rw [Around.under_plainId F.plain_min_loop _]
  show wpAny _ A.in1 (seqItems? (.ref S) >>= _) (_) _ s
  refine wpAny_bind (wpAny_seqItems kS rfl (?_ : _)); show wpAny _ A.in1 (tryCatch (pyNext (.ref it)) _ >>= _) _ _ s
  refine wpAny_bind (wpAny_tryCatch (V.item 0 s _ _ hn st fun x g tk px st2 kg => ?_))
  have kS2 := kg S _ nw kS
  show wpAny _ A.in1 (updateSeq S (fun _ => #[x, x]) >>= _) (_) _ _
  refine wpAny_bind (wpAny_updateSeq kS2 rfl ?_)
  rw [nm]
  have s1 : Stay wr S s.heap g := fun b o q1 _ e => kg b o q1 e
  have up : Stay wr S g (g.update S (Obj.mapSeq fun _ => #[x, x])) := fun b o q1 q2 e => (Heap.get?_update_other _ _ (Ne.symm q2)).trans e
  refine wpAny_pure ⟨plainId_quiet F.plain_min_loop _, least_loop V lt s.heap cmp nf _ 0 _ x _ rfl hn (s1.trans up) (V.frame _ _ _ st2 fun b q o e => ?_) px (Heap.get?_update_self _ kS2 rfl) fun v g2 tk2 pv s2 => ?_⟩
  · exact (Heap.get?_update_other _ _ (fun q2 : S = b => nf (by rw [q2]; exact q))).trans e
  · exact fin v g2 tk2 pv ((s1.trans up).trans s2)
end
section
open PyProof.Rows
variable {prog : Program} {w : World} {A : Around} {E : Value → Shared → Prop} {s : Shared}
/-- min(t), t a tuple of objects -/
theorem least_tup {a : Addr} {xs : Array Value} {lt : Nat → Nat → Bool} {Q : Value → Shared → Prop} (ht : IsTup s.heap a xs) (hd : A.handled = none) (hn : 0 < xs.size)
    (cmp : ∀ (i j : Nat) (x y : Value) (s' : Shared) (Q E : Value → Shared → Prop), (∀ b o, s.heap.get? b = some o → s'.heap.get? b = some o) → xs[i]? = some x → xs[j]? = some y → Q (.bool (lt i j)) s' → wpAny (model prog w) A.in1 (richCompare .Lt x y) Q E s')
    (fin : ∀ v g tk, xs[argBest lt (xs.size - 1)]? = some v → (∀ b o, s.heap.get? b = some o → g.get? b = some o) → Q v { s with heap := g, toks := tk }) : wpAny (model prog w) A (call (.builtin "min") [.ref a]) Q E s := by
  have ne : a ≠ s.heap.objs.size := by
    obtain ⟨o, e, _⟩ := ht
    exact Nat.ne_of_lt (Heap.lt_size e)
  have al : a < s.heap.objs.size := by
    obtain ⟨o, e, _⟩ := ht
    exact Heap.lt_size e
  have nm : (toString "min" ++ toString ".loop" : String) = "min.loop" := by decide
  refine call_function_tree F.kind_min F.plain_min F.entry_min (F.args_min1 _) (?_ : _)
  show wpAny _ A.in1 (Builtin.Builtins.bindParams "min" ["key", "default"] 0 ⟨[], []⟩ >>= _) (_) _ s
  refine wpAny_bind (wpAny_of_eq (show Builtin.Builtins.bindParams "min" ["key", "default"] 0 ⟨[], []⟩ = pure [none, none] from rfl) (wpAny_bind (wpAny_pure ?_)))
  refine wpAny_bind (iter_tuple ht (wpAny_bind (wpAny_newObj_type ?_)))
  rw [nm]
  have old : ∀ {g : Heap}, Stay [s.heap.objs.size] ((s.heap.push { cls := .type "tuple_iterator", data := .fields #[.ref a, .int 0 0] }).objs.size) ((s.heap.push { cls := .type "tuple_iterator", data := .fields #[.ref a, .int 0 0] }).push { cls := .type "list", data := .seq #[] }) g → ∀ b o, s.heap.get? b = some o → g.get? b = some o := fun st b o e => by
    have hb := Heap.lt_size e
    refine st b o (fun m => Nat.ne_of_lt hb (List.mem_singleton.mp m)) (fun m => Nat.ne_of_lt (Nat.lt_succ_of_lt hb) (by rw [Heap.size_push] at m; exact m)) (Heap.get?_push_of_some _ (Heap.get?_push_of_some _ e))
  refine wpAny_pure ⟨plainId_quiet F.plain_min_loop _, least_first (S := (s.heap.push { cls := .type "tuple_iterator", data := .fields #[.ref a, .int 0 0] }).objs.size) (Walks.tuple (A := A.in1) hd s.heap.objs.size a ne xs) lt (fun i j x y s' Q E st => cmp i j x y s' Q E (old st)) ?_ hn ?_ (Heap.get?_push_size _ rfl) fun v g tk pv st => fin v g tk pv (old st)⟩
  · intro m
    rw [Heap.size_push] at m
    rcases List.mem_cons.mp m with m | m
    · exact Nat.succ_ne_self _ m
    · exact Nat.ne_of_lt (Nat.lt_succ_of_lt al) (List.mem_singleton.mp m).symm
  · refine ⟨?_, ?_⟩
    · exact ⟨_, Heap.get?_push_of_some _ (Heap.get?_push_size _ rfl), rfl, rfl⟩
    · exact (ht.push _).push _
end
end PySem
namespace SD
open PySem PySem.Spec PyProof.Rows L2
section
variable {g : Gc} {X : Cx}
def asIss : List DV → Option (List (List Int))
  | [] => some []
  | .tup ys :: r => match asIs ys, asIss r with
    | some n, some ns => some (n :: ns)
    | _, _ => none
  | _ => none
def ltAt (nss : List (List Int)) (i j : Nat) : Bool := HT.lexLt (nss.getD i []) (nss.getD j [])
/-- min(t), t a tuple of tuples of whole numbers; else as vMin -/
def vMinT : VN := fun ds μ => match ds with
  | [.tup xs] => match asIss xs with
    | some nss => if 0 < xs.length then xs[argBest (ltAt nss) (xs.length - 1)]? else none
    | none => none
  | _ => vMin ds μ
theorem asIss_at {κ : KA} {H : Hp} : ∀ {xs : List DV} {vs : List V} {nss : List (List Int)}, RelL g κ H xs vs → asIss xs = some nss → ∀ (i : Nat) (v : V), vs[i]? = some v → ∃ b, v = .ref b ∧ SqT g.K H b ((nss.getD i []).map V.int)
  | [], vs, nss, r, h, i, v, hv => by cases r.of_nil; simp at hv
  | x :: xs, vs, nss, r, h, i, v, hv => by
    obtain ⟨w, r', rfl, h1, h2⟩ := r.of_cons
    cases x with
    | tup ys =>
      simp only [asIss] at h
      cases e1 : asIs ys with
      | none => rw [e1] at h; cases h
      | some n =>
        cases e2 : asIss xs with
        | none => rw [e1, e2] at h; cases h
        | some ns =>
          rw [e1, e2] at h
          cases h
          obtain ⟨b, ws, rfl, q1, q2⟩ := tup_rel h1
          have e := asIs_rel q2 e1
          subst e
          cases i with
          | zero => cases hv; exact ⟨b, rfl, q1⟩
          | succ i => exact asIss_at h2 e2 i v (by simpa using hv)
    | _ => cases h
theorem vals_at {vs : List V} {us : List Value} (r : Vals vs us) {i : Nat} {u : Value} (h : us[i]? = some u) : ∃ v, vs[i]? = some v ∧ RelV v u := by
  have hl := r.length
  have hi : i < us.length := (List.getElem?_eq_some_iff.mp h).1
  obtain ⟨u', h1, h2⟩ := r.get (List.getElem?_eq_getElem (by omega : i < vs.length))
  rw [h] at h1
  cases h1
  exact ⟨_, List.getElem?_eq_getElem (by omega), h2⟩
theorem cMinT (xg : XG g X) (hc : X.calm = true) (hu : X.A.units + 64 < cLine) : CallR X (.builtin "min") (rN g vMinT) := by
  intro pins s σ H xs us Q I rx h
  obtain ⟨κ, ds, μ, rd, so, ho⟩ := h
  unfold vMinT at ho
  split at ho
  · rename_i ys
    split at ho
    · rename_i nss hn
      split at ho
      · rename_i hl
        obtain ⟨v, rfl, r1⟩ := relL1 rd
        obtain ⟨a, vs, rfl, h1, h2⟩ := tup_rel r1
        rw [Vals.ref1 rx]
        obtain ⟨its, rv, ht, hz⟩ := I.tuple (xs := vs) (a := a) (by rw [xg.K]; exact h1)
        have e1 := h2.length
        have e2 := rv.length
        have at' : ∀ (i : Nat) (x : Value), its.toArray[i]? = some x → ∃ b jts, x = .ref b ∧ IsTup s.heap b jts ∧ IntsAre jts.toList (nss.getD i []) := fun i x hx => by
          obtain ⟨v, q1, q2⟩ := vals_at rv (i := i) (u := x) (by simpa using hx)
          obtain ⟨b, rfl, q3⟩ := asIss_at h2 hn i v q1
          obtain ⟨jts, q4, q5, _⟩ := I.tuple (xs := (nss.getD i []).map V.int) (a := b) (by rw [xg.K]; exact q3)
          cases q2
          exact ⟨b, jts.toArray, rfl, q5, by simpa using intsAre_of q4⟩
        refine least_tup (lt := ltAt nss) ht (I.ok.hd hc) (by simp; omega) (fun i j x y s' Q' E' kp hx hy hq => ?_) fun v G tk hv kp => ?_
        · obtain ⟨b, j1, rfl, t1, n1⟩ := at' i x hx
          obtain ⟨c, j2, rfl, t2, n2⟩ := at' j y hy
          exact HT.lt_tupInts (t1.keeps kp) (t2.keeps kp) n1 n2 (by rw [PyProof.Rows.units_in1]; omega) hq
        · have e3 : its.toArray.size = ys.length := by simp; omega
          rw [e3] at hv
          obtain ⟨w, q1, q2⟩ := vals_at rv (i := argBest (ltAt nss) (ys.length - 1)) (u := v) (by simpa using hv)
          cases hd : ys[argBest (ltAt nss) (ys.length - 1)]? with
          | none => rw [hd] at ho; exact ho.elim
          | some d =>
            rw [hd] at ho
            obtain ⟨w', q3, q4⟩ := h2.get hd
            rw [q1] at q3
            cases q3
            exact ⟨w, H, I.kept kp, q2, rOut.flat so ho q4⟩
      · exact ho.elim
    · exact ho.elim
  · exact cMin xg hc pins s σ H xs us Q I rx ⟨κ, ds, μ, rd, so, ho⟩
end
end SD

set_option Elab.async false
set_option linter.all false
set_option maxRecDepth 100000
set_option maxHeartbeats 4000000
/-! SD: t.index(x), t a tuple of data. -/
namespace SD
open PySem PySem.Spec PyProof.Rows L2
section
variable {g : Gc} {X : Cx}
/-- the first place of an equal one -/
def idxD (p : PyData) : List PyData → Option Nat
  | [] => none
  | q :: r => if PyData.eqv q p = true then some 0 else (idxD p r).map (· + 1)
theorem idxD_ok {p : PyData} : ∀ {ps : List PyData} {j : Nat}, idxD p ps = some j → (∃ z, ps[j]? = some z ∧ PyData.eqv z p = true) ∧ ∀ (m : Nat) (z : PyData), m < j → ps[m]? = some z → PyData.eqv z p = false
  | [], j, h => by simp [idxD] at h
  | q :: r, j, h => by
    by_cases e : PyData.eqv q p = true
    · have h' : some 0 = some j := by
        rw [← h]
        exact (if_pos e).symm
      cases h'
      exact ⟨⟨q, rfl, e⟩, fun m z hm => absurd hm (Nat.not_lt_zero _)⟩
    · have h' : (idxD p r).map (· + 1) = some j := by
        rw [← h]
        exact (if_neg e).symm
      rw [Option.map_eq_some_iff] at h'
      obtain ⟨i, hi, rfl⟩ := h'
      obtain ⟨⟨z, h1, h2⟩, h3⟩ := idxD_ok hi
      refine ⟨⟨z, by simpa using h1, h2⟩, fun m z' hm hz => ?_⟩
      cases m with
      | zero =>
        have hz' : some q = some z' := hz
        cases hz'
        simpa using e
      | succ m => exact h3 m z' (by omega) (by simpa using hz)
def mIndexT : VM := fun d ds μ => match d, ds with
  | .tup xs, [y] => match toPyL xs, toPy y with
    | some ps, some p => if (SeqAt.shaped (.tuple ps) && SeqAt.shaped p) = true then (idxD p ps).map fun j => (.int (j : Int), μ) else none
    | _, _ => none
  | _, _ => none
theorem mtIndexT (xg : XG g X) (hu : X.A.units + 65 < cLine) : MtR X "tuple.index" (rM g mIndexT) := by
  intro pins s σ H x xs v us Q I rx rs h
  obtain ⟨κ, d, ds, μ, rd, rds, so, ho⟩ := h
  unfold mIndexT at ho
  split at ho
  · rename_i ys y
    split at ho
    · rename_i ps p hps hp
      split at ho
      · rename_i hz
        rw [Bool.and_eq_true] at hz
        cases hj : idxD p ps with
        | none => rw [hj] at ho; exact ho.elim
        | some j =>
          rw [hj] at ho
          obtain ⟨⟨z, z1, z2⟩, z3⟩ := idxD_ok hj
          obtain ⟨a, vs, rfl, h1, h2⟩ := tup_rel rd
          obtain ⟨w', rfl, ry⟩ := relL1 rds
          have dy : Dp X.K H w' p := by rw [xg.K]; exact dp_of ry hp
          have da : DpAll X.K H vs ps := by rw [xg.K]; exact dpAll_of h2 hps
          obtain rfl : v = Value.ref a := rx
          obtain ⟨uy, rfl, ru⟩ := vals1 rs
          obtain ⟨bs, r1⟩ := Dp.reads I p w' uy dy ru
          have lay : PyData.canLayAll0 ps = true := SeqAt.canLay_of_shaped hz.1
          have room : X.A.units + 1 + min (PyData.depthAll ps) p.depth < cLine := room_in_shaped hz.2 hu
          obtain ⟨its, rv, ⟨⟨cls, dd, data, sl⟩, o1, o2, n, o3⟩, zl⟩ := I.tuple (xs := vs) (a := a) (by rw [xg.K]; exact h1)
          simp only at o2 o3
          subst o2 o3
          obtain ⟨as, ra⟩ := Dp.readsAll I ps _ its da rv
          have l1 : its.length = ps.length := SeqAt.ReadsAll.length ps its as ra
          have mp : its.map (SeqAt.readOf s.heap) = ps := SeqAt.readsAll_map ps its as lay ra
          have jl : j < its.toArray.size := by
            have := (List.getElem?_eq_some_iff.mp z1).1
            simp
            omega
          have rd_ : ∀ (m : Nat) (hm : m < its.toArray.size), ps[m]? = some (SeqAt.readOf s.heap its.toArray[m]) := fun m hm => by
            have hm' : m < its.length := by simpa using hm
            rw [← mp, List.getElem?_map, List.getElem?_eq_getElem hm']
            simp
          refine call_meets PySem.F.slot_tuple_index ⟨_, o1, rfl⟩ PySem.F.entry_tuple_index (PySem.F.args_tuple_index_2 _ _) (TI.tuple_indexAt a its.toArray n dd sl uy (fun u => PyData.eqv (SeqAt.readOf s.heap u) p) j jl ?_ fun m hm hmj => z3 m _ hmj (rd_ m hm))
            ⟨o1, SeqAt.items_eqAt (vs := its.toArray) (show ReadsAll s.heap its.toArray.toList ps as from ra) r1 lay (SeqAt.canLay_of_shaped hz.2) room, ?_⟩
          · have := rd_ j jl
            rw [z1] at this
            cases this
            exact z2
          · exact ⟨.int (j : Nat), H, I.tok _, ⟨_, rfl⟩, outS_flat so ho (by simp [Rel])⟩
      · exact ho.elim
    · exact ho.elim
  · exact ho.elim
end
end SD

set_option Elab.async false
set_option linter.all false
set_option maxRecDepth 100000
set_option maxHeartbeats 4000000
/-! SD: own exceptions are raised. -/
namespace SD
open PySem PySem.Spec PyProof.Rows L2

/-! ### what C.__init__ promises: a field for each parameter, then the code -/
def fsI (code : Str) (ps : List Str) (ys : List V) : List (Str × V) := ("code", .str code) :: (ps.zip ys).reverse
def spI (C : Addr) (ps : List Str) (code : Str) : Sp := fun vs H Q _ => vs.length = ps.length + 1 ∧ ∃ (a : Addr) (ys : List V), vs = .ref a :: ys ∧ ys.length = ps.length ∧ H a = some (exo a C none) ∧ ∀ dx, H dx = none → dx ≠ a → Q .non (upd (upd H dx (exd dx (fsI code ps ys))) a (exo a C (some dx)))
theorem upd_again {H : Hp} {a d : Addr} {o1 o2 o3 : HO} (h : d ≠ a) : upd (upd (upd H d o1) a o2) d o3 = upd (upd H d o3) a o2 := by
  funext b
  by_cases hb : b = d
  · subst hb
    rw [upd_same, upd_ne h, upd_same]
  · rw [upd_ne hb]
    by_cases ha : b = a
    · subst ha; rw [upd_same, upd_same]
    · rw [upd_ne ha, upd_ne ha, upd_ne hb, upd_ne hb]
section
variable {P : Program} {w : World} {K : PySem.W.Frag} {mg : Str → Option Value} {base : Heap} {qual code f1 f2 : Str} {params : Arguments} {scope : Scope} {fI C : Addr} {fd : FuncData} {k j : Nat} {p1 p2 p3 p4 q1 q2 q3 q4 r1 r2 r3 r4 : Pos}
theorem init0 {N : List Str} (F : FunD K "__init__" qual params [.Assign [.Attribute (.Name "self" p1) "code" p2] (.Constant (.str code) j p3) p4] scope [] [] fI fd) (S : FnScope N ["self"] scope)
    (T : OexC K C) (hc : PySem.W.findIn K (.ref C) "code" = some none)
    (hv : ∀ (cdv : Value) (A : Around) (outer : List Env) (s : Shared) (H : Hp) (E : XK), PE (cxOf (L2.CX P w) P w K mg base N qual scope fI cdv A outer s H E) (.Name "self" p1) (tVar 0)) (h0 : N.length = 1) :
    FnOk P w K mg base (L2.CX P w) (k + 1) fI fd ["self"] (spI C [] code) := by
  refine F.ok S (fun vs H Q E h => h.1) (fun cdv A outer s H vs Q E hr h => ⟨_, pss_one (ps_ost (hv cdv A outer s H E) pe_str), ?_⟩)
  obtain ⟨_, a, ys, rfl, hl, ha, h⟩ := h
  have : ys = [] := List.length_eq_zero_iff.mp hl
  subst this
  refine ⟨.ref a, rfl, a, C, rfl, T, hc, .inl ⟨ha, fun dx n ne => ?_⟩⟩
  exact h dx n ne
theorem init1 {N : List Str} (F : FunD K "__init__" qual params [.Assign [.Attribute (.Name "self" p1) f1 p2] (.Name f1 p3) p4, .Assign [.Attribute (.Name "self" q1) "code" q2] (.Constant (.str code) j q3) q4] scope [] [] fI fd) (S : FnScope N ["self", f1] scope)
    (T : OexC K C) (hc : PySem.W.findIn K (.ref C) "code" = some none) (h1 : PySem.W.findIn K (.ref C) f1 = some none)
    (hv : ∀ (cdv : Value) (A : Around) (outer : List Env) (s : Shared) (H : Hp) (E : XK) (p : Pos), PE (cxOf (L2.CX P w) P w K mg base N qual scope fI cdv A outer s H E) (.Name "self" p) (tVar 0))
    (hv1 : ∀ (cdv : Value) (A : Around) (outer : List Env) (s : Shared) (H : Hp) (E : XK), PE (cxOf (L2.CX P w) P w K mg base N qual scope fI cdv A outer s H E) (.Name f1 p3) (tVar 1))
    (hs : ∀ env : Env, swapsWith (.Name f1 p3) (some (.Attribute (.Name "self" p1) f1 p2)) p4.line env = pure false := by intro _; rfl) (h0 : N.length = 2) :
    FnOk P w K mg base (L2.CX P w) (k + 1) fI fd ["self", f1] (spI C [f1] code) := by
  refine F.ok S (fun vs H Q E h => h.1) (fun cdv A outer s H vs Q E hr h => ⟨_, pss_cons (ps_ost (hv cdv A outer s H E p1) (hv1 cdv A outer s H E) (hs _)) (pss_one (ps_ost (hv cdv A outer s H E q1) pe_str)), ?_⟩)
  obtain ⟨_, a, ys, rfl, hl, ha, h⟩ := h
  match ys, hl with
  | [y], _ =>
    refine ⟨y, rfl, .ref a, rfl, a, C, rfl, T, h1, .inl ⟨ha, fun dx n ne => ?_⟩⟩
    refine ⟨.ref a, rfl, a, C, rfl, T, hc, .inr ⟨dx, [(f1, y)], upd_same, by rw [upd_ne ne, upd_same], by simp, ?_⟩⟩
    show Q .non (upd (upd (upd H dx _) a _) dx _)
    rw [upd_again ne]
    exact h dx n ne
theorem init2 {N : List Str} (F : FunD K "__init__" qual params [.Assign [.Attribute (.Name "self" p1) f1 p2] (.Name f1 p3) p4, .Assign [.Attribute (.Name "self" r1) f2 r2] (.Name f2 r3) r4, .Assign [.Attribute (.Name "self" q1) "code" q2] (.Constant (.str code) j q3) q4] scope [] [] fI fd) (S : FnScope N ["self", f1, f2] scope)
    (T : OexC K C) (hc : PySem.W.findIn K (.ref C) "code" = some none) (h1 : PySem.W.findIn K (.ref C) f1 = some none) (h2 : PySem.W.findIn K (.ref C) f2 = some none)
    (hv : ∀ (cdv : Value) (A : Around) (outer : List Env) (s : Shared) (H : Hp) (E : XK) (p : Pos), PE (cxOf (L2.CX P w) P w K mg base N qual scope fI cdv A outer s H E) (.Name "self" p) (tVar 0))
    (hv1 : ∀ (cdv : Value) (A : Around) (outer : List Env) (s : Shared) (H : Hp) (E : XK), PE (cxOf (L2.CX P w) P w K mg base N qual scope fI cdv A outer s H E) (.Name f1 p3) (tVar 1))
    (hv2 : ∀ (cdv : Value) (A : Around) (outer : List Env) (s : Shared) (H : Hp) (E : XK), PE (cxOf (L2.CX P w) P w K mg base N qual scope fI cdv A outer s H E) (.Name f2 r3) (tVar 2))
    (hs : ∀ env : Env, swapsWith (.Name f1 p3) (some (.Attribute (.Name "self" p1) f1 p2)) p4.line env = pure false := by intro _; rfl) (hs2 : ∀ env : Env, swapsWith (.Name f2 r3) (some (.Attribute (.Name "self" r1) f2 r2)) r4.line env = pure false := by intro _; rfl) (h0 : N.length = 3) :
    FnOk P w K mg base (L2.CX P w) (k + 1) fI fd ["self", f1, f2] (spI C [f1, f2] code) := by
  refine F.ok S (fun vs H Q E h => h.1) (fun cdv A outer s H vs Q E hr h => ⟨_, pss_cons (ps_ost (hv cdv A outer s H E p1) (hv1 cdv A outer s H E) (hs _)) (pss_cons (ps_ost (hv cdv A outer s H E r1) (hv2 cdv A outer s H E) (hs2 _)) (pss_one (ps_ost (hv cdv A outer s H E q1) pe_str))), ?_⟩)
  obtain ⟨_, a, ys, rfl, hl, ha, h⟩ := h
  match ys, hl with
  | [y, z], _ =>
    refine ⟨y, rfl, .ref a, rfl, a, C, rfl, T, h1, .inl ⟨ha, fun dx n ne => ?_⟩⟩
    refine ⟨z, rfl, .ref a, rfl, a, C, rfl, T, h2, .inr ⟨dx, [(f1, y)], upd_same, by rw [upd_ne ne, upd_same], by simp, ?_⟩⟩
    show tOst K "code" (tVar 0) (tC (.str code)) _ _ (upd (upd (upd H dx _) a _) dx _)
    rw [upd_again ne]
    refine ⟨.ref a, rfl, a, C, rfl, T, hc, .inr ⟨dx, [(f2, z), (f1, y)], upd_same, by rw [upd_ne ne, upd_same], by simp, ?_⟩⟩
    show Q .non (upd (upd (upd H dx _) a _) dx _)
    rw [upd_again ne]
    exact h dx n ne
end
/-! ### raise C(..) -/
/-- an own exception class, as those who raise see it: its number c, its params, its code -/
structure XcG (P : Program) (w : World) (g : Gc) (mg : Str → Option Value) (base : Heap) (k : Nat) (x : Str) (c : Nat) (ps : List Str) (code : Str) : Prop where
  ex : ∃ (fI : Addr) (fd : FuncData), mg x = some (.ref (g.cls c)) ∧ OexC g.K (g.cls c) ∧ PySem.W.findIn g.K (.ref (g.cls c)) "__init__" = some (some (.ref fI)) ∧ PySem.W.typeIn g.K (.ref fI) = some (.type "function") ∧
    Binds g.K fd ("self" :: ps) [] ∧ FnOk P w g.K mg base (L2.CX P w) k fI fd ("self" :: ps) (spI (g.cls c) ps code)
def sRaise (c : Nat) (ps : List Str) (code : Str) (r : DA) : DS := fun ρ μ => (r ρ μ).toS ρ fun ds μ1 => if ds.length = ps.length ∧ ps.length ≤ 900 then .ex c ("code" :: ps.reverse) (.str code :: ds.reverse) ρ μ1 else .stuck
theorem zip_rev {α β : Type} : ∀ {xs : List α} {ys : List β}, ys.length = xs.length → xs.reverse.zip ys.reverse = (xs.zip ys).reverse
  | [], _, _ => by simp
  | x :: xs, [], h => by simp at h
  | x :: xs, y :: ys, h => by
    have h' : ys.length = xs.length := by simpa using h
    rw [List.reverse_cons, List.reverse_cons, List.zip_append (by simp [h']), zip_rev h']
    show (xs.zip ys).reverse ++ [(x, y)] = ((x, y) :: xs.zip ys).reverse
    rw [List.reverse_cons]
theorem fsI_zip {code : Str} {ps : List Str} {ys : List V} (h : ys.length = ps.length) : fsI code ps ys = (("code" : Str) :: ps.reverse).zip (V.str code :: ys.reverse) := by
  unfold fsI
  rw [List.zip_cons_cons, zip_rev h]
theorem RelL.reverse {g : Gc} {κ : KA} {H : Hp} {xs : List DV} {vs : List V} (r : RelL g κ H xs vs) : RelL g κ H xs.reverse vs.reverse := RelL.rev r
section
variable {g : Gc} {W : WX} {X : Cx} {e : Expr} {es : List Expr} {fr : DA} {pos p pos' : Pos} {x : Str} {k c : Nat} {ps : List Str} {code : Str}
theorem gs_raise (G : XcG X.prog X.w g X.mg X.base k x c ps code) (xg : XG g X) (hc : X.calm = true) (hr : Room (k + 1) X.A) (hg : Gl X x) (tk : Takes X W) (ha : GA g W X (e :: es) fr)
    (hdb : (x == ("__debug__" : Str)) = false := by decide) (he : starEach (e :: es) X.env = (false, eval e X.env) :: starEach es X.env := by rfl) (hpl : (backTo pos (starEach es X.env)).any (·.1) = false := by rfl) :
    GS g W X (.Raise (some (.Call (.Name x p) (e :: es) [] pos)) none pos') (sRaise c ps code fr) := by
  obtain ⟨fI, fd, h1, T, iC, tI, bn, F⟩ := G.ex
  have eK : X.K = g.K := xg.K
  rw [← eK] at T iC tI bn F
  refine PS.imp (ps_raise hc tk (pmk_oex (dvs := []) T iC tI F hr bn .nil (passes_call tk fun _ _ _ _ h => h.elim) hg h1 ha hdb he hpl)) fun D σ H q => ?_
  obtain ⟨κ, ρ, μ, hE, hs, hw⟩ := q
  refine ⟨κ, ρ, μ, hE, hs, (wpS.bind hE hw).mono fun ds μ1 κ1 H1 e1 s1 hh vs rv => ?_⟩
  by_cases hl : ds.length = ps.length ∧ ps.length ≤ 900
  · rw [if_pos hl] at hh
    have hv : vs.length = ps.length := by rw [← rv.length]; exact hl.1
    refine ⟨by omega, fun a ha => ?_⟩
    rw [List.append_nil]
    refine ⟨by simp [hv], a, vs, rfl, hv, upd_same, fun dx n ne => ?_⟩
    have nd : H1 dx = none := by rwa [upd_ne ne] at n
    refine ⟨rfl, dx, fsI code ps vs, upd_same, by rw [upd_ne ne, upd_same], nd, ?_⟩
    have eH : upd (del (upd (upd (upd H1 a (exo a (g.cls c) none)) dx (exd dx (fsI code ps vs))) a (exo a (g.cls c) (some dx))) a) dx (.xd (fsI code ps vs)) = upd H1 dx (.xd (fsI code ps vs)) := by
      funext b
      by_cases hb : b = dx
      · subst hb; rw [upd_same, upd_same]
      · rw [upd_ne hb, upd_ne hb]
        by_cases hba : b = a
        · subst hba; rw [del_same, ha]
        · rw [del_ne hba, upd_ne hba, upd_ne hb, upd_ne hba]
    rw [eH]
    refine hh κ1 _ σ (Ext.new s1 nd) (s1.new nd) ((hE.ext e1).ext (Ext.new s1 nd)) dx (V.str code :: vs.reverse) ?_ (by simp [hv]) (RelL.cons (by simp [Rel]) ((RelL.rev rv).ext (Ext.new s1 nd)))
    rw [← fsI_zip hv]
    exact ⟨upd_same, s1.fresh nd⟩
  · rw [if_neg hl] at hh; exact hh.elim
end
end SD

set_option Elab.async false
set_option linter.all false
set_option maxRecDepth 100000
set_option maxHeartbeats 4000000
/-! SD: the handled exception as data; a def called within an except suite. -/
namespace SD
open PySem PySem.Spec PyProof.Rows L2

/-! ### data without the handled exception -/
mutual
def DV.noE : DV → Bool
  | .tup xs => noEL xs
  | .lst xs => noEL xs
  | .scr xs => noEL xs
  | .dct _ xs => noEL xs
  | .obj _ _ xs => noEL xs
  | .exn _ _ _ => false
  | _ => true
def noEL : List DV → Bool
  | [] => true
  | x :: xs => x.noE && noEL xs
end
def CO.noE : CO → Bool
  | .dead => true
  | .lst xs => noEL xs
  | .ins _ _ xs => noEL xs
section
variable {g g' : Gc} {κ : KA} {H : Hp} {μ : Sto}
mutual
theorem Rel.isNoE (hg : g.ex = none) : ∀ {d : DV} {v : V}, Rel g κ H d v → d.noE = true
  | .non, _, _ => rfl
  | .bl _, _, _ => rfl
  | .int _, _, _ => rfl
  | .str _, _, _ => rfl
  | .ty _, _, _ => rfl
  | .gl _, _, _ => rfl
  | .cell _, _, _ => rfl
  | .tup xs, _, h => by simp only [Rel] at h; obtain ⟨_, _, _, _, h3⟩ := h; exact RelL.isNoE hg h3
  | .lst xs, _, h => by simp only [Rel] at h; obtain ⟨_, _, _, _, h3⟩ := h; exact RelL.isNoE hg h3
  | .scr xs, _, h => by simp only [Rel] at h; obtain ⟨_, _, _, _, h3⟩ := h; exact RelL.isNoE hg h3
  | .dct _ xs, _, h => by simp only [Rel] at h; obtain ⟨_, _, _, _, _, h3⟩ := h; exact RelL.isNoE hg h3
  | .obj _ _ xs, _, h => by simp only [Rel] at h; obtain ⟨_, _, _, _, _, _, h3⟩ := h; exact RelL.isNoE hg h3
  | .exn _ _ xs, _, h => by simp only [Rel] at h; obtain ⟨_, _, _, h0, _⟩ := h; rw [hg] at h0; cases h0
theorem RelL.isNoE (hg : g.ex = none) : ∀ {xs : List DV} {vs : List V}, RelL g κ H xs vs → noEL xs = true
  | [], _, _ => rfl
  | x :: xs, _, h => by
    obtain ⟨v, r, rfl, h1, h2⟩ := h.of_cons
    simp only [noEL, Bool.and_eq_true]
    exact ⟨Rel.isNoE hg h1, RelL.isNoE hg h2⟩
end
theorem frL_swap (hK : g'.K = g.K) {a : Addr} {vs : List V} (h : FrL g κ H a vs) : FrL g' κ H a vs := by
  unfold FrL at *
  rw [hK]; exact h
theorem frT_swap (hK : g'.K = g.K) {a : Addr} {vs : List V} (h : FrT g κ H a vs) : FrT g' κ H a vs := by
  unfold FrT at *
  rw [hK]; exact h
mutual
theorem Rel.swap (hK : g'.K = g.K) (hc : g'.cls = g.cls) : ∀ {d : DV} {v : V}, d.noE = true → Rel g κ H d v → Rel g' κ H d v
  | .non, _, _, h => by simpa only [Rel] using h
  | .bl _, _, _, h => by simpa only [Rel] using h
  | .int _, _, _, h => by simpa only [Rel] using h
  | .str _, _, _, h => by simpa only [Rel] using h
  | .ty _, _, _, h => by simpa only [Rel] using h
  | .gl _, _, _, h => by simp only [Rel] at h ⊢; rw [hc]; exact h
  | .cell _, _, _, h => by simpa only [Rel] using h
  | .tup xs, _, n, h => by simp only [Rel] at h ⊢; obtain ⟨a, vs, h1, h2, h3⟩ := h; exact ⟨a, vs, h1, frT_swap hK h2, RelL.swap hK hc n h3⟩
  | .lst xs, _, n, h => by simp only [Rel] at h ⊢; obtain ⟨a, vs, h1, h2, h3⟩ := h; exact ⟨a, vs, h1, h2, RelL.swap hK hc n h3⟩
  | .scr xs, _, n, h => by simp only [Rel] at h ⊢; obtain ⟨a, vs, h1, h2, h3⟩ := h; exact ⟨a, vs, h1, frL_swap hK h2, RelL.swap hK hc n h3⟩
  | .dct _ xs, _, n, h => by simp only [Rel] at h ⊢; obtain ⟨a, vs, h1, h2, hl, h3⟩ := h; exact ⟨a, vs, h1, h2, hl, RelL.swap hK hc n h3⟩
  | .obj _ _ xs, _, n, h => by simp only [Rel] at h ⊢; obtain ⟨a, dx, vs, h1, h2, hl, h3⟩ := h; exact ⟨a, dx, vs, h1, by rw [hc]; exact h2, hl, RelL.swap hK hc n h3⟩
  | .exn _ _ xs, _, n, _ => by cases n
theorem RelL.swap (hK : g'.K = g.K) (hc : g'.cls = g.cls) : ∀ {xs : List DV} {vs : List V}, noEL xs = true → RelL g κ H xs vs → RelL g' κ H xs vs
  | [], _, _, h => by cases h.of_nil; exact RelL.nil
  | x :: xs, _, n, h => by
    obtain ⟨v, r, rfl, h1, h2⟩ := h.of_cons
    simp only [noEL, Bool.and_eq_true] at n
    exact RelL.cons (Rel.swap hK hc n.1 h1) (RelL.swap hK hc n.2 h2)
end
theorem StoOk.swap (hK : g'.K = g.K) (hc : g'.cls = g.cls) (hT : g'.T = g.T) (n : ∀ c ∈ μ, c.noE = true) (s : StoOk g κ H μ) : StoOk g' κ H μ where
  len := s.len
  inj := s.inj
  at_ := fun i c hi => by
    obtain ⟨a, h1, h2⟩ := s.at_ i c hi
    refine ⟨a, h1, ?_⟩
    have n1 := n c (List.mem_of_getElem? hi)
    cases c with
    | dead => exact h2
    | lst xs => obtain ⟨p, vs, e, h3, h4⟩ := h2; exact ⟨p, vs, e, h3, h4.swap hK hc n1⟩
    | ins c ns xs => obtain ⟨p, dx, vs, e, h3, hl, h4⟩ := h2; exact ⟨p, dx, vs, e, by rw [hc]; exact h3, hl, h4.swap hK hc n1⟩
  gst := s.gst
  tbs := fun p hp => s.tbs p (by rw [← hT]; exact hp)
theorem StoOk.isNoE (hg : g.ex = none) (s : StoOk g κ H μ) : ∀ c ∈ μ, c.noE = true := fun c hc => by
  obtain ⟨i, hi⟩ := List.getElem?_of_mem hc
  obtain ⟨a, h1, h2⟩ := s.at_ i c hi
  cases c with
  | dead => rfl
  | lst xs => obtain ⟨p, vs, e, h3, h4⟩ := h2; exact h4.isNoE hg
  | ins c ns xs => obtain ⟨p, dx, vs, e, h3, hl, h4⟩ := h2; exact h4.isNoE hg
end
/-- the handled exception: at a, its dict at d, of the class c -/
def gX (g : Gc) (a d : Addr) (c : Nat) : Gc := { g with ex := some (a, d, c) }

/-! ### its fields -/
def vXf (cs : List Nat) (n : Str) : V1 := fun d _ => match d with
  | .exn c ns xs => if cs.contains c = true then (ns.zip xs).lookup n else none
  | _ => none
theorem lookup_rel {g : Gc} {κ : KA} {H : Hp} {n : Str} {d : DV} : ∀ {ns : List Str} {xs : List DV} {vs : List V}, RelL g κ H xs vs → (ns.zip xs).lookup n = some d → ∃ v, (ns.zip vs).lookup n = some v ∧ Rel g κ H d v
  | [], xs, vs, r, h => by simp at h
  | m :: ns, [], vs, r, h => by simp at h
  | m :: ns, x :: xs, vs, r, h => by
    obtain ⟨v, r', rfl, h1, h2⟩ := r.of_cons
    rw [List.zip_cons_cons] at h ⊢
    by_cases e : n = m
    · subst e
      rw [List.lookup_cons_self] at h ⊢
      cases h
      exact ⟨v, rfl, h1⟩
    · have e' : (n == m) = false := by simpa using e
      rw [List.lookup_cons, e'] at h ⊢
      exact lookup_rel h2 h
/-- what the classes cs must have for the field n to be read -/
def XfOk (g : Gc) (cs : List Nat) (n : Str) : Prop := ∀ c ∈ cs, XfC g.K (g.cls c) ∧ PySem.W.findIn g.K (.ref (g.cls c)) n = some none
theorem ge_xf {g : Gc} {W : WX} {X : Cx} {e : Expr} {fe : DE} {n : Str} {a d : Addr} {c : Nat} {cs : List Nat} {oe : Obj} {pos : Pos} (xg : XG g X) (hx : g.ex = some (a, d, c)) (hp : (a, oe) ∈ X.pn) (hz : Zc (.ref (g.cls c)) (some d) oe) (hf : ∃ vs, oe.data = .fields vs) (hT : XfOk g cs n)
    (he : GE g W X e fe) (hb : attributeBase e n X.env (eval e X.env) = eval e X.env := by rfl) : GE g W X (.Attribute e n pos) (eUn (vXf cs n) fe) := by
  refine ⟨fun pins s σ H Q I h => ?_⟩
  obtain ⟨κ, ρ, μ, hE, hs, hw⟩ := h
  refine attr_of hb (thn (he.run pins s σ H (fun x H1 => ∃ κ1 ns xs μ1 dv, Rel g κ1 H1 (.exn c ns xs) x ∧ StoOk g κ1 H1 μ1 ∧ cs.contains c = true ∧ (ns.zip xs).lookup n = some dv ∧ ∀ v, Rel g κ1 H1 dv v → Q v H1) I ⟨κ, ρ, μ, hE, hs, (wpR.bind (show wpR g W σ κ H ((fe ρ μ).bind fun x μ1 => R.of (vXf cs n x μ1) μ1) _ from hw)).mono fun x μ1 κ1 H1 e1 s1 h1 v rv => ?_⟩) fun u s1 hh => ?_)
  · have h1 := out_of h1
    cases x with
    | exn c' ns xs =>
      have rv' := rv
      simp only [Rel] at rv'
      obtain ⟨a', d', vs, h0, _⟩ := rv'
      rw [hx] at h0
      cases h0
      simp only [vXf] at h1
      by_cases hc : cs.contains c = true
      · rw [if_pos hc] at h1
        cases hl : (ns.zip xs).lookup n with
        | none => rw [hl] at h1; exact h1.elim
        | some dv => rw [hl] at h1; exact ⟨κ1, ns, xs, μ1, dv, rv, s1, hc, hl, fun v r => h1 κ1 H1 Ext.refl s1 v r⟩
      · rw [if_neg hc] at h1; exact h1.elim
    | _ => exact h1.elim
  · obtain ⟨x, H1, I1, rx, κ1, ns, xs, μ1, dv, r1, so, hc, hl, q⟩ := hh
    simp only [Rel] at r1
    obtain ⟨a', d', vs, h0, rfl, h2, hlen, h3⟩ := r1
    rw [hx] at h0
    cases h0
    obtain rfl : u = Value.ref a := rx
    obtain ⟨T, hno⟩ := hT c (by simpa using hc)
    obtain ⟨v, hv, rv⟩ := lookup_rel h3 hl
    obtain ⟨ha, _⟩ := I1.pin (a, oe) (List.mem_append_left _ hp)
    obtain ⟨us, hd⟩ := hf
    have hxd : ObjOk X.prog X.w H1 s1.heap d (.xd (ns.zip vs)) := I1.hok d _ h2.1
    obtain ⟨mA, hns, hr⟩ := hxd
    obtain ⟨od, ho, hlk⟩ := lookIn_ns hns
    obtain ⟨w, hu, ru⟩ := RelO.some_of (v := v) (o := mA n) (by rw [← hv]; exact hr n)
    have eK : g.K = X.K := xg.K.symm
    rw [eK] at T hno
    have J : PySem.W.InstAt s1.heap a oe (g.cls c) (some od) := ⟨ha, hz.1, by unfold PySem.W.notCls; rw [hd] <;> rfl, by rw [hz.2]; exact ho⟩
    exact HandSPX.exc_get I1.kIn J T.ga T.gg T.exC (PySem.W.findObj_own T.hdC hno rfl (by rw [hlk, hu])) (handed_of ru) ⟨v, H1, I1.tok _, ru, q v rv⟩

/-! ### a def called with the handled exception -/
theorem run_read {g : Gc} {E : XK} {κ : KA} {H : Hp} {μ : Sto} {N : List Str} {np : Nat} {md : Md} {fb : DS} {ds : List DV} {vs : List V} {Q : VK} (r : RelL g κ H ds vs) (so : StoOk g κ H μ) (hd : ds.length = np)
    (h : wpR g (WF E) [] κ H (runF md np N.length fb ds μ) (fun d _ κ' H' => ∀ v, Rel g κ' H' d v → Q v H')) : tS g (WF E) fb { nx := fun _ H' => Q .non H', rt := Q } (L2.start N vs) H := by
  unfold runF at h
  rw [if_pos hd] at h
  refine ⟨κ, _, μ, start_rel r, so, ?_⟩
  generalize fb (ds.map some ++ List.replicate (N.length - ds.length) none) μ = out at h
  have fin' : ∀ {d : DV} {v : V} {κ' : KA} {H' : Hp} {μ' : Sto}, Ext κ H κ' H' → StoOk g κ' H' μ' → Rel g κ' H' d v → wpR g (WF E) [] κ H (fin md μ.length d μ') (fun d _ κ' H' => ∀ v, Rel g κ' H' d v → Q v H') → Q v H' := fun {d v κ' H' μ'} e s' rv h => by
    cases ef : fin md μ.length d μ' with
    | ok d' μ'' =>
      rw [ef] at h
      obtain ⟨κ'', e2, s2, r2⟩ := fin_ok so e s' rv ef
      exact h κ'' H' e2 s2 v r2
    | ex c ns xs μ'' => cases md with
      | fz => exact (finF_no ef).elim
      | cl => exact (finC_no ef).elim
    | stuck => rw [ef] at h; exact h.elim
  cases out with
  | nx ρ' μ' => intro κ' H' σ' e s' _; exact fin' e s' (by simp [Rel]) h
  | rt d μ' => intro κ' H' v e s' rv; exact fin' e s' rv h
  | bk ρ' μ' => exact h.elim
  | ct ρ' μ' => exact h.elim
  | ex c ns xs ρ' μ' =>
    intro κ' H' σ' e s' _ d vs' h1 h2 h3
    simp only at h
    unfold finX at h
    by_cases hl : μ'.length = μ.length
    · rw [if_pos hl] at h; exact h κ' H' e s' d vs' h1 h2 h3
    · rw [if_neg hl] at h
      by_cases hc : ((μ'.take μ.length).all (CO.low μ.length) && lowL μ.length xs) = true
      · rw [if_pos hc] at h
        simp only [Bool.and_eq_true] at hc
        have hn : μ.length ≤ κ'.cs.length := by rw [← so.len]; exact e.len
        exact h _ H' (by rw [← so.len]; exact e.cut) (s'.cut hn (all_low hc.1)) d vs' h1.cut h2 (h3.cut hn hc.2)
      · rw [if_neg hc] at h; exact h.elim
  | stuck => exact h.elim
abbrev E0 : XK := fun _ _ _ => False
/-- what such a def promises: its one argument is the handled exception -/
structure FnF (P : Program) (w : World) (g : Gc) (mg : Str → Option Value) (base : Heap) (k : Nat) (f : Addr) (fd : FuncData) (y : Str) (F : Fn) : Prop where
  run : ∀ (A : Around) (outer : List Env) (s : Shared) (H : Hp) (args : Args) (Q : VK) (p : Addr × Obj) (d : Addr) (c : Nat) (κ : KA) (x : DV) (μ : Sto), L2H.RoomH k A → L2H.PinOk outer H s p → Zc (.ref (g.cls c)) (some d) p.2 → (∃ vs, p.2.data = .fields vs) →
    Env0 P w g.K mg base A outer s H → BindsTo s fd args [(y, .ref p.1)] → StoOk (gX g p.1 d c) κ H μ → Rel (gX g p.1 d c) κ H x (.ref p.1) → wpR (gX g p.1 d c) (WF E0) [] κ H (F [x] μ) (fun r _ κ' H' => ∀ v, Rel (gX g p.1 d c) κ' H' r v → Q v H') →
    codeAny (model P w) A (.call (.ref f) args) (CR (L2.CX P w) outer P w H s Q E0) s
theorem fnF_ok {P : Program} {w : World} {g : Gc} {mg : Str → Option Value} {base : Heap} {k : Nat} {f : Addr} {fd : FuncData} {x qual y : Str} {params : Arguments} {body : List Stmt} {scope : Scope} {N : List Str} {fb : DS}
    (F : FunD g.K x qual params body scope [] [] f fd) (S : FnScope N [y] scope)
    (hb : ∀ (cdv : Value) (A : Around) (outer : List Env) (s : Shared) (H : Hp) (p : Addr × Obj) (d : Addr) (c : Nat), L2H.RoomH k (A.deeper (envOfC qual scope s.heap.objs.size f cdv)) → Zc (.ref (g.cls c)) (some d) p.2 → (∃ vs, p.2.data = .fields vs) →
      GSs (gX g p.1 d c) (WF E0) (L2H.cxH (L2.CX P w) P w g.K mg base N qual scope f cdv A outer s H E0 p) body fb) :
    FnF P w g mg base (k + 1) f fd y (runF .fz 1 N.length fb) := by
  obtain ⟨oc, od, dV, kV, doc, pm, an, cdv, ct, osl, rfl, lk, hcd, _, _⟩ := F.ex
  refine ⟨fun A outer s H args Q p d c κ x' μ hr hpin hz hf e0 hbd so rx hw => ?_⟩
  have KX : g.K.In s.heap := e0.mod.kin.keeps fun b o e => (e0.bs b o e).1
  have lim : s.heap.NoLimit := e0.mod.nolimit.keeps fun b o e => (e0.bs b o e).1
  have hkind : ∀ z ∈ [y].zip [Value.ref p.1], scope.names.lookup z.1 = some .local ∨ (scope.names.lookup z.1 = some .cell ∧ ((cellsFrom (s.heap.objs.size + 1) scope.names []).lookup z.1).isSome = true) := fun ⟨n, v⟩ hy => by
    rcases S.par n (List.of_mem_zip hy).1 with q | q
    · exact .inl q
    · exact .inr ⟨q, PySem.W.cellsFrom_some _ _ _ (.inl q)⟩
  refine codeAny_call_function hr.depth (KX _ _ lk) rfl S.co S.gen rfl (PySem.W.codeRec_of KX hcd) (hbd _ _ _ _ ?_)
  refine wpAny_newFunctionEnv_cells S.kind hkind fun env he s1 z => ?_
  subst he
  refine ⟨lim.keeps z.toInCall.keep, codeAny_func ?_⟩
  have ht := hb cdv A outer s H p d c (hr.deeper _) hz hf
  have I : Inv (L2H.cxH (L2.CX P w) P w g.K mg base N qual scope f cdv A outer s H E0 p) [] (L2.start N [.ref p.1]) H s1 := L2H.inv_startH (vs := [.ref p.1]) (us := [.ref p.1]) S hpin e0 rfl (.cons rfl .nil) z
  refine wpAny_mono (ht.run [] s1 (L2.start N [.ref p.1]) H _ I (run_read (RelL.cons rx RelL.nil) so rfl hw)) (fun fl s' hs => ?_) fun e s' hs => hs
  have fin : ∀ {σ' : L2.St} {H' : Hp} {v : V} {u : Value}, Inv (L2H.cxH (L2.CX P w) P w g.K mg base N qual scope f cdv A outer s H E0 p) [] σ' H' s' → RelV v u → Q v H' → CE outer P w H s Q u s' :=
    fun {σ' H' v u} J rv q => ⟨v, H', J.os, J.bare, J.base, J.hok, rv, q⟩
  cases fl with
  | ret u =>
    obtain ⟨v, σ', H', J, rv, q⟩ := hs
    exact fin J rv q
  | next =>
    obtain ⟨σ', H', J, q⟩ := hs
    exact fin (v := V.non) (u := Value.none) J rfl q
  | brk =>
    obtain ⟨_, _, _, q⟩ := hs
    exact False.elim q
  | cont =>
    obtain ⟨_, _, _, q⟩ := hs
    exact False.elim q
/-- f(e), e the handled exception -/
def eCallF (F : Fn) (a : DE) : DE := fun ρ μ => (a ρ μ).bind fun x μ1 => match x with
  | .exn c ns xs => (F [.exn c ns xs] μ1).nox
  | _ => .stuck
theorem noCXE {P : Program} {w : World} {outer : List Env} {H : Hp} {s : Shared} {e : Value} {s' : Shared} (z : L2.CX P w outer H s E0 e s') : False := by
  obtain ⟨_, _, _, _, _, _, _, _, _, _, _, _, z⟩ := z
  exact z
theorem ge_callF {g : Gc} {W : WX} {X : Cx} {e : Expr} {fe : DE} {a d : Addr} {c : Nat} {oe : Obj} {q pos : Pos} {x y : Str} {k : Nat} {f : Addr} {fd : FuncData} {F : Fn} (FF : FnF X.prog X.w g X.mg X.base k f fd y F) (xg : X.K = g.K) (hr : L2H.RoomH k X.A) (hp : (a, oe) ∈ X.pn) (hz : Zc (.ref (g.cls c)) (some d) oe) (hf : ∃ vs, oe.data = .fields vs)
    (hg : Gl X x) (hm : X.mg x = some (.ref f)) (hk : PySem.W.keepIn g.K (.ref f) = true) (hb : Binds g.K fd [y] []) (he : GE (gX g a d c) W X e fe)
    (hdb : (x == ("__debug__" : Str)) = false := by decide) (hs : starEach [e] X.env = (false, eval e X.env) :: starEach [] X.env := by rfl) (hpl : (backTo pos (starEach [] X.env)).any (·.1) = false := by rfl) :
    GE (gX g a d c) W X (.Call (.Name x q) [e] [] pos) (eCallF F fe) := by
  refine ⟨fun pins s σ H Q I h => ?_⟩
  obtain ⟨κ, ρ, μ, hE, hS, hw⟩ := h
  have hw : wpR (gX g a d c) W σ κ H ((fe ρ μ).bind fun x μ1 => match x with
    | .exn c ns xs => (F [.exn c ns xs] μ1).nox
    | _ => .stuck) (fun d' _ κ' H' => ∀ v, Rel (gX g a d c) κ' H' d' v → Q v H') := hw
  refine wpAny_Call_Name_kw (ld_glob I hg hm ?_ hdb)
  have ha : PA X [e] (tCons (tE (gX g a d c) W fe) tNil) := pa_cons he pa_nil hs
  refine PySem.W.callWith_K (h₀ := X.base) I.ok.mod.kin (by rw [xg]; exact hk) (thn (ha.run pos pins s σ H (fun vs H1 => ∃ κ1 v x μ1, vs = [v] ∧ Rel (gX g a d c) κ1 H1 x v ∧ v = .ref a ∧ StoOk (gX g a d c) κ1 H1 μ1 ∧ wpR (gX g a d c) (WF E0) [] κ1 H1 (F [x] μ1) (fun d' _ κ' H' => ∀ v, Rel (gX g a d c) κ' H' d' v → Q v H')) I ?_) fun us s1 ⟨vs, H1, I1, r, hh⟩ => ⟨I1.kIn, ?_⟩) hs hpl
  · refine ⟨κ, ρ, μ, hE, hS, hw.bind.mono fun x μ1 κ1 H1 e1 s1 h1 v rv => ?_⟩
    cases x with
    | exn c' ns xs =>
      have rv' := rv
      simp only [Rel] at rv'
      obtain ⟨a', d', vs, h0, hv, _⟩ := rv'
      cases h0
      refine ⟨κ1, v, .exn c ns xs, μ1, rfl, rv, hv, s1, ?_⟩
      have h1 : wpR (gX g a d c) W σ κ1 H1 (F [.exn c ns xs] μ1).nox _ := h1
      cases hF : F [.exn c ns xs] μ1 with
      | ok r μ2 => rw [hF] at h1; exact h1
      | ex c2 ns2 xs2 μ2 => rw [hF] at h1; exact h1.elim
      | stuck => rw [hF] at h1; exact h1
    | _ => exact h1.elim
  · obtain ⟨κ1, v, x, μ1, rfl, rx, rfl, so, hw1⟩ := hh
    obtain ⟨u, rfl, ru⟩ := vals1 r
    cases ru
    have P1 := I1.pin (a, oe) (List.mem_append_left _ hp)
    have hpin : L2H.PinOk X.stack H1 s1 (a, oe) := ⟨P1.1, P1.2.1, fun hm => (List.mem_cons.mp (I1.stkSub a hm)).elim P1.2.2.1 P1.2.2.2.1, P1.2.2.2.2⟩
    have b := hb s1 [.ref a] (by rw [← xg]; exact I1.kIn) rfl
    refine wpAny_call (codeAny_mono (FF.run X.A X.stack s1 H1 ⟨[.ref a], []⟩ Q (a, oe) d c κ1 x μ1 hr hpin hz hf (by rw [← xg]; exact I1.env0) b so rx hw1) fun r s' hq => ?_)
    cases r with
    | error e => exact (noCXE hq).elim
    | ok fl =>
      cases fl with
      | ret u => exact I1.after hq
      | next => exact False.elim hq
      | brk => exact False.elim hq
      | cont => exact False.elim hq
end SD

set_option Elab.async false
set_option linter.all false
set_option maxRecDepth 100000
set_option maxHeartbeats 4000000
/-! SD: a lambda handed to a def that calls it in a try. -/
namespace SD
open PySem PySem.Spec PyProof.Rows L2 LamX

/-! ### try: .. except (A, B) as n: .. -/
theorem flying_push {B h : Heap} {l : List Env} {a : Addr} {Z : Obj → Prop} (o : Obj) (fl : HandSPX.FlyingZ B l a Z h) : HandSPX.FlyingZ B l a Z (h.push o) := by
  obtain ⟨k1, k2, k3, oe, vs, T, oT, ts, he, hz, hd, h1, h4, h5, h6, h7, h8⟩ := fl
  exact ⟨fun b u e => Heap.get?_push_of_some _ (k1 b u e), k2, k3.of_keeps fun b u e _ => ⟨u, Heap.get?_push_of_some _ e, rfl⟩, oe, vs, T, oT, ts, Heap.get?_push_of_some _ he, hz, hd, h1, h4, h5, Heap.get?_push_of_some _ h6, h7, h8⟩
/-- the wish: the exception is one of both; the suite runs with the slot i -/
def wAs2 (K : PySem.W.Frag) (c1 c2 : Value) (i : Nat) (ts : Addr → Value → Option Addr → TS) (D : Ends) : WX := fun cls d σ H =>
  PySem.W.exmAny K cls [c1, c2] = some true ∧ ∀ a, H a = none → ts a cls d { nx := fun σ' H' => D.nx (σ'.set i none) H', rt := D.rt, bk := fun σ' H' => D.bk (σ'.set i none) H', ct := fun σ' H' => D.ct (σ'.set i none) H' } (σ.set i (some (.ref a))) H
section
variable {X : Cx} {x1 x2 n : Str} {c1 c2 : Value} {i j : Nat} {body suite : List Stmt} {b₀ : Stmt} {np1 np2 tp pos pos' : Pos} {tb : WX → TS} {ts : Addr → Value → Option Addr → TS}
theorem ps_try2as (hs : X.stack = X.env :: X.outer) (hf : X.env.frame = some X.env.locals) (hN : X.N.Nodup) (hi : X.N[i]? = some n) (hln : X.env.kindOf n = some .local) (hc1 : Gl X x1 ∧ X.mg x1 = some c1) (hc2 : Gl X x2 ∧ X.mg x2 = some c2) (hd1 : (x1 == ("__debug__" : Str)) = false) (hd2 : (x2 == ("__debug__" : Str)) = false)
    (hb : ∀ (W : WX) (pn : List (Addr × Obj)) (xe : Value → Shared → Prop), Takes (X.tr pn xe) W → PassesOwn (model X.prog X.w) X.A X.env xe → PSs (X.tr pn xe) body (tb W))
    (hsu : ∀ (a : Addr) (oe : Obj) (cls : Value) (d : Option Addr) (pn : List (Addr × Obj)), Zc cls d oe → (∃ vs, oe.data = .fields vs) → PSs (X.suite a ((a, oe) :: pn)) (b₀ :: suite) (ts a cls d))
    (he1 : ∀ env : Env, starEach [.Name x1 np1, .Name x2 np2] env = (false, eval (.Name x1 np1) env) :: starEach [.Name x2 np2] env := by intro _; rfl) (he2 : ∀ env : Env, starEach [.Name x2 np2] env = (false, eval (.Name x2 np2) env) :: starEach [] env := by intro _; rfl) :
    PS X (.Try body [.ExceptHandler (some (.Tuple [.Name x1 np1, .Name x2 np2] j tp)) (some n) (b₀ :: suite) pos'] [] [] pos) (fun D σ H => tb (wAs2 X.K c1 c2 i ts D) D σ H) := by
  refine ⟨fun pins s σ H D I h => wpAny_Try_except ?_⟩
  have ok := I.ok
  have hfr : X.A.frames = some (X.env :: X.outer) := by rw [ok.frames, hs]
  have hloc : Loc X.env.scope n := .inl hln
  refine wpAny_mono ((hb (wAs2 X.K c1 c2 i ts D) (X.pn ++ pins) (fun e s₁ => wpAny (model X.prog X.w) X.A (noteFrame e X.env) (fun _ s₂ => wpAny (model X.prog X.w) X.A (setFlight e none) (fun _ s₃ =>
    wpAny (model X.prog X.w) X.A (handleBy e X.env [.ExceptHandler (some (.Tuple [.Name x1 np1, .Name x2 np2] j tp)) (some n) (b₀ :: suite) pos']) (SP X pins D) X.xe s₃) X.xe s₂) X.xe s₁) (fun u s' xx => ?_) PassesOwn.looking).run [] s σ H D (I.toTry _) h) (fun f s1 hsp => ?_) (fun e s1 he => he)
  · obtain ⟨a, B, sI, pins', σ', H', cls, d, rfl, J', nb, up, sky, na, os, ag, hb1, hyes⟩ := xx
    have J : Inv X pins σ' H' sI := J'.ofTry ok
    have sky' : Sky B (X.env :: X.outer) a (Zc cls d) X.env.locals s'.heap := by rw [← hs]; exact sky
    show wpAny (model X.prog X.w) X.A (noteFrame (.ref a) X.env) _ _ _
    refine Sky.land Zc.steady hfr hf sky' fun h3 fl3 up3 => ?_
    have J3 : Inv X pins σ' H' { s' with heap := h3 } := J.landed nb fl3.1 (up.trans up3) os ag
    obtain ⟨oe3, vs3, he3, hz3, hd3⟩ := fl3.there
    have nfr : ∀ {h : Heap} {o : Obj} {vs : Array Value}, h.FunFrames B (X.env :: X.outer) → h.get? a = some o → o.data = .fields vs → a ∉ frs (X.env :: X.outer) := fun {h o vs} ff e dd hm => by
      obtain ⟨_, o', e', hnf⟩ := ff.mem hm
      rw [e] at e'; cases e'
      exact hnf _ dd
    have nf3 := nfr fl3.2.2.1 he3 hd3
    have nL : a ≠ X.env.locals := fun z => nf3 (List.mem_filterMap.mpr ⟨X.env, List.mem_cons_self, by rw [hf, z]⟩)
    have nF : a ∉ X.fs := fun hm => by
      obtain ⟨e, he, q⟩ := List.mem_filterMap.mp hm
      exact nf3 (List.mem_filterMap.mpr ⟨e, List.mem_cons_of_mem _ he, q⟩)
    have S3 := J3.suite he3 hd3 na nL nF
    refine wpAny_handleBy_cons (codeAny_handlers_test ?_) (by intro q; cases q)
    refine wpAny_Tuple_spliced (spliced_more (ld_glob (X := X.suite a ((a, oe3) :: (X.pn ++ pins))) S3 hc1.1 hc1.2 (spliced_more (ld_glob (X := X.suite a ((a, oe3) :: (X.pn ++ pins))) S3 hc2.1 hc2.2 (spliced_none ⟨by show 2 ≤ sizeLine; rw [sizeLine_eq]; decide, ?_⟩) hd2) (he2 _)) hd1) (he1 _))
    -- behind the test's tuple
    have flp := flying_push { cls := .type "tuple", data := .seq [c1, c2].toArray } fl3
    have kp : ∀ b o, h3.get? b = some o → (h3.push { cls := .type "tuple", data := .seq [c1, c2].toArray }).get? b = some o := fun b o e => Heap.get?_push_of_some _ e
    have upp : s'.heap.UpToSlots (h3.push { cls := .type "tuple", data := .seq [c1, c2].toArray }) := up3.trans (Heap.UpToSlots.of_keeps kp)
    have LT : PySem.W.Looks (model X.prog X.w) (h3.push { cls := .type "tuple", data := .seq [c1, c2].toArray }) (typeOf (.ref a)) cls := fun A Q E s k q => wpAny_typeOf_ref (k _ _ (kp _ _ he3)) (by rw [hz3.1]; exact q)
    have LM := PySem.W.exm_tup2 (M := model X.prog X.w) (J3.kIn.keeps kp) LT (Heap.get?_push_size h3 rfl) hb1
    refine LM.here ?_
    refine codeAny_handlers_suite_as ?_
    refine HandSPX.lands_againZ flp fun h4 fl4 up4 => ?_
    have J4 : Inv X pins σ' H' { s' with heap := h4 } := J.landed nb fl4.1 (up.trans (upp.trans up4)) os ag
    obtain ⟨oe4, vs4, he4, hz4, hd4⟩ := fl4.there
    have S4 := J4.suite he4 hd4 na nL nF
    refine store_ok (X := X.suite a ((a, oe4) :: (X.pn ++ pins))) (v := .ref a) S4 hN hi hloc rfl (fun s5 S5 => ?_) (.inr hln)
    refine wpAny_mono ((hsu a oe4 cls d (X.pn ++ pins) hz4 ⟨_, hd4⟩).run [] s5 _ H' _ S5 (hyes a na)) (fun f s6 hsp => ?_) (fun _ _ z => False.elim z)
    have end_ : ∀ {σ6 : L2.St} {H6 : Hp} {Q : Shared → Prop}, Inv (X.suite a ((a, oe4) :: (X.pn ++ pins))) [] σ6 H6 s6 → (∀ s7, Inv X pins (σ6.set i none) H6 s7 → Q s7) →
        wpAny (model X.prog X.w) X.A (do bindName X.env n .none; unbindBehindTheSuite X.env n pos') (fun _ s7 => Q s7) X.xe s6 := fun {σ6 H6 Q} S6 hq => gone_ok (S6.unsuite ok) hN hi hln hq
    cases f with
    | next =>
      obtain ⟨σ6, H6, S6, q6⟩ := hsp
      exact end_ S6 fun s7 J7 => ⟨_, _, J7, q6⟩
    | brk =>
      obtain ⟨σ6, H6, S6, q6⟩ := hsp
      exact end_ S6 fun s7 J7 => ⟨_, _, J7, q6⟩
    | cont =>
      obtain ⟨σ6, H6, S6, q6⟩ := hsp
      exact end_ S6 fun s7 J7 => ⟨_, _, J7, q6⟩
    | ret u =>
      obtain ⟨v6, σ6, H6, S6, r6, q6⟩ := hsp
      exact end_ S6 fun s7 J7 => ⟨_, _, _, J7, r6, q6⟩
  · cases f with
    | next =>
      obtain ⟨σ', H', J', q⟩ := hsp
      exact wpAny_execs_nil ⟨σ', H', J'.ofTry ok, q⟩
    | brk =>
      obtain ⟨σ', H', J', q⟩ := hsp
      exact ⟨σ', H', J'.ofTry ok, q⟩
    | cont =>
      obtain ⟨σ', H', J', q⟩ := hsp
      exact ⟨σ', H', J'.ofTry ok, q⟩
    | ret u =>
      obtain ⟨v, σ', H', J', r, q⟩ := hsp
      exact ⟨v, σ', H', J'.ofTry ok, r, q⟩
end
end SD

set_option Elab.async false
set_option linter.all false
set_option maxRecDepth 100000
set_option maxHeartbeats 4000000
/-! SD: a lambda is made, handed to a def, called there within a try. -/
namespace SD
open PySem PySem.Spec PyProof.Rows L2 LamX
section
variable {g : Gc} {κ : KA} {X : Cx} {pins : List (Addr × Obj)} {σ : L2.St} {H : Hp} {s : Shared} {μ : Sto}
/-- a table grows by a new code object -/
theorem StoOk.grow {P c' : Addr} {q : Str} {ps : Array Value} {pos : Pos} (s0 : StoOk g κ H μ) (mP : P ∈ κ.gh) (hP : H P = some (.tbl ps)) (ht : TriplesOk ps.toList) (ha : ∀ (pos : Pos) (cv : Value), codeAmong pos ps.toList = some cv → ∃ c, cv = .ref c ∧ At κ H c (CodeO c q))
    (hu : ∀ p ∈ g.T, p.1 = P → p.2 = q) (nC : H c' = none) :
    Ext κ H κ (upd (upd H P (.tbl (ps ++ #[rawInt pos.line, rawInt pos.col, .ref c']))) c' (CodeO c' q)) ∧ StoOk g κ (upd (upd H P (.tbl (ps ++ #[rawInt pos.line, rawInt pos.col, .ref c']))) c' (CodeO c' q)) μ ∧ At κ (upd (upd H P (.tbl (ps ++ #[rawInt pos.line, rawInt pos.col, .ref c']))) c' (CodeO c' q)) c' (CodeO c' q) := by
  have nh : ¬ κ.has c' := s0.fresh nC
  have at_ : ∀ b, b ≠ P → b ≠ c' → upd (upd H P (.tbl (ps ++ #[rawInt pos.line, rawInt pos.col, .ref c']))) c' (CodeO c' q) b = H b := fun b h1 h2 => by rw [upd_ne h2, upd_ne h1]
  have nPc : P ≠ c' := ne_of_none hP nC
  have old : ∀ b o, H b = some o → b ≠ P → upd (upd H P (.tbl (ps ++ #[rawInt pos.line, rawInt pos.col, .ref c']))) c' (CodeO c' q) b = H b := fun b o e n => at_ b n (ne_of_none e nC)
  have e0 : Ext κ H κ (upd (upd H P (.tbl (ps ++ #[rawInt pos.line, rawInt pos.col, .ref c']))) c' (CodeO c' q)) := {
    keep := fun a o e n => by rw [old a o e fun z => n (.inr (by rw [z]; exact mP))]; exact e
    sep := fun _ _ _ n => n
    len := Nat.le_refl _
    old := fun _ _ _ e => e
    ghs := rfl
    ghv := fun a m nt => by
      obtain ⟨⟨u, hu'⟩, _⟩ := s0.gst a m
      exact old a u hu' fun z => nt ps (by rw [z]; exact hP) }
  have aC : At κ (upd (upd H P (.tbl (ps ++ #[rawInt pos.line, rawInt pos.col, .ref c']))) c' (CodeO c' q)) c' (CodeO c' q) := ⟨upd_same, nh⟩
  refine ⟨e0, ⟨s0.len, s0.inj, fun i c hc => ?_, fun a m => ?_, fun p hp => ?_⟩, aC⟩
  · obtain ⟨a, h1, h2⟩ := s0.at_ i c hc
    refine ⟨a, h1, h2.ext0 e0.toExt0 fun p hp => ?_⟩
    subst hp
    obtain ⟨o, ho⟩ := s0.live h1
    exact old p o ho fun z => (s0.gst P mP).2 (by rw [← z]; exact List.mem_of_getElem? h1)
  · obtain ⟨⟨u, hu'⟩, hn⟩ := s0.gst a m
    refine ⟨?_, hn⟩
    by_cases z : a = P
    · rw [z, upd_ne nPc, upd_same]; exact ⟨_, rfl⟩
    · rw [old a u hu' z]; exact ⟨u, hu'⟩
  · obtain ⟨m, t⟩ := s0.tbs p hp
    refine ⟨m, ?_⟩
    by_cases z : p.1 = P
    · rw [z, hu p hp z]
      have eL : (ps ++ #[rawInt pos.line, rawInt pos.col, .ref c']).toList = ps.toList ++ [rawInt pos.line, rawInt pos.col, .ref c'] := by simp
      refine ⟨_, by rw [upd_ne nPc, upd_same], by rw [eL]; exact PySem.TriplesOk_snoc _ _ _ _ ht, fun p' cv hcv => ?_⟩
      rw [eL] at hcv
      rcases among_app _ ht hcv with y | y
      · obtain ⟨c0, e1, e2⟩ := ha p' cv y
        exact ⟨c0, e1, e0.at e2⟩
      · exact ⟨c', y, aC⟩
    · obtain ⟨ps', e⟩ := t.tbl
      exact t.move (old _ _ e z) fun c y => e0.at y
theorem lam_made {c P : Addr} {params : Arguments} {body : Expr} {scope : Scope} {pos : Pos} {E : Value → Shared → Prop} {Q : Value → Shared → Prop} (s0 : StoOk g κ H μ) (I : Inv X pins σ H s) (TB : TabB X.base X.mg c P) (hcode : X.env.code = .ref c)
    (hm : (P, X.env.qual ++ "<lambda>") ∈ g.T) (hu : ∀ p ∈ g.T, p.1 = P → p.2 = X.env.qual ++ "<lambda>") (hdef : defaultsOf params X.env = ([], [])) (hfree : ∀ y ∈ scope.names, y.2 = .free → ∃ c, X.env.cells.lookup y.1 = some c)
    (h : ∀ (f c' : Addr) (pm ctv : Value) (H1 : Hp) (s' : Shared), Inv X pins σ H1 s' → Ext κ H κ H1 → StoOk g κ H1 μ →
      s'.heap.get? f = some (PySem.W.kla_obj "<lambda>" (X.env.qual ++ "<lambda>") params body scope (cloFrom X.env.cells scope.names []) pm c' ctv) → H1 f = none → f ∉ frs X.stack → At κ H1 c' (CodeO c' (X.env.qual ++ "<lambda>")) → Q (.ref f) s') :
    wpAny (model X.prog X.w) X.A (eval (.Lambda params body scope pos) X.env) Q E s := by
  obtain ⟨mP, ps, hP, ht, ha⟩ := s0.tbs _ hm
  refine PySem.W.kla_eval hdef ?_
  have bP : s.heap.BuiltinsAt X.mg P := TB.bm.keeps I.bk
  have hP' : s.heap.get? P = some { cls := .none, data := .fields ps } := I.hok P _ hP
  have nofr : ∀ f, s.heap.objs.size ≤ f → f ∉ frs X.stack := fun f hf z => by
    rcases List.mem_cons.mp (I.stkSub _ z) with e | e
    · have h1 := I.lt
      rw [← e] at h1
      exact Nat.lt_irrefl _ (Nat.lt_of_lt_of_le h1 hf)
    · exact I.nofs hf e
  cases hc : codeAmong pos ps.toList with
  | none =>
    refine PySem.W.kla_makeFunction (mg := X.mg) (c := c) (P := P) (ps := ps) (closure_ok hfree) I.ok.glob (I.mod.glob.keeps I.bk) hcode (TB.code.keeps I.bk) hP' ht hc TB.gP bP fun c' ctv h' tk hx hge hlt hrec htb => ?_
    obtain ⟨c2, oc, vs, t, e2, hoc, hd, hv⟩ := hrec
    cases e2
    have hsz : s.heap.objs.size ≤ h'.objs.size := Nat.le_trans hge (Nat.le_of_lt hlt)
    have nC : H c' = none := I.hok.fresh hge
    have I1 := inv_table (t' := tk) (more := #[rawInt pos.line, rawInt pos.col, .ref c']) (h' := h'.push (PySem.W.kla_obj "<lambda>" (X.env.qual ++ "<lambda>") params body scope (cloFrom X.env.cells scope.names []) ((X.mg "__name__").getD .none) c' ctv)) I hP
      (fun b o hb e => Heap.get?_push_of_some _ (hx b o hb e)) (Heap.get?_push_of_some _ htb) hge ⟨oc, vs, t, Heap.get?_push_of_some _ hoc, hd, hv⟩
    obtain ⟨e1, s1, a1⟩ := s0.grow (pos := pos) mP hP ht ha hu nC
    refine h h'.objs.size c' ((X.mg "__name__").getD .none) ctv _ _ I1 e1 s1 (Heap.get?_push_size _ rfl) ?_ (nofr _ hsz) a1
    have n1 : h'.objs.size ≠ c' := Nat.ne_of_gt hlt
    have n2 : h'.objs.size ≠ P := Nat.ne_of_gt (Nat.lt_of_lt_of_le (Heap.lt_size hP') hsz)
    rw [upd_ne n1, upd_ne n2]
    exact I.hok.fresh hsz
  | some cv =>
    obtain ⟨c', e, hco⟩ := ha pos cv hc
    subst e
    refine PySem.W.kla_makeFunctionHit (mg := X.mg) (c := c) (P := P) (ps := ps) (closure_ok hfree) I.ok.glob (I.mod.glob.keeps I.bk) hcode (TB.code.keeps I.bk) hP' ht hc bP fun ctv h' tk hx hsz => ?_
    have I1 : Inv X pins σ H { s with heap := h'.push (PySem.W.kla_obj "<lambda>" (X.env.qual ++ "<lambda>") params body scope (cloFrom X.env.cells scope.names []) ((X.mg "__name__").getD .none) c' ctv), toks := tk } := I.kept fun b o e => Heap.get?_push_of_some _ (hx b o e)
    exact h h'.objs.size c' ((X.mg "__name__").getD .none) ctv H _ I1 Ext.refl s0 (Heap.get?_push_size _ rfl) (I.hok.fresh hsz) (nofr _ hsz) hco
/-- the lambda called, in the def that got it: what it raises is wished for at that def's slots -/
theorem act_at {HZ0 : Hp} {CXg : CXT} {Eg : XK} {Ng : List Str} {qg : Str} {sg : Scope} {ga f c' : Addr} {cdg pm ctv : Value} {params : Arguments} {body : Expr} {scope : Scope} {k i : Nat} {a : Str} {pn : List (Addr × Obj)} {xe : Value → Shared → Prop} {W : WX} {E : XK} {tb : TE} {p1 p2 : Pos}
    (I : Inv X pins σ H s) (L : LamS X.env.scope scope) (hf : s.heap.get? f = some (PySem.W.kla_obj "<lambda>" (X.env.qual ++ "<lambda>") params body scope (cloFrom X.env.cells scope.names []) pm c' ctv)) (hfn : H f = none) (hfr : f ∉ frs X.stack)
    (hbind : bindArgs (PySem.W.kla_fn "<lambda>" (X.env.qual ++ "<lambda>") params body scope (cloFrom X.env.cells scope.names []) pm (.ref c') ctv) ⟨[], []⟩ = pure [])
    (tk : Takes ((cxOf CXg X.prog X.w X.K X.mg X.base Ng qg sg ga cdg X.A X.stack s H Eg).tr pn xe) W) (hr : Room (k + 1) (X.A.deeper (envOfC qg sg s.heap.objs.size ga cdg)))
    (hbody : ∀ (A : Around) (outer : List Env) (s : Shared) (H : Hp), Room k (A.deeper (lamEnv X scope s.heap.objs.size f c')) → PE (lamCx X A outer s H E scope f c') body tb)
    (hN : Ng[i]? = some a) (hv : Vis sg a) (hd : (a == ("__debug__" : Str)) = false := by decide) (hcd : (a == ("__classdict__" : Str)) = false := by decide) :
    PE ((cxOf CXg X.prog X.w X.K X.mg X.base Ng qg sg ga cdg X.A X.stack s H Eg).tr pn xe) (.Call (.Name a p1) [] [] p2)
      (fun σZ HZ Q => (∀ cls d H', E cls d H' → W cls d σZ H') ∧ σZ[i]? = some (some (.ref f)) ∧ HZ c' = some (CodeO c' (X.env.qual ++ "<lambda>")) ∧ tb σ HZ Q) := by
  refine ⟨fun pinsZ sZ σZ HZ Q IZ h => ?_⟩
  obtain ⟨hW, hs, hc, ht⟩ := h
  refine wpAny_Call_Name_kw (thn ((pe_var (pos := p1) (i := i) hN hv hd hcd).run pinsZ sZ σZ HZ (fun v H1 => v = .ref f ∧ H1 = HZ) IZ ⟨.ref f, hs, rfl, rfl⟩) fun u s1 ⟨v, H1, I1, r1, q1⟩ => ?_)
  obtain ⟨ev, eH⟩ := q1
  subst ev
  rw [eH] at I1
  obtain rfl : u = Value.ref f := r1
  have of1 : s1.heap.get? f = some (PySem.W.kla_obj "<lambda>" (X.env.qual ++ "<lambda>") params body scope (cloFrom X.env.cells scope.names []) pm c' ctv) := I1.base.keep f _ hf hfn hfr (fun z => nomatch (show f ∈ ([] : List Addr) from z))
  refine PySem.W.callWith_F0 ⟨_, _, _, _, of1⟩ ?_
  have un : Un (frs X.stack) [] H HZ s.heap s1.heap := I1.base
  obtain ⟨⟨oc, vs, t, hoc, hdc, hvc⟩, _, _⟩ := I1.hok c' _ hc
  have rc : codeAny (model X.prog X.w) (X.A.deeper (envOfC qg sg s.heap.objs.size ga cdg)) (.call (.ref f) ⟨[], []⟩) (CR (L2.CX X.prog X.w) (envOfC qg sg s.heap.objs.size ga cdg :: X.stack) X.prog X.w HZ s1 Q E) s1 := by
    refine PySem.W.kla_callFunE hr.depth of1 rfl L.co L.gen rfl ⟨c', oc, vs, t, rfl, hoc, hdc, hvc⟩ ?_
    rw [hbind]
    refine wpAny_pure (wpAny_newFunctionEnv (fun y hy => (L.own y hy).2) (fun y hy => absurd hy (by simp)) (fun h₁ hns hsb => ⟨I1.nolimit.fresh _ hsb, ?_⟩) L.kind)
    show codeAny _ _ (.expr body (lamEnv X scope s1.heap.objs.size f c')) _ _
    have kp : ∀ b o, s1.heap.get? b = some o → h₁.get? b = some o := fun b o e => hsb.extBut b o (Nat.ne_of_lt (Heap.lt_size e)) (Heap.get?_push_of_some _ e)
    have J : Inv (lamCx X (X.A.deeper (envOfC qg sg s.heap.objs.size ga cdg)) (envOfC qg sg s.heap.objs.size ga cdg :: X.stack) s1 HZ E scope f c') [] σ HZ { s1 with heap := h₁, toks := s1.toks + ([] : List (Str × Value)).length } :=
      lam_start2 I L I1.env0 hr.hd un hns kp
    refine PySem.W.kla_codeExpr (wpAny_mono ((hbody _ _ s1 HZ (hr.deeper _)).run [] _ _ HZ Q J ht) (fun v s' hq => ?_) fun e s' hq => hq)
    obtain ⟨w', H', J', rv, q⟩ := hq
    exact ⟨w', H', J'.os, J'.bare, J'.base, J'.hok, rv, q⟩
  refine wpAny_call (codeAny_mono rc fun r s' hq => ?_)
  cases r with
  | error e => exact tk e s' (XE.of_call I1 (fun cls d H' z => hW cls d H' z) hq)
  | ok fl =>
    cases fl with
    | ret u => exact I1.after hq
    | next => exact False.elim hq
    | brk => exact False.elim hq
    | cont => exact False.elim hq
end
end SD

set_option Elab.async false
set_option linter.all false
set_option maxRecDepth 100000
set_option maxHeartbeats 4000000
/-! SD: got(lambda: e): what e tells, or what it raises. -/
namespace SD
open PySem PySem.Spec PyProof.Rows L2 LamX
/-- ("told", e), or what the except suite returns; cs: the classes that it takes -/
def eGot (cs : List Nat) (fs : DS) (fl : DE) : DE := fun ρ μ => match fl ρ μ with
  | .ok d μ1 => .ok (.tup [.str "told", d]) μ1
  | .ex c ns xs μ1 => if cs.contains c = true then (match fs [none, some (.exn c ns xs)] μ1 with
    | .rt d μ2 => if (d.noE && μ2.all CO.noE) = true then .ok d μ2 else .stuck
    | _ => .stuck) else .stuck
  | .stuck => .stuck
/-- the suite's reading, by the class that was caught -/
def tsOf (g : Gc) (fs : DS) : Addr → Value → Option Addr → TS := fun a cls d D σ H => ∃ c dd, cls = .ref (g.cls c) ∧ d = some dd ∧ tS (gX g a dd c) (WF E0) fs D σ H
theorem ge_got {g : Gc} {W : WX} {X : Cx} {x a n x1 x2 : Str} {ga c P C1 C2 : Addr} {k j1 j2 j3 : Nat} {pg : Arguments} {sg : Scope} {fd : FuncData} {params : Arguments} {body : Expr} {scope : Scope} {b₀ : Stmt} {suite : List Stmt} {cs : List Nat} {fs : DS} {fl : DE}
    {p lpos pos q1 q2 q3 q4 q5 r1 r2 r3 r4 r5 : Pos} (xg : XG g X) (hge : g.ex = none) (hg : Gl X x) (hm : X.mg x = some (.ref ga))
    (F : FunD g.K x x pg [.Try [.Return (some (.Tuple [.Constant (.str "told") j1 q1, .Call (.Name a q2) [] [] q3] j2 q4)) q5] [.ExceptHandler (some (.Tuple [.Name x1 r1, .Name x2 r2] j3 r3)) (some n) (b₀ :: suite) r4] [] [] r5] sg [] [] ga fd)
    (Sg : FnScope [a, n] [a] sg) (hva : Vis sg a) (hn1 : sg.names.lookup n = some .local) (bn : Binds g.K fd [a] [])
    (h1 : sg.names.lookup x1 = some .globalImplicit) (h2 : sg.names.lookup x2 = some .globalImplicit) (m1 : X.mg x1 = some (.ref C1)) (m2 : X.mg x2 = some (.ref C2)) (hex : ∀ c ∈ cs, PySem.W.exmAny g.K (.ref (g.cls c)) [.ref C1, .ref C2] = some true)
    (hsu : ∀ (cdv : Value) (A : Around) (outer : List Env) (s : Shared) (H : Hp) (e d : Addr) (c : Nat) (oe : Obj) (pn : List (Addr × Obj)), Room (k + 1) (A.deeper (envOfC x sg s.heap.objs.size ga cdv)) → Zc (.ref (g.cls c)) (some d) oe → (∃ vs, oe.data = .fields vs) →
      GSs (gX g e d c) (WF E0) ((cxOf C8.CX0 X.prog X.w g.K X.mg X.base [a, n] x sg ga cdv A outer s H C8.E0).suite e ((e, oe) :: pn)) (b₀ :: suite) fs)
    (TB : TabB X.base X.mg c P) (hcode : X.env.code = .ref c) (hmT : (P, X.env.qual ++ "<lambda>") ∈ g.T) (hu : ∀ p ∈ g.T, p.1 = P → p.2 = X.env.qual ++ "<lambda>") (hr : Room (k + 2) X.A) (L : LamS X.env.scope scope) (hdef : defaultsOf params X.env = ([], []))
    (hbind : ∀ (q : Str) (cl : List (Str × Addr)) (pm cv ctv : Value), bindArgs (PySem.W.kla_fn "<lambda>" q params body scope cl pm cv ctv) ⟨[], []⟩ = pure [])
    (hbody : ∀ (A : Around) (outer : List Env) (s : Shared) (H : Hp) (E : XK) (f c' : Addr), Room k (A.deeper (lamEnv X scope s.heap.objs.size f c')) → GE g (WF E) (lamCx X A outer s H E scope f c') body fl)
    (hdb : (x == ("__debug__" : Str)) = false := by decide) (hd : (a == ("__debug__" : Str)) = false := by decide) (hcd : (a == ("__classdict__" : Str)) = false := by decide) (hd1 : (x1 == ("__debug__" : Str)) = false := by decide) (hd2 : (x2 == ("__debug__" : Str)) = false := by decide)
    (ht1 : ∀ env : Env, starEach [.Constant (.str "told") j1 q1, .Call (.Name a q2) [] [] q3] env = (false, eval (.Constant (.str "told") j1 q1) env) :: starEach [.Call (.Name a q2) [] [] q3] env := by intro _; rfl) (ht2 : ∀ env : Env, starEach [.Call (.Name a q2) [] [] q3] env = (false, eval (.Call (.Name a q2) [] [] q3) env) :: starEach [] env := by intro _; rfl) :
    GE g W X (.Call (.Name x p) [.Lambda params body scope lpos] [] pos) (eGot cs fs fl) := by
  obtain ⟨K, cls, T, ex⟩ := g
  obtain rfl : X.K = K := xg.K
  have hge : ex = none := hge
  subst hge
  obtain ⟨oc, od, dV, kV, doc, pm, an, cdv, ct, osl, rfl, lk, hcg, _, _⟩ := F.ex
  refine ⟨fun pins s σ H Q I h => ?_⟩
  obtain ⟨κ, ρ, μ, hE, hS, hw⟩ := h
  refine wpAny_Call_Name_kw (ld_glob I hg hm ?_ hdb)
  refine PySem.W.callWith_K (h₀ := X.base) I.ok.mod.kin F.kp ?_ (by rfl) (by rfl)
  show wpAny _ _ (spliced ((false, eval (.Lambda params body scope lpos) X.env) :: backTo pos (starEach [] X.env))) _ _ s
  refine Calls.spliced_cons (lam_made hS I TB hcode hmT hu hdef (L.has I.ok) fun f c' pm' ctv H1 s' I1 e1 s1 hf hfn hfr hco => ?_)
  refine Calls.spliced_nil ⟨I1.kIn, ?_⟩
  have hE1 := hE.ext e1
  have hw1 : wpR (Gc.mk X.K cls T none) W σ κ H1 (eGot cs fs fl ρ μ) (fun d _ κ' H' => ∀ v, Rel (Gc.mk X.K cls T none) κ' H' d v → Q v H') := hw.ext e1
  have rc : codeAny (model X.prog X.w) X.A (.call (.ref ga) ⟨[.ref f], []⟩) (CR C8.CX0 X.stack X.prog X.w H1 s' Q C8.E0) s' := by
    refine run_ofS (N := [a, n]) (ps := [a]) (us := [.ref f]) (vs := [.ref f]) lk hcg Sg hr I1.env0 (bn s' [.ref f] I1.kIn rfl) (.cons rfl .nil) rfl fun hr' => ?_
    have act : ∀ (W' : WX) (pn : List (Addr × Obj)) (xe : Value → Shared → Prop) (E : XK), Takes ((cxOf C8.CX0 X.prog X.w X.K X.mg X.base [a, n] x sg ga cdv X.A X.stack s' H1 C8.E0).tr pn xe) W' →
        PE ((cxOf C8.CX0 X.prog X.w X.K X.mg X.base [a, n] x sg ga cdv X.A X.stack s' H1 C8.E0).tr pn xe) (.Call (.Name a q2) [] [] q3) (fun σZ HZ Q => (∀ cls d H', E cls d H' → W' cls d σZ H') ∧ σZ[0]? = some (some (.ref f)) ∧ HZ c' = some (CodeO c' (X.env.qual ++ "<lambda>")) ∧ tE (Gc.mk X.K cls T none) (WF E) fl σ HZ Q) := fun W' pn xe E tk =>
      act_at (HZ0 := H1) (i := 0) I1 L hf hfn hfr (hbind _ _ _ _ _) tk hr' (fun A outer s H hr2 => hbody A outer s H E f c' hr2) rfl hva hd hcd
    refine ⟨_, pss_one (ps_try2as (X := cxOf C8.CX0 X.prog X.w X.K X.mg X.base [a, n] x sg ga cdv X.A X.stack s' H1 C8.E0) (i := 1) (c1 := .ref C1) (c2 := .ref C2) (ts := tsOf (Gc.mk X.K cls T none) fs)
      (tb := fun W' D σZ HZ => ∃ E : XK, (∀ cls d H', E cls d H' → W' cls d σZ H') ∧ σZ[0]? = some (some (.ref f)) ∧ HZ c' = some (CodeO c' (X.env.qual ++ "<lambda>")) ∧ tE (Gc.mk X.K cls T none) (WF E) fl σ HZ fun v H2 => ∀ (p : Addr) (ob : Obj), H2 p = none → ob.dict = none → D.rt (.ref p) (upd H2 p (.frz ob (.tup [.str "told", v]))))
      rfl rfl Sg.nd rfl hn1 ⟨h1, m1⟩ ⟨h2, m2⟩ hd1 hd2 (fun W' pn xe tk _ => ?_) (fun e oe cl d pn hz hfld => ?_)), ?_⟩
    · refine ⟨fun pins s2 σ2 H2 D I2 hh => ?_⟩
      obtain ⟨E, w1, w2, w3, w4⟩ := hh
      have hp := pss_one (ps_ret (pos := q5) (pe_tupF (k := j2) (pos := q4) (pa_cons (pe_str (j := j1) (pos := q1)) (pa_cons (act W' pn xe E tk) pa_nil (ht2 _)) (ht1 _))))
      refine hp.run pins s2 σ2 H2 D I2 ⟨w1, w2, w3, ?_⟩
      obtain ⟨κ2, ρ2, μ2, z1, z2, z3⟩ := w4
      exact ⟨κ2, ρ2, μ2, z1, z2, z3.mono fun d _ κ3 H3 _ _ y v rv => ⟨by show 2 ≤ sizeLine; rw [sizeLine_eq]; decide, y v rv⟩⟩
    · refine ⟨fun pins s2 σ2 H2 D I2 hh => ?_⟩
      obtain ⟨c2, dd, rfl, rfl, hh⟩ := hh
      exact (hsu cdv X.A X.stack s' H1 e dd c2 oe pn hr' hz hfld).run pins s2 σ2 H2 D I2 hh
    · -- the readings meet
      refine ⟨fun cl d H' => wAs2 X.K (.ref C1) (.ref C2) 1 (tsOf (Gc.mk X.K cls T none) fs) { nx := fun _ H' => Q .non H', rt := Q } cl d (L2.start [a, n] [.ref f]) H', fun _ _ _ z => z, rfl, hco.1, κ, ρ, μ, hE1, s1, ?_⟩
      unfold eGot at hw1
      cases hfl : fl ρ μ with
      | ok d μ1 =>
        rw [hfl] at hw1
        intro κ2 H2 e2 s2 v rv p ob hp hob
        refine hw1 κ2 _ (e2.trans (Ext.new s2 hp)) (s2.new hp) (.ref p) ?_
        exact rel_tup s2 hp hob (RelL.cons (by simp [Rel]) (RelL.cons rv RelL.nil))
      | stuck => rw [hfl] at hw1; exact hw1
      | ex c2 ns xs μ1 =>
        rw [hfl] at hw1
        simp only at hw1
        by_cases hc : cs.contains c2 = true
        · rw [if_pos hc] at hw1
          cases hfs : fs [none, some (.exn c2 ns xs)] μ1 with
          | rt d2 μ2 =>
            rw [hfs] at hw1
            simp only at hw1
            by_cases hn : (d2.noE && μ2.all CO.noE) = true
            · rw [if_pos hn] at hw1
              rw [Bool.and_eq_true] at hn
              intro κ2 H2 e2 s2 dd vs hAt hl hrel
              refine ⟨hex c2 (by simpa using hc), fun e he => ⟨c2, dd, rfl, rfl, κ2, [none, some (.exn c2 ns xs)], μ1, ⟨rfl, fun i d hi => ?_⟩, ?_, ?_⟩⟩
              · match i, hi with
                | 0, hi => simp at hi
                | 1, hi =>
                  have : d = .exn c2 ns xs := by simpa using hi.symm
                  subst this
                  refine ⟨.ref e, rfl, ?_⟩
                  simp only [Rel]
                  exact ⟨e, dd, vs, rfl, rfl, hAt, hl, RelL.swap (g := Gc.mk X.K cls T none) (g' := gX (Gc.mk X.K cls T none) e dd c2) rfl rfl (RelL.isNoE (g := Gc.mk X.K cls T none) rfl hrel) hrel⟩
                | i + 2, hi => simp at hi
              · exact StoOk.swap (g := Gc.mk X.K cls T none) (g' := gX (Gc.mk X.K cls T none) e dd c2) rfl rfl rfl (StoOk.isNoE (g := Gc.mk X.K cls T none) rfl s2) s2
              · rw [hfs]
                intro κ3 H3 v e3 s3 rv
                exact hw1 κ3 H3 (e2.trans e3) (StoOk.swap (g := gX (Gc.mk X.K cls T none) e dd c2) (g' := Gc.mk X.K cls T none) rfl rfl rfl (List.all_eq_true.mp hn.2) s3) v (Rel.swap (g := gX (Gc.mk X.K cls T none) e dd c2) (g' := Gc.mk X.K cls T none) rfl rfl hn.1 rv)
            · rw [if_neg hn] at hw1; exact hw1.elim
          | nx _ _ => rw [hfs] at hw1; exact hw1.elim
          | bk _ _ => rw [hfs] at hw1; exact hw1.elim
          | ct _ _ => rw [hfs] at hw1; exact hw1.elim
          | ex _ _ _ _ _ => rw [hfs] at hw1; exact hw1.elim
          | stuck => rw [hfs] at hw1; exact hw1.elim
        · rw [if_neg hc] at hw1; exact hw1.elim
  refine wpAny_call (codeAny_mono rc fun r s2 hq => ?_)
  cases r with
  | error e => exact (show False from hq).elim
  | ok fl =>
    cases fl with
    | ret u => exact I1.after hq
    | next => exact False.elim hq
    | brk => exact False.elim hq
    | cont => exact False.elim hq
end SD

set_option Elab.async false
set_option linter.all false
set_option maxRecDepth 100000
set_option maxHeartbeats 4000000
/-! SD: what the head tells of own exception classes, of tables of code objects; the end of a law that makes lambdas. -/
namespace SD
open PySem PySem.Spec PyProof.Rows L2 LamX He

/-! ### facts of own exception classes, as truth values of the written part -/
def oexB (K : PySem.W.Frag) (C : Addr) : Bool := (match K.lookup C with
  | some ⟨.type "type", _, .cls cd, sl⟩ => (match cd.mro, sl.toList with
    | .ref C' :: bm, [_, _, _, _, some (.builtin n), _] => C' == C && (n == "ValueError.__new__" && (!cd.hasDel && (cd.hasDict && PySem.HandSPX.refsVE bm)))
    | _, _ => false)
  | _ => false) && (eqO (PySem.W.findIn K (.ref C) "__setattr__") (some (some (.builtin "object.__setattr__"))) && (decide (PySem.W.subIn K (.ref C) (.type "BaseException") = some true) && (decide (PySem.W.typeIn K (.ref C) = some (.type "type")) && PySem.W.keepIn K (.ref C))))
theorem oexB_ok {K : PySem.W.Frag} {C : Addr} (h : oexB K C = true) : OexC K C := by
  obtain ⟨h0, h⟩ := ba h
  obtain ⟨h1, h⟩ := ba h
  obtain ⟨h2, h⟩ := ba h
  obtain ⟨h3, h4⟩ := ba h
  refine ⟨?_, eqO_ok h1, of_decide_eq_true h2, of_decide_eq_true h3, h4⟩
  cases q : K.lookup C with
  | none => rw [q] at h0; cases h0
  | some o =>
    rw [q] at h0
    split at h0
    · rename_i dd cd sl ho
      cases ho
      split at h0
      · rename_i C' bm k0 k1 k2 k3 n k5 hm hs
        simp only [Bool.and_eq_true, beq_iff_eq, Bool.not_eq_true'] at h0
        obtain ⟨rfl, rfl, hdel, hdict, ht⟩ := h0
        obtain ⟨nm, bs, mro, ns, qn, hd, sn, sub, ab, col, del⟩ := cd
        dsimp only at hm hdel hdict
        subst hm hdel hdict
        have hsl : sl = #[k0, k1, k2, k3, some (.builtin "ValueError.__new__"), k5] := by
          obtain ⟨l⟩ := sl
          simp only at hs
          rw [hs]
        subst hsl
        exact ⟨nm, qn, ns, bs, bm, sn, sub, ab, col, dd, k0, k1, k2, k3, k5, rfl, ht⟩
      · cases h0
    · cases h0
/-- the class x: own __init__, the fields fs free -/
def xcB (x : Str) (fs : List Str) (K : PySem.W.Frag) : Bool := oexB K (ga K x) && (eqO (PySem.W.findIn K (.ref (ga K x)) "__init__") (some (some (.ref (ma K (ga K x) "__init__")))) && (decide (PySem.W.typeIn K (.ref (ma K (ga K x) "__init__")) = some (.type "function")) &&
  (xfB K (ga K x) && ((fs.all fun f => eqO (PySem.W.findIn K (.ref (ga K x)) f) (some none)) && decide (PySem.W.exmAny K (.ref (ga K x)) [.ref (ga K "LotError"), .ref (ga K "Missing")] = some true)))))
structure XcF (K : PySem.W.Frag) (x : Str) (fs : List Str) : Prop where
  o : OexC K (ga K x)
  i : PySem.W.findIn K (.ref (ga K x)) "__init__" = some (some (.ref (ma K (ga K x) "__init__")))
  t : PySem.W.typeIn K (.ref (ma K (ga K x) "__init__")) = some (.type "function")
  f : XfC K (ga K x)
  n : ∀ f ∈ fs, PySem.W.findIn K (.ref (ga K x)) f = some none
  m : PySem.W.exmAny K (.ref (ga K x)) [.ref (ga K "LotError"), .ref (ga K "Missing")] = some true
theorem xcB_ok {K : PySem.W.Frag} {x : Str} {fs : List Str} (h : xcB x fs K = true) : XcF K x fs := by
  obtain ⟨h0, h⟩ := ba h
  obtain ⟨h1, h⟩ := ba h
  obtain ⟨h2, h⟩ := ba h
  obtain ⟨h3, h⟩ := ba h
  obtain ⟨h4, h5⟩ := ba h
  exact ⟨oexB_ok h0, eqO_ok h1, of_decide_eq_true h2, xfB_ok h3, fun f hf => eqO_ok (List.all_eq_true.mp h4 f hf), of_decide_eq_true h5⟩
/-- all that the classes are asked -/
def allX (cs : List (Str × List Str)) (K : PySem.W.Frag) : Bool := cs.all fun c => xcB c.1 c.2 K
/-- the numbers of the classes, in order -/
def clsN (cs : List (Str × List Str)) (K : PySem.W.Frag) (n : Nat) : Addr := ga K (((cs[n]?).map (·.1)).getD Str.empty)
/-- the facts of the head, with those of the classes and of the tables -/
structure Hx (fa : List Fa) (fn : List DefD) (cs : List (Str × List Str)) (K : PySem.W.Frag) (mg : Str → Option Value) : Prop extends Hd fa fn K mg where
  more : allX cs K = true
section
variable {fa : List Fa} {fn : List DefD} {cs : List (Str × List Str)} {K : PySem.W.Frag} {mg : Str → Option Value}
theorem Hx.xc (T : Hx fa fn cs K mg) (i : Nat) {x : Str} {fs : List Str} (h : cs[i]? = some (x, fs) := by rfl) : XcF K x fs := xcB_ok (List.all_eq_true.mp T.more _ (List.mem_of_getElem? h))
/-- an attribute that may be read of each of them -/
theorem Hx.xf (T : Hx fa fn cs K mg) {g : Gc} (hK : g.K = K) (hc : g.cls = clsN cs K) {is : List Nat} {f : Str} (h : (is.all fun i => (cs[i]?).any fun c => c.2.contains f) = true) : XfOk g is f := by
  intro i hi
  have h1 := List.all_eq_true.mp h i hi
  cases e : cs[i]? with
  | none => rw [e] at h1; cases h1
  | some c =>
    rw [e] at h1
    have h2 : c.2.contains f = true := h1
    obtain ⟨x, fs⟩ := c
    have X := T.xc i e
    have ea : g.cls i = ga K x := by rw [hc]; unfold clsN; rw [e]; rfl
    rw [hK, ea]
    exact ⟨X.f, X.n f (by simpa using h2)⟩
/-- each is taken by the except clause -/
theorem Hx.xm (T : Hx fa fn cs K mg) {g : Gc} (hK : g.K = K) (hc : g.cls = clsN cs K) {is : List Nat} (h : (is.all fun i => (cs[i]?).isSome) = true) : ∀ c ∈ is, PySem.W.exmAny g.K (.ref (g.cls c)) [.ref (ga K "LotError"), .ref (ga K "Missing")] = some true := by
  intro i hi
  have h1 := List.all_eq_true.mp h i hi
  cases e : cs[i]? with
  | none => rw [e] at h1; cases h1
  | some c =>
    obtain ⟨x, fs⟩ := c
    have X := T.xc i e
    have ea : g.cls i = ga K x := by rw [hc]; unfold clsN; rw [e]; rfl
    rw [hK, ea]
    exact X.m
end
/-! ### classes as their raisers see them, by their __init__ -/
section
variable {P : Program} {w : World} {g : Gc} {mg : Str → Option Value} {base : Heap} {x qual code f1 f2 : Str} {params : Arguments} {scope : Scope} {fI : Addr} {c i j k : Nat} {N : List Str} {body : List Stmt} {fs : List Str} {p1 p2 p3 p4 q1 q2 q3 q4 r1 r2 r3 r4 : Pos}
theorem xc0 (hm : mg x = some (.ref (g.cls c))) (X : XcF g.K x fs) (ea : g.cls c = ga g.K x) (hF : ∃ fd, FunD g.K "__init__" qual params [.Assign [.Attribute (.Name "self" p1) "code" p2] (.Constant (.str code) j p3) p4] scope [] [] (ma g.K (ga g.K x) "__init__") fd) (S : FnScope N ["self"] scope)
    (hb : ∀ (kV doc pm : Value) (an : Option Addr) (cdv ct : Value) (us : List Value), us.length = 1 → bindArgs (PySem.W.fnOf "__init__" qual params [.Assign [.Attribute (.Name "self" p1) "code" p2] (.Constant (.str code) j p3) p4] scope .none kV doc pm an cdv ct) ⟨us, []⟩ = pure ((["self"] : List Str).zip us))
    (hc : fs.contains "code" = true) (h0 : N[0]? = some ("self" : Str)) (hv : Vis scope "self") (hl : N.length = 1) :
    XcG P w g mg base (k + 1) x c [] code := by
  obtain ⟨fd, F⟩ := hF
  rw [← ea] at F
  refine ⟨_, fd, hm, by rw [ea]; exact X.o, by rw [ea]; exact X.i, X.t, F.bindsN hb, ?_⟩
  have T := X.o
  rw [← ea] at T ⊢
  exact init0 F S T (by rw [ea]; exact X.n _ (by simpa using hc)) (fun _ _ _ _ _ _ => pe_var h0 hv) hl
theorem xc1 (hm : mg x = some (.ref (g.cls c))) (X : XcF g.K x fs) (ea : g.cls c = ga g.K x) (hF : ∃ fd, FunD g.K "__init__" qual params [.Assign [.Attribute (.Name "self" p1) f1 p2] (.Name f1 p3) p4, .Assign [.Attribute (.Name "self" q1) "code" q2] (.Constant (.str code) j q3) q4] scope [] [] (ma g.K (ga g.K x) "__init__") fd) (S : FnScope N ["self", f1] scope)
    (hb : ∀ (kV doc pm : Value) (an : Option Addr) (cdv ct : Value) (us : List Value), us.length = 2 → bindArgs (PySem.W.fnOf "__init__" qual params [.Assign [.Attribute (.Name "self" p1) f1 p2] (.Name f1 p3) p4, .Assign [.Attribute (.Name "self" q1) "code" q2] (.Constant (.str code) j q3) q4] scope .none kV doc pm an cdv ct) ⟨us, []⟩ = pure ((["self", f1] : List Str).zip us))
    (hc : fs.contains "code" = true) (hf1 : fs.contains f1 = true) (h0 : N[0]? = some ("self" : Str)) (hv : Vis scope "self") (h1 : N[1]? = some f1) (hv1 : Vis scope f1) (hd : (f1 == ("__debug__" : Str)) = false) (hcd : (f1 == ("__classdict__" : Str)) = false) (hl : N.length = 2)
    (hs : ∀ env : Env, swapsWith (.Name f1 p3) (some (.Attribute (.Name "self" p1) f1 p2)) p4.line env = pure false) :
    XcG P w g mg base (k + 1) x c [f1] code := by
  obtain ⟨fd, F⟩ := hF
  rw [← ea] at F
  refine ⟨_, fd, hm, by rw [ea]; exact X.o, by rw [ea]; exact X.i, X.t, F.bindsN hb, ?_⟩
  have T := X.o
  rw [← ea] at T ⊢
  exact init1 F S T (by rw [ea]; exact X.n _ (by simpa using hc)) (by rw [ea]; exact X.n _ (by simpa using hf1)) (fun _ _ _ _ _ _ _ => pe_var h0 hv) (fun _ _ _ _ _ _ => pe_var h1 hv1 hd hcd) hs hl
theorem xc2 (hm : mg x = some (.ref (g.cls c))) (X : XcF g.K x fs) (ea : g.cls c = ga g.K x) (hF : ∃ fd, FunD g.K "__init__" qual params [.Assign [.Attribute (.Name "self" p1) f1 p2] (.Name f1 p3) p4, .Assign [.Attribute (.Name "self" r1) f2 r2] (.Name f2 r3) r4, .Assign [.Attribute (.Name "self" q1) "code" q2] (.Constant (.str code) j q3) q4] scope [] [] (ma g.K (ga g.K x) "__init__") fd) (S : FnScope N ["self", f1, f2] scope)
    (hb : ∀ (kV doc pm : Value) (an : Option Addr) (cdv ct : Value) (us : List Value), us.length = 3 → bindArgs (PySem.W.fnOf "__init__" qual params [.Assign [.Attribute (.Name "self" p1) f1 p2] (.Name f1 p3) p4, .Assign [.Attribute (.Name "self" r1) f2 r2] (.Name f2 r3) r4, .Assign [.Attribute (.Name "self" q1) "code" q2] (.Constant (.str code) j q3) q4] scope .none kV doc pm an cdv ct) ⟨us, []⟩ = pure ((["self", f1, f2] : List Str).zip us))
    (hc : fs.contains "code" = true) (hf1 : fs.contains f1 = true) (hf2 : fs.contains f2 = true) (h0 : N[0]? = some ("self" : Str)) (hv : Vis scope "self") (h1 : N[1]? = some f1) (hv1 : Vis scope f1) (hd : (f1 == ("__debug__" : Str)) = false) (hcd : (f1 == ("__classdict__" : Str)) = false)
    (h2 : N[2]? = some f2) (hv2 : Vis scope f2) (hd2 : (f2 == ("__debug__" : Str)) = false) (hcd2 : (f2 == ("__classdict__" : Str)) = false) (hl : N.length = 3)
    (hs : ∀ env : Env, swapsWith (.Name f1 p3) (some (.Attribute (.Name "self" p1) f1 p2)) p4.line env = pure false) (hs2 : ∀ env : Env, swapsWith (.Name f2 r3) (some (.Attribute (.Name "self" r1) f2 r2)) r4.line env = pure false) :
    XcG P w g mg base (k + 1) x c [f1, f2] code := by
  obtain ⟨fd, F⟩ := hF
  rw [← ea] at F
  refine ⟨_, fd, hm, by rw [ea]; exact X.o, by rw [ea]; exact X.i, X.t, F.bindsN hb, ?_⟩
  have T := X.o
  rw [← ea] at T ⊢
  exact init2 F S T (by rw [ea]; exact X.n _ (by simpa using hc)) (by rw [ea]; exact X.n _ (by simpa using hf1)) (by rw [ea]; exact X.n _ (by simpa using hf2)) (fun _ _ _ _ _ _ _ => pe_var h0 hv) (fun _ _ _ _ _ _ => pe_var h1 hv1 hd hcd) (fun _ _ _ _ _ _ => pe_var h2 hv2 hd2 hcd2) hs hs2 hl
end
/-! ### a def with a table of code objects -/
theorem gf_okC {P : Program} {w : World} {g : Gc} {mg : Str → Option Value} {base : Heap} {x qual : Str} {params : Arguments} {body : List Stmt} {scope : Scope} {dvs : List V} {kws : List (Str × V)} {p : Defn} {fd : FuncData} {N ps : List Str} {k : Nat} {md : Md} {fb : DS}
    (F : FunD g.K x qual params body scope dvs kws (fAd g.K p) fd) (S : FnScope N ps scope)
    (hb : ∀ (A : Around) (outer : List Env) (s : Shared) (H : Hp) (E : XK), Room k (A.deeper (envOfC qual scope s.heap.objs.size (fAd g.K p) (.ref (codeOf g.K p)))) → GSs g (WF E) (cxOf (L2.CX P w) P w g.K mg base N qual scope (fAd g.K p) (.ref (codeOf g.K p)) A outer s H E) body fb) :
    FnOk P w g.K mg base (L2.CX P w) (k + 1) (fAd g.K p) fd ps (spF g (runF md ps.length N.length fb) ps.length) := by
  obtain ⟨oc, od, dV, kV, doc, pm, an, cdv, ct, osl, rfl, lk, hcd, _, _⟩ := F.ex
  obtain ⟨c, ec⟩ := codeIn_ref hcd
  have e2 : cdv = .ref (codeOf g.K p) := by rw [codeOf_eq lk ec]; exact ec
  refine fn_of lk hcd S (fun vs H Q E h => h.1) fun A outer s H vs Q E hr h => ?_
  rw [e2] at hr ⊢
  refine ⟨_, hb A outer s H E hr, ?_⟩
  obtain ⟨hl, κ, ds, μ, r, so, h⟩ := h
  exact run_read r so (by rw [r.length]; exact hl) h
theorem tk_lam {X : Cx} {A : Around} {outer : List Env} {s : Shared} {H : Hp} {E : XK} {scope : Scope} {f c : Addr} : Takes (lamCx X A outer s H E scope f c) (WF E) := takes_of rfl rfl rfl rfl
/-! ### the end -/
theorem stoOk_start {g : Gc} {H : Hp} (h : ∀ p ∈ g.T, H p.1 = some (.tbl #[])) : StoOk g ⟨[], g.T.map (·.1)⟩ H [] where
  len := rfl
  inj := fun i j a h => by simp at h
  at_ := fun i c h => by simp at h
  gst := fun a ha => by
    obtain ⟨p, hp, e⟩ := List.mem_map.mp ha
    exact ⟨⟨_, by rw [← e]; exact h p hp⟩, by simp⟩
  tbs := fun p hp => ⟨List.mem_map_of_mem hp, #[], h p hp, True.intro, fun pos cv z => by
    have z' : codeAmong pos [] = some cv := z
    simp [codeAmong] at z'⟩
theorem sp_start {g : Gc} {F : Fn} {H : Hp} {a : Addr} {ns : List Int} (h : ∀ p ∈ g.T, H p.1 = some (.tbl #[])) (hS : SqL g.K H a (ns.map V.int)) (hF : ∃ μ, F [.scr (ns.map .int)] [] = .ok (.bl true) μ) : spF g F 1 [.ref a] H (fun v _ => v = .bl true) (fun _ _ _ => False) := by
  have no : ∀ (b : Addr) (o : HO), H b = some o → (∀ ps, o ≠ .tbl ps) → ¬ KA.has ⟨[], g.T.map (·.1)⟩ b := fun b o e n m => by
    rcases m with m | m
    · simp at m
    · obtain ⟨p, hp, e2⟩ := List.mem_map.mp m
      rw [← e2, h p hp] at e
      exact n _ (Option.some.inj e).symm
  refine ⟨rfl, ⟨[], g.T.map (·.1)⟩, [.scr (ns.map .int)], [], RelL.cons ?_ RelL.nil, stoOk_start h, ?_⟩
  · simp only [Rel]
    refine ⟨a, ns.map V.int, rfl, ?_, RelL.ints ns⟩
    rcases hS with (z | ⟨o, z⟩) | z
    · exact .inl ⟨z, no _ _ z fun ps e => by cases e⟩
    · exact .inr (.inl ⟨o, z, no _ _ z fun ps e => by cases e⟩)
    · exact .inr (.inr z)
  · obtain ⟨μ, e⟩ := hF
    rw [e]
    intro κ' H' _ _ v rv
    simpa only [Rel] using rv
/-- what the end asks of the law, by its body -/
theorem law_atS {l : PySem.W.OpenLaw} {w : World} {K : PySem.W.Frag} {mg : Str → Option Value} {fa' : Addr} {h : Heap} {fa : List Fa} {fn : List DefD} {ts : List Tab} {tf : List Defn} {ex : PySem.W.Frag → Bool} {g : Gc} {k n : Nat} {F : Fn} {fd : FuncData}
    (X : K.In h) (c : SaysX fa fn ts tf ex w h K) (hK : g.K = K) (hT : g.T.map (·.1) = tf.map fun p => (cT K p).2) (hb : ∀ (s : Shared) (u : Value), BindsTo s fd ⟨[u], []⟩ [("script", u)])
    (hpl : ∀ ns : List Int, ns.length ≤ n → ∃ μ, F [.scr (ns.map .int)] [] = .ok (.bl true) μ)
    (hF : ∀ base : Heap, K.In base → base.Ns mainGlobals mg → (∀ p ∈ tf, TabB base mg (cT K p).1 (cT K p).2) → FnOk l.prog w K mg base (L2.CX l.prog w) k fa' fd ["script"] (spF g F 1)) :
    LawAtS l w K (L2.CX l.prog w) k n "script" mg fa' h := by
  refine ⟨fd, tf.map (cT K), spF g F 1, fun p hp => ?_, fun p hp => ?_, fun p hp => ?_, hb, fun H a ns hl _ hH hS => ?_, fun base h1 h2 h3 => hF base h1 h2 fun p hp => h3 _ (List.mem_map_of_mem hp)⟩
  · obtain ⟨q, hq, rfl⟩ := List.mem_map.mp hp
    exact c.empty q hq
  · obtain ⟨q, hq, rfl⟩ := List.mem_map.mp hp
    exact c.out q hq
  · obtain ⟨q, hq, rfl⟩ := List.mem_map.mp hp
    exact PySem.W.codeHd_of_K X (c.hd q hq)
  · refine sp_start (fun p hp => ?_) (by rw [hK]; exact hS) (hpl ns hl)
    have m : p.1 ∈ tf.map fun p => (cT K p).2 := by rw [← hT]; exact List.mem_map_of_mem hp
    obtain ⟨q, hq, e⟩ := List.mem_map.mp m
    rw [← e]
    exact hH _ (List.mem_map_of_mem hq)
/-- a statement that is never reached -/
def sStuck : DS := fun _ _ => .stuck
theorem gs_stuck {g : Gc} {W : WX} {X : Cx} {st : Stmt} : GS g W X st sStuck := ⟨fun pins s σ H D I h => by
  obtain ⟨_, _, _, _, _, h⟩ := h
  exact h.elim⟩
/-- got(lambda: e), the def given by what the head tells of it -/
theorem bn1 {K : PySem.W.Frag} {x a : Str} {st : Stmt} {ga : Addr} {fd : FuncData} (F : FunD K x x (defArgs st) (defBody st) (defScope st) [] [] ga fd) (hb : ∀ (kV doc pm : Value) (an : Option Addr) (cdv ct : Value) (us : List Value), us.length = 1 → bindArgs (PySem.W.fnOf x x (defArgs st) (defBody st) (defScope st) .none kV doc pm an cdv ct) ⟨us, []⟩ = pure (([a] : List Str).zip us)) : Binds K fd [a] [] := F.bindsN hb
end SD

set_option Elab.async false
set_option linter.all false
set_option maxRecDepth 100000
set_option maxHeartbeats 4000000
/-! SD: {.. for .. in .. for .. in ..} of tuples of ints, as a rule of the hand layer. -/
namespace SD
open PySem PySem.Spec PyProof.Rows L2
abbrev Sc2 (elt t0 i0 t1 i1 : Expr) (f0 f1 : List Expr) (sc : Scope) (pos : Pos) : Expr := .SetComp elt [⟨t0, i0, f0, 0⟩, ⟨t1, i1, f1, 0⟩] sc pos
section
variable {prog : Program} {w : World} {A : Around} {R : Result → Shared → Prop} {s : Shared} {elt t0 i0 t1 i1 : Expr} {f0 f1 : List Expr} {sc : Scope} {pos : Pos} {it acc : Value} {env : Env}
theorem so_eq (elt t0 i0 t1 i1 : Expr) (f0 f1 : List Expr) (sc : Scope) (pos : Pos) (it acc : Value) (env : Env) : compTurn (Sc2 elt t0 i0 t1 i1 f0 f1 sc pos) 0 it acc env = (do
  standAt i0.pos
  match ← pyNext it with
  | none => pure (.done .next)
  | some u =>
    letOwnedTupleGo t0 it u
    assign t0 env u
    let mut go := true
    for q in f0 do
      if go then go ← isTrue q env (eval q env)
    if go then
      let y ← eval i1 env
      standAt i1.pos
      let y ← foldedSetIterable i1 env y
      let _ ← runOwn (.compStart (Sc2 elt t0 i0 t1 i1 f0 f1 sc pos) 1 (← holding [y] (pyIter y)) acc env) env
    again (.compLoop (Sc2 elt t0 i0 t1 i1 f0 f1 sc pos) 0 it acc env)) := by rfl
theorem si_eq (elt t0 i0 t1 i1 : Expr) (f0 f1 : List Expr) (sc : Scope) (pos : Pos) (it acc : Value) (env : Env) : compTurn (Sc2 elt t0 i0 t1 i1 f0 f1 sc pos) 1 it acc env = (do
  standAt i1.pos
  match ← pyNext it with
  | none => pure (.done .next)
  | some u =>
    letOwnedTupleGo t1 it u
    assign t1 env u
    let mut go := true
    for q in f1 do
      if go then go ← isTrue q env (eval q env)
    if go then
      (do let y ← eval elt env; standAt elt.pos; let _ ← call (.builtin "set.add") [acc, y])
    again (.compLoop (Sc2 elt t0 i0 t1 i1 f0 f1 sc pos) 1 it acc env)) := by rfl
abbrev Nt (prog : Program) (w : World) (A : Around) (env : Env) (R : Result → Shared → Prop) : Value → Shared → Prop := notedBy (model prog w) A env fun e s' => R (.error e) s'
abbrev tsts (fs : List Expr) (env : Env) : Sem Bool := forIn fs true fun q go => if go = true then do let ok ← isTrue q env (eval q env); pure (ForInStep.yield ok) else pure (ForInStep.yield go)
theorem so_loop (hs : ∀ x, foldedSetIterable i1 env x = pure x) (I : Nat → Shared → Prop)
    (turn : ∀ n s, I n s → wpAny (model prog w) A (pyNext it) (fun r sa => match r with
      | none => R (.ok .next) sa
      | some u => wpAny (model prog w) A (letOwnedTupleGo t0 it u) (fun _ sb => wpAny (model prog w) A (assign t0 env u) (fun _ sc' => wpAny (model prog w) A (tsts f0 env) (fun go sd =>
          if go = true then wpAny (model prog w) A (eval i1 env) (fun y se => wpAny (model prog w) A (pyIter y) (fun j sf =>
            codeAny (model prog w) A (.compStart (Sc2 elt t0 i0 t1 i1 f0 f1 sc pos) 1 j acc env) (fun r s' => match r with
              | .ok _ => ∃ m, m < n ∧ I m s'
              | .error _ => False) sf) (Nt prog w A env R) se) (Nt prog w A env R) sd
          else ∃ m, m < n ∧ I m sd) (Nt prog w A env R) sc') (Nt prog w A env R) sb) (Nt prog w A env R) sa) (Nt prog w A env R) s)
    (n : Nat) (h : I n s) : codeAny (model prog w) A (.compLoop (Sc2 elt t0 i0 t1 i1 f0 f1 sc pos) 0 it acc env) R s := by
  refine codeAny_loop rfl I (fun n s hI => ?_) n h
  show wpAny _ A ((compTurn (Sc2 elt t0 i0 t1 i1 f0 f1 sc pos) 0 it acc env).onRaise (fun x => do noteFrame x env; theTreesLotGoes x)) _ _ s
  refine wpAny_noted ?_
  rw [so_eq]
  refine wpAny_bind (wpAny_standAt (wpAny_bind (wpAny_mono (turn n s hI) (fun r sa ha => ?_) fun _ _ z => z)))
  cases r with
  | none => exact wpAny_pure ha
  | some u =>
    refine wpAny_bind (wpAny_mono ha (fun _ sb hb => ?_) fun _ _ z => z)
    refine wpAny_bind (wpAny_mono hb (fun _ sc' hc => wpAny_bind (wpAny_mono hc (fun go sd hd => ?_) fun _ _ z => z)) fun _ _ z => z)
    cases go with
    | false => exact wpAny_pure ⟨rfl, hd⟩
    | true =>
      refine wpAny_bind (wpAny_mono hd (fun y se he => ?_) fun _ _ z => z)
      refine wpAny_bind (wpAny_standAt (wpAny_bind (wpAny_of_eq (hs y) (wpAny_bind (wpAny_holding (wpAny_mono he (fun j sf hf => ?_) fun _ _ z => z))))))
      refine wpAny_bind (wpAny_runOwn ?_)
      rw [Around.mark_none]
      refine codeAny_mono hf fun r s' hr => ?_
      cases r with
      | ok f =>
        first
          | exact wpAny_pure ⟨rfl, hr⟩
          | exact wpAny_bind (wpAny_pure (wpAny_pure ⟨rfl, hr⟩))
      | error e => exact hr.elim
theorem si_loop (I : Nat → Shared → Prop)
    (turn : ∀ n s, I n s → wpAny (model prog w) A (pyNext it) (fun r sa => match r with
      | none => R (.ok .next) sa
      | some u => wpAny (model prog w) A (letOwnedTupleGo t1 it u) (fun _ sb => wpAny (model prog w) A (assign t1 env u) (fun _ sc' => wpAny (model prog w) A (tsts f1 env) (fun go sd =>
          if go = true then wpAny (model prog w) A (eval elt env) (fun y se =>
            wpAny (model prog w) A (call (.builtin "set.add") [acc, y]) (fun _ sf => ∃ m, m < n ∧ I m sf) (Nt prog w A env R) se) (Nt prog w A env R) sd
          else ∃ m, m < n ∧ I m sd) (Nt prog w A env R) sc') (Nt prog w A env R) sb) (Nt prog w A env R) sa) (Nt prog w A env R) s)
    (n : Nat) (h : I n s) : codeAny (model prog w) A (.compLoop (Sc2 elt t0 i0 t1 i1 f0 f1 sc pos) 1 it acc env) R s := by
  refine codeAny_loop rfl I (fun n s hI => ?_) n h
  show wpAny _ A ((compTurn (Sc2 elt t0 i0 t1 i1 f0 f1 sc pos) 1 it acc env).onRaise (fun x => do noteFrame x env; theTreesLotGoes x)) _ _ s
  refine wpAny_noted ?_
  rw [si_eq]
  refine wpAny_bind (wpAny_standAt (wpAny_bind (wpAny_mono (turn n s hI) (fun r sa ha => ?_) fun _ _ z => z)))
  cases r with
  | none => exact wpAny_pure ha
  | some u =>
    refine wpAny_bind (wpAny_mono ha (fun _ sb hb => ?_) fun _ _ z => z)
    refine wpAny_bind (wpAny_mono hb (fun _ sc' hc => wpAny_bind (wpAny_mono hc (fun go sd hd => ?_) fun _ _ z => z)) fun _ _ z => z)
    cases go with
    | false => exact wpAny_pure ⟨rfl, hd⟩
    | true =>
      exact wpAny_bind (wpAny_bind (wpAny_mono hd (fun y se he => wpAny_bind (wpAny_standAt (wpAny_bind (wpAny_mono he (fun _ sf hf => wpAny_pure (wpAny_pure ⟨rfl, hf⟩)) fun _ _ z => z)))) fun _ _ z => z))
/-- the second source's start -/
theorem s1_start (hl : codeAny (model prog w) A (.compLoop (Sc2 elt t0 i0 t1 i1 f0 f1 sc pos) 1 it acc env) R s)
    (h : wpAny (model prog w) A (pyIter it) (fun j sa => codeAny (model prog w) A (.compLoop (Sc2 elt t0 i0 t1 i1 f0 f1 sc pos) 1 j acc env) R sa) (notedBy (model prog w) A env fun x sa => R (.error x) sa) s) :
    codeAny (model prog w) A (.compStart (Sc2 elt t0 i0 t1 i1 f0 f1 sc pos) 1 it acc env) R s := by
  refine codeAny_of_tree ?_
  show wpAny _ _ ((compStart (Sc2 elt t0 i0 t1 i1 f0 f1 sc pos) 1 it acc env).onRaise (fun x => do noteFrame x env; standAt theWindowsPlace)) _ _ s
  refine wpAny_notedAt ?_
  unfold compStart
  show wpAny _ _ (ask >>= _) _ _ s
  refine wpAny_bind (wpAny_askSetting (wpAny_ite ?_))
  split
  · first
      | exact wpAny_bind (wpAny_pure (wpAny_pure (And.intro rfl hl)))
      | exact wpAny_pure (And.intro rfl hl)
  · first
      | exact wpAny_bind (wpAny_rule (wpAny_bind (wpAny_standAt (wpAny_bind (wpAny_mono h (fun j sa ha => wpAny_pure (And.intro rfl ha)) fun _ _ z => z)))))
      | (refine wpAny_bind (wpAny_rule ?_); show wpAny _ _ (standAt i1.pos >>= _) _ _ s; exact wpAny_bind (wpAny_standAt (wpAny_bind (wpAny_mono h (fun j sa ha => wpAny_pure (And.intro rfl ha)) fun _ _ z => z))))
/-- add of a tuple of ints -/
theorem addT {a : Addr} {L : List (Addr × List Int)} {es : Array (Int × Value)} {ep : Nat} {t : SetTable} {x : Addr} {k : List Int} {E : Value → Shared → Prop} {Q : Value → Shared → Prop} (S : SetTR prog w s.heap a L es ep t) (hx : IsT prog w s.heap k x) (hu : A.units + 8 < cLine) (few : L.length + 1 < 64)
    (hQ : ∀ h' tk L' es' ep' t', Heap.SameBut a s.heap h' → SetTR prog w h' a L' es' ep' t' → (k ∈ L.map (·.2) → L' = L) → (k ∉ L.map (·.2) → L'.Perm ((x, k) :: L)) → Q .none { s with heap := h', toks := tk }) :
    wpAny (model prog w) A (call (.builtin "set.add") [.ref a, .ref x]) Q E s := by
  obtain ⟨o, ho, hex, hd⟩ := S.ob
  refine wpAny_call_entry F.slot_set_add ⟨o, ho, hex.1⟩ F.entry_set_add ?_ (F.args_set_add_2 _ _)
  unfold Builtin.«set.add» Builtin.Frozenset.oneOther
  simp only [List.isEmpty_nil, bind_assoc]
  unfold Builtin.Frozenset.addrOf setAdd
  refine wpAny_bind (wpAny_pure ?_)
  try dsimp only
  refine wpAny_bind (wpAny_pure ?_)
  try dsimp only
  refine wpAny_bind (wpAny_holding (wpAny_bind (wpAny_pyHash_tuple ?_ hx ?_)))
  · first
      | (show A.units + 1 < cLine; omega)
      | (show A.units < cLine; omega)
      | omega
  refine add_at (s := { s with toks := s.toks + (k.length + 1) }) S hx ?_ few fun b h' L' es' ep' t' sb S' c1 c2 => ?_
  · first
      | (show A.units + 1 < cLine; omega)
      | (show A.units < cLine; omega)
      | omega
  show wpAny _ _ (ret Value.none) _ _ _
  exact wpAny_pure ⟨_, rfl, hQ h' _ L' es' ep' t' sb S' c1 c2⟩
end
end SD

set_option Elab.async false
set_option linter.all false
set_option maxRecDepth 100000
set_option maxHeartbeats 4000000
/-! SD: the same, of the judgements. -/
namespace SD
open PySem PySem.Spec PyProof.Rows L2
section
variable {X : Cx}
theorem addT_ok {ps : List (Addr × Obj)} {σ : L2.St} {H : Hp} {s : Shared} {E : Value → Shared → Prop} {D x : Addr} {L : List (Addr × List Int)} {k : List Int} {Q : Value → Shared → Prop} (I : Inv X ps σ H s) (hD : H D = some (SetTO X.prog X.w D L))
    (hL : ∀ p ∈ L, SqT X.K H p.1 (p.2.map V.int)) (hx : SqT X.K H x (k.map V.int)) (hu : X.A.units + 64 < cLine) (few : L.length + 1 < 64)
    (h : ∀ s' L', (k ∈ L.map (·.2) → L' = L) → (k ∉ L.map (·.2) → L'.Perm ((x, k) :: L)) → Inv X ps σ (upd H D (SetTO X.prog X.w D L')) s' → Q .none s') :
    wpAny (model X.prog X.w) X.A (call (.builtin "set.add") [.ref D, .ref x]) Q E s := by
  have S0 : SetT0 X.prog X.w s.heap D L := (I.hok D _ hD).1
  obtain ⟨es, ep, t, S⟩ := S0.full fun p hp => I.isT (hL p hp)
  refine addT S (I.isT hx) (by omega) few fun h' tk L' es' ep' t' sb S' c1 c2 => ?_
  obtain ⟨o, ho, _⟩ := S'.ob
  exact h _ L' c1 c2 (I.write (e := D) (t' := tk) (by rw [hD]; trivial) (.inl rfl) (fun b u hb hu => (sb.2 b hb).trans hu) ⟨o, ho⟩ (setTO_new S'.t0))
/-- what the inner loop asks of one value -/
def stepT (K : PySem.W.Frag) (P : Program) (w : World) (D : Addr) (Nx : Hp → Prop) : VK := fun y H => ∃ (L : List (Addr × List Int)) (x : Addr) (k : List Int), y = .ref x ∧ SqT K H x (k.map V.int) ∧ H D = some (SetTO P w D L) ∧ (∀ p ∈ L, SqT K H p.1 (p.2.map V.int)) ∧ L.length + 1 < 64 ∧
  ∀ L', (k ∈ L.map (·.2) → L' = L) → (k ∉ L.map (·.2) → L'.Perm ((x, k) :: L)) → Nx (upd H D (SetTO P w D L'))
def innT (K : PySem.W.Frag) (P : Program) (w : World) (D : Addr) (g1 : TG) (tt1 : TT) (te : TE) (σ : L2.St) (vs1 : List Nat) (J : It) (Nx : Hp → Prop) (H4 : Hp) : Prop := ∃ U : Nat → Nat → Hp → Prop, (∃ m, U 0 m H4) ∧ ∀ j k H, U j k H →
  (J.stop j H ∧ Nx H) ∨ (J.go j H ∧ ∃ Nx1 : Hp → Prop, (∀ H', Nx1 H' → ∃ k', k' < k ∧ U (j + 1) k' H') ∧ ∀ x H', J.yld j H x H' → g1 x (wipe σ vs1) H' fun τ H5 => wipe τ vs1 = wipe σ vs1 ∧ tt1 τ H5 fun b H6 =>
    if b = true then te τ H6 (stepT K P w D Nx1) else Nx1 H6)
def tS2 (K : PySem.W.Frag) (P : Program) (w : World) (wi : TI) (g : TG) (tt : TT) (wi1 : TI) (g1 : TG) (tt1 : TT) (te : TE) (vs vs1 : List Nat) : TE := fun σ H Q => wi σ H fun J H1 => ∀ D, H1 D = none → ∃ V : Nat → Nat → Hp → Prop, (∃ m, V 0 m (upd H1 D (SetTO P w D []))) ∧ ∀ i m H, V i m H →
  (J.stop i H ∧ Q (.ref D) H) ∨ (J.go i H ∧ ∃ Nx : Hp → Prop, (∀ H', Nx H' → ∃ m', m' < m ∧ V (i + 1) m' H') ∧ ∀ x H', J.yld i H x H' → g x (wipe σ vs) H' fun τ H2 => wipe τ vs = wipe σ vs ∧ tt τ H2 fun b H3 =>
    if b = true then wi1 τ H3 (fun J1 H4 => innT K P w D g1 tt1 te τ vs1 J1 Nx H4) else Nx H3)
theorem setNew {h : Heap} {P : Program} {w : World} {D : Addr} (hD : h.objs.size = D) : SetT0 P w (h.push { cls := .type "set", dict := none, data := .set #[] 0 (.fresh 0 0 (!w.params.followText "set-order")) }) D [] := by
  subst hD
  exact (setTR_fresh (Heap.get?_push_size _ rfl)).t0
theorem s2_core {ps : List (Addr × Obj)} {s : Shared} {σ : L2.St} {H : Hp} {Q : VK} {elt t0 i0 t1 i1 : Expr} {f0 f1 : List Expr} {sc : Scope} {own : List (PySem.Str × Nat)} {vs1 : List Nat} {pos pos' : Pos} {wi wi1 : TI} {g g1 : TG} {tt tt1 : TT} {te : TE} {use : Option (Value → Sem Unit)} {Qf : Value → Shared → Prop}
    (hc : X.calm = true) (hu : X.A.units + 64 < cLine) (hN : X.N.Nodup) (I : Inv X ps σ H s) (hi : PI X t0 i0 wi) (ok : BlkOk X.N X.env.scope sc own) (hv : ∀ i ∈ vs1, i ∈ own.map (·.2))
    (hg : ∀ (s : Shared) (H : Hp) (C : Addr) (cl : List (PySem.Str × Addr)) (fp : List Addr), PG (X.blk s H sc (compEnvC sc cl C X.env) fp) t0 g) (ht : ∀ (s : Shared) (H : Hp) (C : Addr) (cl : List (PySem.Str × Addr)) (fp : List Addr), PTs (X.blk s H sc (compEnvC sc cl C X.env) fp) f0 tt)
    (he : ∀ (s : Shared) (H : Hp) (C : Addr) (cl : List (PySem.Str × Addr)) (fp : List Addr), PE (X.blk s H sc (compEnvC sc cl C X.env) fp) elt te) (hs : ∀ x, foldedSetIterable i0 X.env x = pure x)
    (hi1 : ∀ (s : Shared) (H : Hp) (C : Addr) (cl : List (PySem.Str × Addr)) (fp : List Addr), PI (X.blk s H sc (compEnvC sc cl C X.env) fp) t1 i1 wi1)
    (hg1 : ∀ (s : Shared) (H : Hp) (C : Addr) (cl : List (PySem.Str × Addr)) (fp : List Addr), PG (X.blk s H sc (compEnvC sc cl C X.env) fp) t1 g1)
    (ht1 : ∀ (s : Shared) (H : Hp) (C : Addr) (cl : List (PySem.Str × Addr)) (fp : List Addr), PTs (X.blk s H sc (compEnvC sc cl C X.env) fp) f1 tt1) (hs1 : ∀ env x, foldedSetIterable i1 env x = pure x)
    (h : tS2 X.K X.prog X.w wi g tt wi1 g1 tt1 te (own.map (·.2)) vs1 σ H Q)
    (hR : ∀ D C s' m H', Inv X ps σ H' s' → Q (.ref D) H' → s'.heap.Ns C m → FpOk X ps H' C → compPost (model X.prog X.w) X.A X.xe use Qf (.ref D) C (.ok .next) s') :
    wpAny (model X.prog X.w) X.A (comprehension (Sc2 elt t0 i0 t1 i1 f0 f1 sc pos) sc X.env pos' (newSet (.type "set")) false (eval i0 X.env) use) Qf X.xe s := by
  have hfr : ∀ z ∈ sc.names, z.2 = .free → ∃ c, X.env.cells.lookup z.1 = some c := fun z hz e => (ok.free z hz e).elim (fun k => I.ok.has _ (.inl k)) fun k => I.ok.has _ (.inr k)
  refine wpAny_comprehension_free (use := use) rfl hs (closure_ok hfr) ok.kind (fun z hz e => by rw [ok.uniq z hz, e])
    (thn (hi.run ps s σ H _ I h) fun xv sa hx => thn hx fun itv sb hb => ?_)
  obtain ⟨it, fp, tn, J, Hb, rfl, Ib, T, stb, fb, q⟩ := hb
  refine PpSet.newSet_ok (newEnv_comp ?_)
  generalize hD : sb.heap.objs.size = D
  have nD : Hb D = none := Ib.hok.fresh (Nat.le_of_eq hD)
  obtain ⟨V, ⟨m0, v0⟩, turn⟩ := q D nD
  generalize hs3 : ({ sb with heap := sb.heap.push { cls := .type "set", dict := none, data := .set #[] 0 (.fresh 0 0 (!X.w.params.followText "set-order")) } } : Shared) = sn
  have In : Inv X ps σ (upd Hb D (SetTO X.prog X.w D [])) sn := by
    rw [← hs3]
    exact Ib.laid (t' := sb.toks) (fun b o e => Heap.get?_push_of_some _ e) (Nat.le_of_eq hD) (setTO_new (setNew hD))
  have hsn : sn.heap = sb.heap.push { cls := .type "set", dict := none, data := .set #[] 0 (.fresh 0 0 (!X.w.params.followText "set-order")) } := by rw [← hs3]
  have sz : ∀ b ∈ fp, b < sb.heap.objs.size := fun b hb => (T.obj _ _ stb b hb).elim fun o e => Heap.lt_size e.1
  have fn : ∀ b ∈ fp, FpOk X ps (upd Hb D (SetTO X.prog X.w D [])) b ∧ b < sn.heap.objs.size := fun b hb =>
    ⟨⟨(upd_ne (show b ≠ D by rw [← hD]; exact Nat.ne_of_lt (sz b hb))).trans (fb b hb).1, (fb b hb).2⟩, by rw [hsn, Heap.size_push]; exact Nat.lt_succ_of_lt (sz b hb)⟩
  have stn : tn 0 sn.heap := T.keep _ _ _ stb fun b _ o e => by rw [hsn]; exact Heap.get?_push_of_some _ e
  have Ic := block_start In ok hN fn
  show codeAny _ _ (.compStart (Sc2 elt t0 i0 t1 i1 f0 f1 sc pos) 0 (.ref it) (.ref D) (compEnvC sc (cellsFrom (sn.heap.objs.size + 1) sc.names (cloFrom X.env.cells sc.names [])) sn.heap.objs.size X.env)) (compPost (model X.prog X.w) X.A X.xe use Qf (.ref D) sn.heap.objs.size) { sn with heap := pushCells (sn.heap.push { cls := .type "dict", data := .dict #[] }) sc.names }
  generalize hcl : cellsFrom (sn.heap.objs.size + 1) sc.names (cloFrom X.env.cells sc.names []) = cl at Ic ⊢
  have gE := he sn (upd Hb D (SetTO X.prog X.w D [])) sn.heap.objs.size cl fp
  have gG := hg sn (upd Hb D (SetTO X.prog X.w D [])) sn.heap.objs.size cl fp
  have gT := ht sn (upd Hb D (SetTO X.prog X.w D [])) sn.heap.objs.size cl fp
  have gI1 := hi1 sn (upd Hb D (SetTO X.prog X.w D [])) sn.heap.objs.size cl fp
  have gG1 := hg1 sn (upd Hb D (SetTO X.prog X.w D [])) sn.heap.objs.size cl fp
  have gT1 := ht1 sn (upd Hb D (SetTO X.prog X.w D [])) sn.heap.objs.size cl fp
  have nfp : ∀ b ∈ fp, (upd Hb D (SetTO X.prog X.w D [])) b = none := fun b hb => (fn b hb).1.1
  generalize hce : compEnvC sc cl sn.heap.objs.size X.env = ce at Ic gE gG gT gI1 gG1 gT1 ⊢
  have eL : ce.locals = sn.heap.objs.size := by subst hce; rfl
  generalize hHn : upd Hb D (SetTO X.prog X.w D []) = Hn at In Ic gE gG gT gI1 gG1 gT1 v0 nfp fn
  generalize hsc : ({ sn with heap := pushCells (sn.heap.push { cls := .type "dict", data := .dict #[] }) sc.names } : Shared) = sq at Ic ⊢
  have stq : tn 0 sq.heap := T.keep _ _ _ stn fun b _ o e => by rw [← hsc]; exact pushCells_keeps _ _ _ _ (Heap.get?_push_of_some _ e)
  obtain ⟨Y, hY⟩ : ∃ Y, Y = X.blk sn Hn sc ce fp := ⟨_, rfl⟩
  have stat : ∀ {τ : L2.St} {H' : Hp} {s' : Shared}, Inv (X.blk sn Hn sc ce fp) [] τ H' s' → (∀ b ∈ fp, H' b = none) → ∀ b ∈ fp, FpOk (X.blk sn Hn sc ce fp) [] H' b := fun I' hn b hb =>
    ⟨hn b hb, (I'.ok.exf b hb).1, I'.ok.exfs b hb, .inl hb, fun x c e => (I'.ok.exf b hb).2 x c e, fun p hp => by cases hp⟩
  have outer : codeAny (model X.prog X.w) X.A (.compLoop (Sc2 elt t0 i0 t1 i1 f0 f1 sc pos) 0 (.ref it) (.ref D) ce) (compPost (model X.prog X.w) X.A X.xe use Qf (.ref D) sn.heap.objs.size) sq := by
    refine so_loop (hs1 ce) (fun n s' => ∃ i H', Inv (X.blk sn Hn sc ce fp) [] (wipe σ (own.map (·.2))) H' s' ∧ tn i s'.heap ∧ (∀ b ∈ fp, H' b = none) ∧ V i n H') ?_ m0 ⟨0, Hn, Ic, stq, nfp, v0⟩
    rintro n s5 ⟨i, H5, I5, st5, n5, w5⟩
    rcases turn i n H5 w5 with ⟨stop, qq⟩ | ⟨go, Nx, hNx, step⟩
    · refine thnF (T.done (X.blk sn Hn sc ce fp) rfl rfl rfl hc i [] s5 _ H5 (fun _ _ => False) I5 (stat I5 n5) st5 stop) fun r s6 ⟨hr, I6⟩ => ?_
      subst hr
      have I7 : Inv X ps σ H5 s6 := In.call' (ch := fp) I6.os I6.base I6.hok I6.bare fun b hb => ⟨(fn b hb).1.2.2.2.1, (fn b hb).1.2.1, (fn b hb).1.2.2.2.2.1, (fn b hb).1.2.2.2.2.2⟩
      have nC : H5 ce.locals = none := I6.free
      obtain ⟨m, hn, _⟩ := I6.loc
      have hn : s6.heap.Ns ce.locals m := hn
      rw [eL] at hn nC
      exact hR D _ s6 m H5 I7 qq hn (In.fpOk (Nat.le_refl _) nC)
    · refine thnF (T.item (X.blk sn Hn sc ce fp) rfl rfl rfl hc i [] s5 _ H5 (fun _ _ => False) I5 (stat I5 n5) st5 go) fun r s6 ⟨u, hr, h6⟩ => ?_
      subst hr
      refine thnF h6 fun _ s7 ⟨x, H7, I7, r7, y7, st7, n7⟩ => ?_
      have J7 := I7.pinned (stat I7 n7) (T.obj _ _ st7)
      refine thnF (gG.run _ s7 _ H7 x u _ J7 r7 (step x H7 y7)) fun _ s8 ⟨τ8, H8, I8, hw8, q8⟩ => ?_
      refine thnF (gT.run _ s8 τ8 H8 _ I8 q8) fun b s9 ⟨H9, I9, q9⟩ => ?_
      have fin : ∀ {τ : L2.St} {s' : Shared} {H' : Hp}, Inv (X.blk sn Hn sc ce fp) ([] ++ pinsAt fp s7.heap) τ H' s' → (wipe σ (own.map (·.2))).length = τ.length → (∀ (j : Nat) v, (wipe σ (own.map (·.2)))[j]? = some (some v) → τ[j]? = some (some v)) → Nx H' →
          ∃ m, m < n ∧ ∃ i H', Inv (X.blk sn Hn sc ce fp) [] (wipe σ (own.map (·.2))) H' s' ∧ tn i s'.heap ∧ (∀ b ∈ fp, H' b = none) ∧ V i m H' := fun {τ s' H'} I' hl hk nx => by
        obtain ⟨m', hm, w'⟩ := hNx H' nx
        have pin : ∀ b ∈ fp, ∀ o, s7.heap.get? b = some o → s'.heap.get? b = some o ∧ H' b = none := fun b hb o e =>
          have z := I'.pin (b, o) (List.mem_append_right _ (List.mem_append_right _ (mem_pinsAt hb e)))
          ⟨z.1, z.2.1⟩
        refine ⟨m', hm, i + 1, H', (I'.unpinned (pins := [])).weak hl hk, T.keep _ _ _ st7 fun b hb o e => (pin b hb o e).1, fun b hb => ?_, w'⟩
        exact (T.obj _ _ st7 b hb).elim fun o e => (pin b hb o e.1).2
      have l8 : (wipe σ (own.map (·.2))).length = τ8.length := by rw [← hw8, wipe_length]
      have k8 : ∀ (j : Nat) v, (wipe σ (own.map (·.2)))[j]? = some (some v) → τ8[j]? = some (some v) := fun j v e => by
        rw [← hw8] at e
        exact (wipe_some e).1
      have k9 : ∀ (j : Nat) v, (wipe σ (own.map (·.2)))[j]? = some (some v) → (wipe τ8 vs1)[j]? = some (some v) := fun j v e => by
        rw [← hw8] at e
        rw [wipe_out fun z => (wipe_some e).2 (hv j z)]
        exact (wipe_some e).1
      cases b with
      | false =>
        simp only [Bool.false_eq_true, if_false] at q9 ⊢
        exact fin I9 l8 k8 q9
      | true =>
        simp only [if_true] at q9 ⊢
        refine thnF (gI1.run _ s9 τ8 H9 _ I9 q9) fun xv s10 hx => thnF hx fun itv s11 h11 => ?_
        obtain ⟨it1, fp1, tn1, J1, H11, rfl, I11, T1, st11, f11, U, ⟨m1, u1⟩, turn1⟩ := h11
        have stat1 : ∀ {H' : Hp}, (∀ b ∈ fp1, H' b = none) → ∀ b ∈ fp1, FpOk (X.blk sn Hn sc ce fp) ([] ++ pinsAt fp s7.heap) H' b := fun hn b hb => ⟨hn b hb, (f11 b hb).2⟩
        have inner : codeAny (model X.prog X.w) X.A (.compLoop (Sc2 elt t0 i0 t1 i1 f0 f1 sc pos) 1 (.ref it1) (.ref D) ce)
            (fun r s' => match r with
              | .ok _ => ∃ m, m < n ∧ ∃ i H', Inv (X.blk sn Hn sc ce fp) [] (wipe σ (own.map (·.2))) H' s' ∧ tn i s'.heap ∧ (∀ b ∈ fp, H' b = none) ∧ V i m H'
              | .error _ => False) s11 := by
          refine si_loop (fun k s' => ∃ j H', Inv (X.blk sn Hn sc ce fp) ([] ++ pinsAt fp s7.heap) (wipe τ8 vs1) H' s' ∧ tn1 j s'.heap ∧ (∀ b ∈ fp1, H' b = none) ∧ U j k H') ?_ m1 ⟨0, H11, I11.weak (wipe_length _ _) (fun j v e => (wipe_some e).1), st11, fun b hb => (f11 b hb).1, u1⟩
          rintro k s12 ⟨j, H12, I12, st12, n12, w12⟩
          rcases turn1 j k H12 w12 with ⟨stop1, nx1⟩ | ⟨go1, Nx1, hNx1, step1⟩
          · refine thnF (T1.done (X.blk sn Hn sc ce fp) rfl rfl rfl hc j _ s12 (wipe τ8 vs1) H12 (fun _ _ => False) I12 (stat1 n12) st12 stop1) fun r s13 ⟨hr, I13⟩ => ?_
            subst hr
            exact fin I13 (l8.trans (wipe_length τ8 vs1).symm) k9 nx1
          · refine thnF (T1.item (X.blk sn Hn sc ce fp) rfl rfl rfl hc j _ s12 (wipe τ8 vs1) H12 (fun _ _ => False) I12 (stat1 n12) st12 go1) fun r s13 ⟨u1, hr, h13⟩ => ?_
            subst hr
            refine thnF h13 fun _ s14 ⟨x1, H14, I14, r14, y14, st14, n14⟩ => ?_
            have J14 := I14.pinned (stat1 n14) (T1.obj _ _ st14)
            refine thnF (gG1.run _ s14 (wipe τ8 vs1) H14 x1 u1 _ J14 r14 (step1 x1 H14 y14)) fun _ s15 ⟨τ, H15, I15, hw15, q15⟩ => ?_
            refine thnF (gT1.run _ s15 τ H15 _ I15 q15) fun b1 s16 ⟨H16, I16, q16⟩ => ?_
            have fin1 : ∀ {s' : Shared} {H' : Hp}, Inv (X.blk sn Hn sc ce fp) (([] ++ pinsAt fp s7.heap) ++ pinsAt fp1 s14.heap) τ H' s' → Nx1 H' → ∃ m, m < k ∧ ∃ j H', Inv (X.blk sn Hn sc ce fp) ([] ++ pinsAt fp s7.heap) (wipe τ8 vs1) H' s' ∧ tn1 j s'.heap ∧ (∀ b ∈ fp1, H' b = none) ∧ U j m H' := fun {s' H'} I' nx => by
              obtain ⟨m', hm, w'⟩ := hNx1 H' nx
              have pin : ∀ b ∈ fp1, ∀ o, s14.heap.get? b = some o → s'.heap.get? b = some o ∧ H' b = none := fun b hb o e =>
                have z := I'.pin (b, o) (List.mem_append_right _ (List.mem_append_right _ (mem_pinsAt hb e)))
                ⟨z.1, z.2.1⟩
              refine ⟨m', hm, j + 1, H', I'.unpinned.weak (by rw [← hw15, wipe_length]) (fun j v e => (wipe_some (hw15.symm ▸ e)).1), T1.keep _ _ _ st14 fun b hb o e => (pin b hb o e).1, fun b hb => ?_, w'⟩
              exact (T1.obj _ _ st14 b hb).elim fun o e => (pin b hb o e.1).2
            cases b1 with
            | false =>
              simp only [Bool.false_eq_true, if_false] at q16 ⊢
              exact fin1 I16 q16
            | true =>
              simp only [if_true] at q16 ⊢
              refine thnF (gE.run _ s16 τ H16 _ I16 q16) fun z s17 ⟨yv, H17, I17, r17, L, x, k', ey, hx', hD', hL', few, nx⟩ => ?_
              subst ey
              cases (show z = Value.ref x from r17)
              exact addT_ok (X := X.blk sn Hn sc ce fp) I17 hD' hL' hx' hu few fun s18 L' c1 c2 I18 => fin1 I18 (nx L' c1 c2)
        exact s1_start inner (T1.self X.A 0 _ _ _ st11 inner)
  exact PpSet.codeAny_compStart_set outer (T.self X.A 0 _ _ _ stq outer)
end
end SD

set_option Elab.async false
set_option linter.all false
set_option maxRecDepth 100000
set_option maxHeartbeats 4000000
/-! SD: sorted pairs of whole numbers; sorted({pair for .. for .. if ..}). -/
namespace SD
open PySem PySem.Spec PyProof.Rows L2

/-! ### the order of pairs -/
abbrev I2 := Int × Int
def leP (a b : I2) : Bool := !(SrtO.lexB b a)
theorem leP_iff {a b : I2} : leP a b = true ↔ a.1 < b.1 ∨ (a.1 = b.1 ∧ a.2 ≤ b.2) := by
  unfold leP
  have := @SrtO.lexB_iff b a
  cases h : SrtO.lexB b a with
  | true =>
    have := this.mp h
    simp only [Bool.not_true, Bool.false_eq_true, false_iff]
    omega
  | false =>
    have n : ¬ (b.1 < a.1 ∨ b.1 = a.1 ∧ b.2 < a.2) := fun z => by rw [this.mpr z] at h; cases h
    simp only [Bool.not_false, true_iff]
    omega
theorem leP_anti {a b : I2} (h1 : leP a b = true) (h2 : leP b a = true) : a = b := by
  rw [leP_iff] at h1 h2
  exact Prod.ext (by omega) (by omega)
theorem leP_tr {a b c : I2} (h1 : leP a b = true) (h2 : leP b c = true) : leP a c = true := by
  rw [leP_iff] at *
  omega
theorem leP_tot {a b : I2} (h : ¬ leP a b = true) : leP b a = true := by
  rw [leP_iff] at *
  omega
def insP (a : I2) : List I2 → List I2
  | [] => [a]
  | b :: r => if leP a b = true then a :: b :: r else b :: insP a r
def sortP : List I2 → List I2
  | [] => []
  | a :: r => insP a (sortP r)
theorem insP_perm (a : I2) : ∀ l : List I2, (insP a l).Perm (a :: l)
  | [] => .refl _
  | b :: r => by
    unfold insP
    split
    · exact .refl _
    · exact ((insP_perm a r).cons b).trans (.swap a b r)
theorem sortP_perm : ∀ l : List I2, (sortP l).Perm l
  | [] => .refl _
  | a :: r => (insP_perm a _).trans ((sortP_perm r).cons a)
abbrev SoP (l : List I2) : Prop := l.Pairwise fun a b => leP a b = true
theorem insP_sorted (a : I2) : ∀ {l : List I2}, SoP l → SoP (insP a l)
  | [], _ => by simp [insP]
  | b :: r, h => by
    have hb := List.pairwise_cons.mp h
    unfold insP
    split
    · rename_i hab
      refine List.pairwise_cons.mpr ⟨fun y hy => ?_, h⟩
      rcases List.mem_cons.mp hy with rfl | hy
      · exact hab
      · exact leP_tr hab (hb.1 y hy)
    · rename_i hab
      refine List.pairwise_cons.mpr ⟨fun y hy => ?_, insP_sorted a hb.2⟩
      rcases List.mem_cons.mp ((insP_perm a r).mem_iff.mp hy) with rfl | hy
      · exact leP_tot hab
      · exact hb.1 y hy
theorem sortP_sorted : ∀ l : List I2, SoP (sortP l)
  | [] => .nil
  | a :: r => insP_sorted a (sortP_sorted r)
theorem sortedP_eq : ∀ {l m : List I2}, l.Perm m → SoP l → SoP m → l = m
  | [], m, h, _, _ => (h.symm.eq_nil).symm
  | a :: l, [], h, _, _ => nomatch h.eq_nil
  | a :: l, b :: m, h, h1, h2 => by
    obtain ⟨p1, p2⟩ := List.pairwise_cons.mp h1
    obtain ⟨q1, q2⟩ := List.pairwise_cons.mp h2
    have rf : ∀ x : I2, leP x x = true := fun x => leP_iff.mpr (by omega)
    have e : a = b := by
      refine leP_anti ?_ ?_
      · rcases List.mem_cons.mp (h.mem_iff.mpr (List.mem_cons_self (a := b) (l := m))) with e | e
        · rw [e]; exact rf a
        · exact p1 b e
      · rcases List.mem_cons.mp (h.mem_iff.mp (List.mem_cons_self (a := a) (l := l))) with e | e
        · rw [← e]; exact rf a
        · exact q1 a e
    subst e
    rw [sortedP_eq h.cons_inv p2 q2]
theorem sortP_uniq {l m : List I2} (h : l.Perm m) : sortP l = sortP m := sortedP_eq ((sortP_perm l).trans (h.trans (sortP_perm m).symm)) (sortP_sorted l) (sortP_sorted m)

/-! ### a set of pairs, sorted -/
def prL (q : I2) : List Int := [q.1, q.2]
def prD (q : I2) : DV := .tup [.int q.1, .int q.2]
def unL : List Int → I2
  | [a, b] => (a, b)
  | _ => (0, 0)
theorem unL_pr (q : I2) : unL (prL q) = q := rfl
section
variable {prog : Program} {w : World} {A : Around} {E : Value → Shared → Prop} {s : Shared}
theorem isPair_of {h : Heap} {v : Value} {q : I2} (x : TS.TupInts h v (prL q)) : Srt.IsPair h v q.1 q.2 := by
  obtain ⟨a, xs, e, ⟨o, ho, hc, n, hd⟩, i⟩ := x
  obtain ⟨l, rfl⟩ : ∃ l : List Value, xs = l.toArray := ⟨xs.toList, by simp⟩
  have i : IntsAre l [q.1, q.2] := by simpa [prL] using i
  cases i with
  | cons _ t i =>
    cases i with
    | cons _ u i =>
      cases i
      exact ⟨a, o, t, u, n, e, ho, hc, hd⟩
theorem sortSet {a : Addr} {L : List (Addr × List Int)} {es : Array (Int × Value)} {ep : Nat} {t : SetTable} {Q : Value → Shared → Prop} {ms : List I2} (S : SetTR prog w s.heap a L es ep t) (hh : A.handled = none) (hm : (L.map (·.2)).Perm (ms.map prL))
    (hQ : ∀ s' p (out : Array Value) (c : Nat) (L' : List (Addr × List Int)), (∀ b o, s.heap.get? b = some o → s'.heap.get? b = some o) → s'.gens = s.gens → s'.os = s.os → s.heap.objs.size ≤ p →
      s'.heap.get? p = some (seqObj "list" out c) → out.toList = L'.map (fun q => Value.ref q.1) → L'.Perm L → L'.map (·.2) = (sortP ms).map prL → Q (.ref p) s') :
    wpAny (model prog w) A (call (.builtin "sorted") [.ref a]) Q E s := by
  obtain ⟨o, ho, hex, hd⟩ := S.ob
  have hsz := S.size
  have hfew := S.few
  have hpr : ∀ q ∈ L, q.2 = prL (unL q.2) := fun q hq => by
    obtain ⟨m, _, e⟩ := List.mem_map.mp (hm.mem_iff.mp (List.mem_map.mpr ⟨q, hq, rfl⟩))
    rw [← e]; rfl
  refine Calls.call_function_entry kind_sorted plain_sorted entry_sorted (args_sorted1 _) ?_
  unfold Builtin.«sorted»
  refine wpAny_bind (m := checkCount "sorted" 1 1 _) (wpAny_pure ?_)
  refine wpAny_bind (collect_set (A := A.in1) hh ⟨o, ho, hex.1, hd⟩ S.fits (by unfold scanBound; omega) S.tab.ris S.led fun s1 vs k1 hz g1 o1 pm => ?_)
  have hes : es.toList.map (·.2) = L.map fun q => Value.ref q.1 := by
    rw [S.rows]
    unfold rowsOf
    rw [List.map_map] <;> rfl
  rw [hes] at pm
  have hvl : vs.length < 64 := by rw [pm.length_eq, List.length_map]; exact hfew
  have hvz : vs.length ≤ sizeLine := by rw [sizeLine_eq]; omega
  refine wpAny_bind (wpAny_newList ?_ hvz)
  have hoL : (s1.heap.push (seqObj "list" vs.toArray 0)).get? s1.heap.objs.size = some (seqObj "list" vs.toArray 0) := Heap.get?_push_size _ rfl
  have tk : ∀ q ∈ L, TS.TupInts (s1.heap.push (seqObj "list" vs.toArray 0)) (.ref q.1) q.2 := fun q hq => tupInts_of (P := prog) (w := w) (isT_keep (S.tup q hq) fun b u e => Heap.get?_push_of_some _ (k1 b u e))
  -- the key of a value: what its tuple holds
  obtain ⟨h0, eh0⟩ : ∃ h0, h0 = s1.heap.push (seqObj "list" vs.toArray 0) := ⟨_, rfl⟩
  rw [← eh0] at tk
  let key : Value → I2 := fun v => unL (TS.intsOf h0 v)
  have hkey : ∀ q ∈ L, key (.ref q.1) = unL q.2 := fun q hq => by show unL (TS.intsOf h0 (.ref q.1)) = _; rw [(tk q hq).ints]
  have hp : ∀ v ∈ vs, Srt.IsPair h0 v (key v).1 (key v).2 := fun v hv => by
    obtain ⟨q, hq, e⟩ := List.mem_map.mp (pm.mem_iff.mp hv)
    subst e
    rw [hkey q hq]
    refine isPair_of ?_
    rw [← hpr q hq]
    exact tk q hq
  refine wpAny_bind (wpAny_holding (wpAny_call_entry PyProof.Rows.slot_list_sort ⟨_, hoL, rfl⟩ PyProof.Rows.entry_list_sort (SrtO.list_sort_ord (s := { s1 with heap := s1.heap.push (seqObj "list" vs.toArray 0) }) (SrtO.swo_lex key) hoL hvz (fun h2 => ?_) fun out hs hb => ⟨_, rfl, ?_⟩) (PyProof.Rows.args_list_sort _)))
  · refine SrtO.pairs_sortableO (s := { s1 with heap := s1.heap.push (seqObj "list" vs.toArray 0) }) (by omega) (fun v hv => by rw [← eh0]; exact hp v hv) fun o e => ?_
    have e' : some o = some (seqObj "list" vs.toArray 0) := e.symm.trans hoL
    cases e'
    intro c
    exact absurd (Value.type.inj c) (by decide)
  obtain ⟨c, hc⟩ := PyProof.Rows.sortedHeap_at (vs := vs) (out := out.toArray) hoL
  have ord : ∀ vs : List Value, (∀ v ∈ vs, ∃ q ∈ L, v = Value.ref q.1) → ∃ L1 : List (Addr × List Int), vs = L1.map (fun q => Value.ref q.1) ∧ ∀ q ∈ L1, q ∈ L := by
    intro vs
    induction vs with
    | nil => exact fun _ => ⟨[], rfl, fun q hq => by cases hq⟩
    | cons v vs ih =>
      intro hv
      obtain ⟨q, hq, rfl⟩ := hv v List.mem_cons_self
      obtain ⟨M, e1, hs⟩ := ih fun u hu => hv u (List.mem_cons_of_mem _ hu)
      exact ⟨q :: M, by rw [List.map_cons, e1], fun r hr => (List.mem_cons.mp hr).elim (fun z => z ▸ hq) (hs r)⟩
  obtain ⟨L', e', hs'⟩ := ord out fun v hv => by
    obtain ⟨q, hq, e⟩ := List.mem_map.mp (pm.mem_iff.mp (hb.perm.mem_iff.mp hv))
    exact ⟨q, hq, e.symm⟩
  have fst_of : ∀ q ∈ L, ∀ r ∈ L, q.1 = r.1 → q = r := fun q hq r hr e => by
    have x := S.tup q hq
    rw [e] at x
    exact Prod.ext e (x.inj (S.tup r hr))
  have nL : L.Nodup := nodup_of_map S.nd
  have nref : (L.map fun q => Value.ref q.1).Nodup := by
    refine List.pairwise_map.mpr (List.Pairwise.imp_of_mem (fun {q r} hq hr hne e => ?_) nL)
    injection e with e
    exact hne (fst_of q hq r hr e)
  have pO : (L'.map fun q => Value.ref q.1).Perm (L.map fun q => Value.ref q.1) := by rw [← e']; exact hb.perm.trans pm
  have pL : L'.Perm L := by
    refine (List.perm_ext_iff_of_nodup (nodup_of_map (pO.nodup_iff.mpr nref)) nL).mpr fun q => ⟨hs' q, fun hq => ?_⟩
    obtain ⟨r, hr, e⟩ := List.mem_map.mp (pO.mem_iff.mpr (List.mem_map.mpr ⟨q, hq, rfl⟩))
    injection e with e
    rw [← fst_of r (hs' r hr) q hq e]
    exact hr
  have km : L'.map (·.2) = (L'.map fun q => unL q.2).map prL := by
    rw [List.map_map]
    exact List.map_congr_left fun q hq => hpr q (hs' q hq)
  have pk : (L'.map fun q => unL q.2).Perm ms := by
    have z := ((pL.map (·.2)).trans hm).map unL
    rw [List.map_map, List.map_map] at z
    have e1 : (unL ∘ prL) = id := rfl
    rw [e1, List.map_id] at z
    exact z
  have sk : SoP (L'.map fun q => unL q.2) := by
    refine List.pairwise_map.mpr ?_
    rw [e'] at hs
    refine List.Pairwise.imp_of_mem (fun {q r} hq hr z => ?_) (List.pairwise_map.mp hs)
    have z : SrtO.lexB (key (Value.ref r.1)) (key (Value.ref q.1)) = false := z
    rw [hkey q (hs' q hq), hkey r (hs' r hr)] at z
    unfold leP
    rw [z]; rfl
  refine wpAny_pure ⟨_, rfl, hQ _ s1.heap.objs.size out.toArray c L' (fun b u e => ?_) g1 o1 hz hc (by simpa using e') pL ?_⟩
  · have q := k1 b u e
    have hlt := Heap.lt_size q
    show (PyProof.Rows.sortedHeap (s1.heap.push (seqObj "list" vs.toArray 0)) s1.heap.objs.size vs out.toArray).get? b = some u
    rw [PyProof.Rows.sortedHeap_old (Nat.ne_of_lt hlt) (by rw [size_push']; exact Nat.lt_succ_of_lt hlt)]
    exact Heap.get?_push_of_some _ q
  · rw [km, sortedP_eq (pk.trans (sortP_perm ms).symm) sk (sortP_sorted ms)]
end
section
variable {X : Cx}
def rSS (K : PySem.W.Frag) (P : Program) (w : World) : List V → Hp → VK → Prop := fun vs H Q => ∃ (a : Addr) (L : List (Addr × List Int)) (ms : List I2), vs = [V.ref a] ∧ H a = some (SetTO P w a L) ∧ (∀ p ∈ L, SqT K H p.1 (p.2.map V.int)) ∧ (L.map (·.2)).Perm (ms.map prL) ∧
  ∀ (L' : List (Addr × List Int)) (p : Addr), L'.Perm L → L'.map (·.2) = (sortP ms).map prL → H p = none → Q (.ref p) (upd H p (.lst (L'.map fun q => V.ref q.1)))
theorem cSS (hc : X.calm = true) : CallR X (.builtin "sorted") (rSS X.K X.prog X.w) := by
  intro pins s σ H vs us Q I r h
  obtain ⟨a, L, ms, rfl, ha, hk, hm, q⟩ := h
  have S0 : SetT0 X.prog X.w s.heap a L := (I.hok a _ ha).1
  obtain ⟨es, ep, t, S⟩ := S0.full fun p hp => I.isT (hk p hp)
  rw [Vals.ref1 r]
  refine sortSet S (I.ok.hd hc) hm fun s' p out c L' k g o hp hg hout pm e2 => ?_
  have hfew : L'.length < 64 := by rw [pm.length_eq]; exact S.few
  have J : Inv X pins σ (upd H p (.lst (L'.map fun q => V.ref q.1))) { s with heap := s'.heap, gens := s'.gens, drawn := s'.drawn, toks := s'.toks } :=
    I.call (ch := []) (Un.laid k hp (I.hok.fresh hp)) (I.hok.laid k hp ⟨by rw [List.length_map, sizeLine_eq]; omega, out.toList, c, by rw [hout]; exact vals_of_refs L', by simpa using hg⟩) (by rw [g]; exact I.bare) (fun _ z => nomatch z)
  obtain ⟨h', g', d', t', o'⟩ := s'
  have o : o' = s.os := o
  subst o
  exact ⟨.ref p, _, J, rfl, q L' p pm e2 (I.hok.fresh hp)⟩
end
end SD

set_option Elab.async false
set_option linter.all false
set_option maxRecDepth 100000
set_option maxHeartbeats 4000000
/-! SD: sorted({pair for .. for .. if ..}) on deep data. -/
namespace SD
open PySem PySem.Spec PyProof.Rows L2
theorem R.bind_assoc {α β γ : Type} (r : R α) (f : α → Sto → R β) (k : β → Sto → R γ) : (r.bind f).bind k = r.bind fun a μ => (f a μ).bind k := by cases r <;> rfl
theorem nox_ok {α β : Type} {g : Gc} {W : WX} {σ : L2.St} {κ : KA} {H : Hp} {r : R α} {k : α → Sto → R β} {Φ : β → Sto → KA → Hp → Prop} (h : wpR g W σ κ H (r.nox.bind k) Φ) : ∃ a μ, r = .ok a μ ∧ wpR g W σ κ H (k a μ) Φ := by
  cases r with
  | ok a μ => exact ⟨a, μ, rfl, h⟩
  | ex c ns xs μ => exact h.elim
  | stuck => exact h.elim
def addP (ms : List I2) (q : I2) : List I2 := if q ∈ ms then ms else ms ++ [q]
def asP : DV → Option I2
  | .tup [.int a, .int b] => some (a, b)
  | _ => none
theorem asP_eq {d : DV} {q : I2} (h : asP d = some q) : d = prD q := by
  unfold asP at h
  split at h
  · cases h; rfl
  · cases h
/-- a walk, ms what is gathered -/
def loopA (w : Wk) (t : DG) (tt : DT) (bd : En → List I2 → Sto → R (List I2)) (ρ : En) : Nat → Nat → List I2 → Sto → R (List I2)
  | 0, _, _, _ => .stuck
  | n + 1, k, ms, μ => match wkAt w μ k with
    | none => .stuck
    | some none => .ok ms μ
    | some (some d) => match t d ρ μ with
      | none => .stuck
      | some ρ1 => (tt ρ1 μ).nox.bind fun b μ1 => if b = true then (bd ρ1 ms μ1).bind fun ms μ2 => loopA w t tt bd ρ n (k + 1) ms μ2 else loopA w t tt bd ρ n (k + 1) ms μ1
def bdI (te : DE) : En → List I2 → Sto → R (List I2) := fun ρ ms μ => (te ρ μ).nox.bind fun y μ1 => match asP y with
  | some q => if ms.length + 1 < 64 then .ok (addP ms q) μ1 else .stuck
  | none => .stuck
def bdO (fi : DI) (t : DG) (tt : DT) (te : DE) (vs : List Nat) : En → List I2 → Sto → R (List I2) := fun ρ ms μ => (fi ρ μ).nox.bind fun w μ1 => loopA w t tt (bdI te) (wipeE ρ vs) (wkLen w μ1 + 1) 0 ms μ1
def eGat (fi : DI) (t : DG) (tt : DT) (fi1 : DI) (t1 : DG) (tt1 : DT) (te : DE) (vs vs1 : List Nat) : En → Sto → R (List I2) := fun ρ μ => (fi ρ μ).bind fun w μ1 => loopA w t tt (bdO fi1 t1 tt1 te vs1) (wipeE ρ vs) (wkLen w μ1 + 1) 0 [] μ1
def eSS (e : En → Sto → R (List I2)) : DE := fun ρ μ => (e ρ μ).bind fun ms μ1 => .ok (.lst ((sortP ms).map prD)) μ1
def eSSC (e : En → Sto → R (List I2)) : DE := fun ρ μ => (e ρ μ).bind fun ms μ1 => .ok (.cell μ1.length) (μ1 ++ [.lst ((sortP ms).map prD)])

/-- the set at D while it is filled -/
structure PS0 (g : Gc) (P : Program) (w : World) (κ1 : KA) (H1 : Hp) (D : Addr) (ms : List I2) (κ : KA) (H : Hp) (μ : Sto) : Prop where
  gh : κ.gh = D :: κ1.gh
  ex : Ext0 κ1 H1 κ H
  hv : ∀ a ∈ κ1.gh, NoTbl H1 a → H a = H1 a
  so : StoOk g κ H μ
  st : ∃ L, H D = some (SetTO P w D L) ∧ (L.map (·.2)).Perm (ms.map prL) ∧ ∀ p ∈ L, FrT g κ H p.1 (p.2.map V.int)
theorem noTbl_set {P : Program} {w : World} {H : Hp} {D : Addr} {L : List (Addr × List Int)} (h : H D = some (SetTO P w D L)) : NoTbl H D := fun ps e => by rw [h] at e; cases e
section
variable {g : Gc} {P : Program} {w : World} {κ1 κ κ' : KA} {H1 H H' : Hp} {D : Addr} {ms : List I2} {μ μ' : Sto}
theorem PS0.ext (p : PS0 g P w κ1 H1 D ms κ H μ) (e : Ext κ H κ' H') (s : StoOk g κ' H' μ') : PS0 g P w κ1 H1 D ms κ' H' μ' := by
  obtain ⟨L, h1, h2, h3⟩ := p.st
  refine ⟨e.ghs.trans p.gh, p.ex.trans e.toExt0, fun a ha n => ?_, s, L, ?_, h2, fun q hq => (h3 q hq).ext e⟩
  · have z := p.hv a ha n
    exact (e.ghv a (by rw [p.gh]; exact List.mem_cons_of_mem _ ha) fun ps y => n ps (by rw [← z]; exact y)).trans z
  · exact (e.ghv D (by rw [p.gh]; exact List.mem_cons_self) (noTbl_set h1)).trans h1
theorem prL_inj {a b : I2} (h : prL a = prL b) : a = b := by
  have := congrArg unL h
  exact this
theorem mem_prL {ms : List I2} {q : I2} : prL q ∈ ms.map prL ↔ q ∈ ms := by
  constructor
  · intro h
    obtain ⟨m, hm, e⟩ := List.mem_map.mp h
    rw [← prL_inj e]; exact hm
  · exact fun h => List.mem_map.mpr ⟨q, h, rfl⟩
theorem PS0.add (s1 : StoOk g κ1 H1 μ') (hD : H1 D = none) (p : PS0 g P w κ1 H1 D ms κ H μ) {L L' : List (Addr × List Int)} {x : Addr} {q : I2} (h1 : H D = some (SetTO P w D L)) (h2 : (L.map (·.2)).Perm (ms.map prL)) (h3 : ∀ p ∈ L, FrT g κ H p.1 (p.2.map V.int))
    (hx : FrT g κ H x [.int q.1, .int q.2]) (c1 : prL q ∈ L.map (·.2) → L' = L) (c2 : prL q ∉ L.map (·.2) → L'.Perm ((x, prL q) :: L)) :
    Ext0 κ H κ (upd H D (SetTO P w D L')) ∧ PS0 g P w κ1 H1 D (addP ms q) κ (upd H D (SetTO P w D L')) μ := by
  have mD : D ∈ κ.gh := by rw [p.gh]; exact List.mem_cons_self
  have xw : Ext0 κ H κ (upd H D (SetTO P w D L')) := Ext0.write (.inr mD)
  refine ⟨xw, p.gh, p.ex.trans xw, fun a ha n => ?_, p.so.fill mD (noTbl_set h1), L', upd_same, ?_, fun r hr => ?_⟩
  · rw [upd_ne fun e => ?_]
    · exact p.hv a ha n
    · obtain ⟨⟨u, hu⟩, _⟩ := s1.gst a ha
      rw [e, hD] at hu; cases hu
  · have hm : prL q ∈ L.map (·.2) ↔ q ∈ ms := h2.mem_iff.trans mem_prL
    unfold addP
    by_cases hq : q ∈ ms
    · rw [if_pos hq, c1 (hm.mpr hq)]; exact h2
    · rw [if_neg hq]
      have z := (c2 fun y => hq (hm.mp y)).map (·.2)
      refine z.trans ?_
      rw [List.map_append]
      exact ((h2.cons (prL q)).trans (List.perm_append_singleton _ _).symm)
  · by_cases hq : prL q ∈ L.map (·.2)
    · rw [c1 hq] at hr; exact (h3 r hr).ext0 xw
    · rcases List.mem_cons.mp ((c2 hq).mem_iff.mp hr) with e | e
      · rw [e]; exact hx.ext0 xw
      · exact (h3 r e).ext0 xw
end

section
variable {g : Gc} {W : WX} {X : Cx}
/-- the heart -/
theorem s2_read {fi fi1 : DI} {t t1 : DG} {tt tt1 : DT} {te : DE} {vs vs1 sl sl1 : List Nat} {fin : List I2 → Sto → R DV} {σ : L2.St} {H : Hp} {Q Q2 : VK} {P : Program} {w : World} (hsl : ∀ i ∈ sl, i ∈ vs) (hsl1 : ∀ i ∈ sl1, i ∈ vs1) (hv : ∀ i ∈ vs1, i ∈ vs)
    (hfin : ∀ (κ1 : KA) (H1 : Hp) (μ1 : Sto) (κ : KA) (H : Hp) (μ : Sto) (D : Addr) (ms : List I2), StoOk g κ1 H1 μ1 → H1 D = none → PS0 g P w κ1 H1 D ms κ H μ → wpR g W σ κ1 H1 (fin ms μ) (fun d _ κ' H' => ∀ v, Rel g κ' H' d v → Q v H') → Q2 (.ref D) H)
    (q : tE g W (fun ρ μ => (eGat fi t tt fi1 t1 tt1 te vs vs1 ρ μ).bind fin) σ H Q) : tS2 g.K P w (tI g W fi) (tG g sl t) (tT g W0 tt) (tI g W0 fi1) (tG g sl1 t1) (tT g W0 tt1) (tE g W0 te) vs vs1 σ H Q2 := by
  obtain ⟨κ, ρ, μ, he, hs, hw⟩ := q
  unfold eGat at hw
  dsimp only at hw
  rw [R.bind_assoc] at hw
  refine ⟨κ, ρ, μ, he, hs, hw.bind.mono fun wk μ1 κ1 H1 e1 s1 h1 J wo D hD => ?_⟩
  have he1 := (he.ext e1).wipe vs
  have nt0 : ∀ a ∈ κ1.gh, a ≠ D := fun a ha e => by
    obtain ⟨⟨u, hu⟩, _⟩ := s1.gst a ha
    rw [e, hD] at hu; cases hu
  let Φ : DV → Sto → KA → Hp → Prop := fun d _ κ' H' => ∀ v, Rel g κ' H' d v → Q v H'
  let lo : Nat → Nat → List I2 → Sto → R (List I2) := loopA wk t tt (bdO fi1 t1 tt1 te vs1) (wipeE ρ vs)
  -- the outer word
  refine ⟨fun i m H => ∃ κ μ ms, PS0 g P w κ1 H1 D ms κ H μ ∧ RelE g κ H (wipeE ρ vs) (wipe σ vs) ∧ wpR g W σ κ1 H1 ((lo m i ms μ).bind fin) Φ,
    ⟨wkLen wk μ1 + 1, κ1.hide D, μ1, [], ⟨rfl, Ext0.hide hD, fun a ha _ => upd_ne (nt0 a ha), s1.hide hD, [], upd_same, .nil, fun p hp => by cases hp⟩, ⟨he1.len, fun i d hd => ?_⟩, h1⟩, ?_⟩
  · obtain ⟨v, a1, a2⟩ := he1.at_ i d hd
    exact ⟨v, a1, a2.ext0 (Ext0.hide hD)⟩
  rintro i m H2 ⟨κ2, μ2, ms, p2, he2, h2⟩
  cases m with
  | zero => exact h2.elim
  | succ m =>
    have h2 : wpR g W σ κ1 H1 ((loopA wk t tt (bdO fi1 t1 tt1 te vs1) (wipeE ρ vs) (m + 1) i ms μ2).bind fin) Φ := h2
    unfold loopA at h2
    cases ew : wkAt wk μ2 i with
    | none => rw [ew] at h2; exact h2.elim
    | some o =>
      rw [ew] at h2
      cases o with
      | none => exact .inl ⟨wo.stop i _ H2 μ2 p2.ex p2.so ew, hfin κ1 H1 μ1 κ2 H2 μ2 D ms s1 hD p2 h2⟩
      | some d =>
        refine .inr ⟨wo.go i _ H2 μ2 d p2.ex p2.so ew, fun H => ∃ κ μ ms, PS0 g P w κ1 H1 D ms κ H μ ∧ RelE g κ H (wipeE ρ vs) (wipe σ vs) ∧ wpR g W σ κ1 H1 ((lo m (i + 1) ms μ).bind fin) Φ, fun H' q => ⟨m, Nat.lt_succ_self _, q⟩, fun x H' y => ?_⟩
        obtain ⟨e3, s3, rx⟩ := wo.yld i _ H2 μ2 d x H' p2.ex p2.so ew y
        refine ⟨κ2, d, wipeE ρ vs, μ2, rx, he2.ext e3, s3, ?_⟩
        simp only at h2
        cases et : t d (wipeE ρ vs) μ2 with
        | none => rw [et] at h2; exact h2.elim
        | some ρ3 =>
          rw [et] at h2
          intro σ3 he3 hl3 hk3
          refine ⟨wipe_eq hl3 hk3 hsl, κ2, ρ3, μ2, he3, s3, ?_⟩
          simp only [R.bind_assoc] at h2
          obtain ⟨b, μ3, eb, h3⟩ := nox_ok h2
          rw [eb]
          intro κ3 H3 e4 s4
          have p4 := p2.ext (e3.trans e4) s4
          have he4 := he2.ext (e3.trans e4)
          cases b with
          | false => exact iteF ⟨κ3, μ3, ms, p4, he4, h3⟩
          | true =>
            refine iteT ?_
            have h3 : wpR g W σ κ1 H1 (((bdO fi1 t1 tt1 te vs1 ρ3 ms μ3).bind fun ms μ2 => loopA wk t tt (bdO fi1 t1 tt1 te vs1) (wipeE ρ vs) m (i + 1) ms μ2).bind fin) Φ := h3
            unfold bdO at h3
            rw [R.bind_assoc, R.bind_assoc] at h3
            obtain ⟨w1, μ4, ei, h4⟩ := nox_ok h3
            refine ⟨κ3, ρ3, μ3, he3.ext e4, s4, ?_⟩
            rw [ei]
            intro κ4 H4 e5 s5 J1 wo1
            have p5 := p4.ext e5 s5
            have he5 := he4.ext e5
            have hi5 := ((he3.ext e4).ext e5).wipe vs1
            have h4 : wpR g W σ κ1 H1 ((loopA w1 t1 tt1 (bdI te) (wipeE ρ3 vs1) (wkLen w1 μ4 + 1) 0 ms μ4).bind fun ms μ => (lo m (i + 1) ms μ).bind fin) Φ := h4
            -- the inner word
            refine ⟨fun j k H => ∃ κ μ ms, PS0 g P w κ1 H1 D ms κ H μ ∧ Ext0 κ4 H4 κ H ∧ RelE g κ H (wipeE ρ vs) (wipe σ vs) ∧ RelE g κ H (wipeE ρ3 vs1) (wipe σ3 vs1) ∧ wpR g W σ κ1 H1 ((loopA w1 t1 tt1 (bdI te) (wipeE ρ3 vs1) k j ms μ).bind fun ms μ => (lo m (i + 1) ms μ).bind fin) Φ,
              ⟨_, κ4, μ4, ms, p5, Ext.refl.toExt0, he5, hi5, h4⟩, ?_⟩
            rintro j k H6 ⟨κ6, μ6, ms6, p6, x6, he6, hi6, h6⟩
            cases k with
            | zero => exact h6.elim
            | succ k =>
              unfold loopA at h6
              cases ew1 : wkAt w1 μ6 j with
              | none => rw [ew1] at h6; exact h6.elim
              | some o1 =>
                rw [ew1] at h6
                cases o1 with
                | none => exact .inl ⟨wo1.stop j _ H6 μ6 x6 p6.so ew1, κ6, μ6, ms6, p6, he6, h6⟩
                | some d1 =>
                  refine .inr ⟨wo1.go j _ H6 μ6 d1 x6 p6.so ew1, fun H => ∃ κ μ ms, PS0 g P w κ1 H1 D ms κ H μ ∧ Ext0 κ4 H4 κ H ∧ RelE g κ H (wipeE ρ vs) (wipe σ vs) ∧ RelE g κ H (wipeE ρ3 vs1) (wipe σ3 vs1) ∧ wpR g W σ κ1 H1 ((loopA w1 t1 tt1 (bdI te) (wipeE ρ3 vs1) k (j + 1) ms μ).bind fun ms μ => (lo m (i + 1) ms μ).bind fin) Φ, fun H' q => ⟨k, Nat.lt_succ_self _, q⟩, fun x1 H7 y1 => ?_⟩
                  obtain ⟨e7, s7, rx1⟩ := wo1.yld j _ H6 μ6 d1 x1 H7 x6 p6.so ew1 y1
                  refine ⟨κ6, d1, wipeE ρ3 vs1, μ6, rx1, hi6.ext e7, s7, ?_⟩
                  simp only at h6
                  cases et1 : t1 d1 (wipeE ρ3 vs1) μ6 with
                  | none => rw [et1] at h6; exact h6.elim
                  | some ρ7 =>
                    rw [et1] at h6
                    intro σ7 he7 hl7 hk7
                    refine ⟨wipe_eq hl7 hk7 hsl1, κ6, ρ7, μ6, he7, s7, ?_⟩
                    simp only [R.bind_assoc] at h6
                    obtain ⟨b1, μ8, eb1, h8⟩ := nox_ok h6
                    rw [eb1]
                    intro κ8 H8 e8 s8
                    have E8 := e7.trans e8
                    cases b1 with
                    | false => exact iteF ⟨κ8, μ8, ms6, p6.ext E8 s8, x6.trans E8.toExt0, he6.ext E8, hi6.ext E8, h8⟩
                    | true =>
                      refine iteT ⟨κ8, ρ7, μ8, he7.ext e8, s8, ?_⟩
                      have h8 : wpR g W σ κ1 H1 (((bdI te ρ7 ms6 μ8).bind fun ms μ2 => loopA w1 t1 tt1 (bdI te) (wipeE ρ3 vs1) k (j + 1) ms μ2).bind fun ms μ => (lo m (i + 1) ms μ).bind fin) Φ := h8
                      unfold bdI at h8
                      rw [R.bind_assoc, R.bind_assoc] at h8
                      obtain ⟨yv, μ9, ey, h9⟩ := nox_ok h8
                      rw [ey]
                      intro κ9 H9 e9 s9 v rv
                      have E9 := E8.trans e9
                      have p9 := p6.ext E9 s9
                      cases ep : asP yv with
                      | none => rw [ep] at h9; exact h9.elim
                      | some pq =>
                        rw [ep] at h9
                        by_cases few : ms6.length + 1 < 64
                        case neg => simp only [if_neg few] at h9; exact h9.elim
                        simp only [if_pos few] at h9
                        rw [asP_eq ep] at rv
                        simp only [Rel, prD] at rv
                        obtain ⟨a, ws, rfl, hf, rw⟩ := rv
                        obtain ⟨v1, r1, rfl, q1, rw⟩ := rw.of_cons
                        obtain ⟨v2, r2, rfl, q2, rw⟩ := rw.of_cons
                        cases rw.of_nil
                        simp only [Rel] at q1 q2
                        subst q1 q2
                        obtain ⟨L, l1, l2, l3⟩ := p9.st
                        have few' : L.length + 1 < 64 := by
                          have := l2.length_eq
                          rw [List.length_map, List.length_map] at this
                          omega
                        refine ⟨L, a, prL pq, rfl, hf.sq, l1, fun p hp => (l3 p hp).sq, few', fun L' c1 c2 => ?_⟩
                        obtain ⟨xw, pw⟩ := p9.add s1 hD l1 l2 l3 hf c1 c2
                        have wE : ∀ {ρ' : En} {σ' : L2.St}, RelE g κ9 H9 ρ' σ' → RelE g κ9 (upd H9 D (SetTO P w D L')) ρ' σ' := fun z => ⟨z.len, fun i d hd => by
                          obtain ⟨v', a1, a2⟩ := z.at_ i d hd
                          exact ⟨v', a1, a2.ext0 xw⟩⟩
                        exact ⟨κ9, μ9, addP ms6 pq, pw, (x6.trans E9.toExt0).trans xw, wE (he6.ext E9), wE (hi6.ext E9), h9⟩
end
end SD

set_option Elab.async false
set_option linter.all false
set_option maxRecDepth 100000
set_option maxHeartbeats 4000000
/-! SD: the rules for these; sorted of a list of pairs; a star in a list. -/
namespace SD
open PySem PySem.Spec PyProof.Rows L2
section
variable {X : Cx}
theorem pe_s2 {elt t0 i0 t1 i1 : Expr} {f0 f1 : List Expr} {sc : Scope} {own : List (PySem.Str × Nat)} {vs1 : List Nat} {pos : Pos} {wi wi1 : TI} {g g1 : TG} {tt tt1 : TT} {te : TE}
    (hc : X.calm = true) (hu : X.A.units + 64 < cLine) (hN : X.N.Nodup) (hi : PI X t0 i0 wi) (ok : BlkOk X.N X.env.scope sc own) (hv : ∀ i ∈ vs1, i ∈ own.map (·.2))
    (hg : ∀ (s : Shared) (H : Hp) (C : Addr) (cl : List (PySem.Str × Addr)) (fp : List Addr), PG (X.blk s H sc (compEnvC sc cl C X.env) fp) t0 g) (ht : ∀ (s : Shared) (H : Hp) (C : Addr) (cl : List (PySem.Str × Addr)) (fp : List Addr), PTs (X.blk s H sc (compEnvC sc cl C X.env) fp) f0 tt)
    (he : ∀ (s : Shared) (H : Hp) (C : Addr) (cl : List (PySem.Str × Addr)) (fp : List Addr), PE (X.blk s H sc (compEnvC sc cl C X.env) fp) elt te)
    (hi1 : ∀ (s : Shared) (H : Hp) (C : Addr) (cl : List (PySem.Str × Addr)) (fp : List Addr), PI (X.blk s H sc (compEnvC sc cl C X.env) fp) t1 i1 wi1)
    (hg1 : ∀ (s : Shared) (H : Hp) (C : Addr) (cl : List (PySem.Str × Addr)) (fp : List Addr), PG (X.blk s H sc (compEnvC sc cl C X.env) fp) t1 g1)
    (ht1 : ∀ (s : Shared) (H : Hp) (C : Addr) (cl : List (PySem.Str × Addr)) (fp : List Addr), PTs (X.blk s H sc (compEnvC sc cl C X.env) fp) f1 tt1)
    (hs : ∀ x, foldedSetIterable i0 X.env x = pure x := by intro _; rfl) (hs1 : ∀ env x, foldedSetIterable i1 env x = pure x := by intro _ _; rfl) :
    PE X (Sc2 elt t0 i0 t1 i1 f0 f1 sc pos) (tS2 X.K X.prog X.w wi g tt wi1 g1 tt1 te (own.map (·.2)) vs1) := by
  refine ⟨fun pins s σ H Q I h => ?_⟩
  rw [PpSet.eval_SetComp]
  refine s2_core hc hu hN I hi ok hv hg ht he hs hi1 hg1 ht1 hs1 h fun D C s' m H' I' q hn f => ⟨m, hn, fun h'' sb => ?_⟩
  obtain ⟨f0, f1, f2, f3, f4, f5⟩ := f
  exact ⟨.ref D, H', I'.turned (t' := s'.toks) (fun b o hb e => (sb.2 b hb).trans e) f0 f1 f3 f4 f5, rfl, q⟩
end
theorem KA.of_gh {κ κ1 : KA} {D : Addr} (h : κ.gh = D :: κ1.gh) : κ = (KA.mk κ.cs κ1.gh).hide D := by
  obtain ⟨cs, gh⟩ := κ
  show KA.mk cs gh = KA.mk cs (D :: κ1.gh)
  rw [show gh = D :: κ1.gh from h]
theorem relPs {g : Gc} {κ : KA} {H : Hp} : ∀ {ms : List I2} {L : List (Addr × List Int)}, L.map (·.2) = ms.map prL → (∀ p ∈ L, FrT g κ H p.1 (p.2.map V.int)) → RelL g κ H (ms.map prD) (L.map fun q => V.ref q.1)
  | [], [], _, _ => RelL.nil
  | m :: ms, (a, k) :: L, e, h => by
    have e1 : k :: L.map (·.2) = prL m :: ms.map prL := e
    obtain ⟨e2, e3⟩ := List.cons.inj e1
    subst e2
    have q := h (a, prL m) List.mem_cons_self
    refine RelL.cons ?_ (relPs e3 fun p hp => h p (List.mem_cons_of_mem _ hp))
    simp only [Rel, prD]
    exact ⟨a, _, rfl, q, RelL.ints [m.1, m.2]⟩
section
variable {g : Gc} {W : WX} {X : Cx} {elt t0 i0 t1 i1 : Expr} {f0 f1 : List Expr} {sc : Scope} {own : List (PySem.Str × Nat)} {vs1 sl sl1 : List Nat} {pos p2 cp : Pos} {fi fi1 : DI} {t t' : DG} {tt tt1 : DT} {te : DE} {N : List Str} {sc0 : Scope} {x : Str}
theorem ge_SS (xg : XG g X) (hc : X.calm = true) (hu : X.A.units + 64 < cLine) (hN : X.N.Nodup) (hG : Gl X "sorted") (hm : X.mg "sorted" = none) (hi : GI g W X t0 i0 fi) (eN : X.N = N) (eS : X.env.scope = sc0) (ok : blkC N sc0 sc own = true)
    (hg : ∀ (s : Shared) (H : Hp) (C : Addr) (cl : List (PySem.Str × Addr)) (fp : List Addr), GG g (X.blk s H sc (compEnvC sc cl C X.env) fp) t0 sl t) (ht : ∀ (s : Shared) (H : Hp) (C : Addr) (cl : List (PySem.Str × Addr)) (fp : List Addr), GTs g W0 (X.blk s H sc (compEnvC sc cl C X.env) fp) f0 tt)
    (hi1 : ∀ (s : Shared) (H : Hp) (C : Addr) (cl : List (PySem.Str × Addr)) (fp : List Addr), GI g W0 (X.blk s H sc (compEnvC sc cl C X.env) fp) t1 i1 fi1)
    (hg1 : ∀ (s : Shared) (H : Hp) (C : Addr) (cl : List (PySem.Str × Addr)) (fp : List Addr), GG g (X.blk s H sc (compEnvC sc cl C X.env) fp) t1 sl1 t')
    (ht1 : ∀ (s : Shared) (H : Hp) (C : Addr) (cl : List (PySem.Str × Addr)) (fp : List Addr), GTs g W0 (X.blk s H sc (compEnvC sc cl C X.env) fp) f1 tt1)
    (he : ∀ (s : Shared) (H : Hp) (C : Addr) (cl : List (PySem.Str × Addr)) (fp : List Addr), GE g W0 (X.blk s H sc (compEnvC sc cl C X.env) fp) elt te)
    (hsl : sl.all (fun i => decide (i ∈ own.map (·.2))) = true := by rfl) (hsl1 : sl1.all (fun i => decide (i ∈ vs1)) = true := by rfl) (hv : vs1.all (fun i => decide (i ∈ own.map (·.2))) = true := by rfl)
    (hs : ∀ x, foldedSetIterable i0 X.env x = pure x := by intro _; rfl) (hs1 : ∀ env x, foldedSetIterable i1 env x = pure x := by intro _ _; rfl) (hst : starEach [Sc2 elt t0 i0 t1 i1 f0 f1 sc pos] X.env = (false, eval (Sc2 elt t0 i0 t1 i1 f0 f1 sc pos) X.env) :: starEach [] X.env := by rfl) :
    GE g W X (.Call (.Name "sorted" p2) [Sc2 elt t0 i0 t1 i1 f0 f1 sc pos] [] cp) (eSS (eGat fi t tt fi1 t' tt1 te (own.map (·.2)) vs1)) ∧ GE g W X (.Call (.Name "sorted" p2) [Sc2 elt t0 i0 t1 i1 f0 f1 sc pos] [] cp) (eSSC (eGat fi t tt fi1 t' tt1 te (own.map (·.2)) vs1)) := by
  subst eN eS
  have al : ∀ {l m : List Nat}, l.all (fun i => decide (i ∈ m)) = true → ∀ i ∈ l, i ∈ m := fun h i hi => of_decide_eq_true (List.all_eq_true.mp h i hi)
  have base := pe_callB (p := p2) (pos := cp) (cSS (X := X) hc) hG hm rfl (pa_cons (pe_s2 (pos := pos) hc hu hN hi (blkOk_by ok) (al hv) hg ht he hi1 hg1 ht1 hs hs1) pa_nil hst) (by decide) (by decide) hst (by rfl)
  have cut : ∀ {κ1 κ : KA} {H1 H : Hp} {μ : Sto} {D : Addr} {ms : List I2}, PS0 g X.prog X.w κ1 H1 D ms κ H μ → Ext κ1 H1 (KA.mk κ.cs κ1.gh) H ∧ StoOk g (KA.mk κ.cs κ1.gh) H μ ∧ ∃ L, H D = some (SetTO X.prog X.w D L) ∧ (L.map (·.2)).Perm (ms.map prL) ∧ ∀ p ∈ L, FrT g (KA.mk κ.cs κ1.gh) H p.1 (p.2.map V.int) := fun {κ1 κ H1 H μ D ms} p => by
    obtain ⟨L, l1, l2, l3⟩ := p.st
    have e := KA.of_gh p.gh
    have s := p.so
    have x := p.ex
    rw [e] at s x l3
    exact ⟨⟨x.trans Ext0.show', rfl, p.hv⟩, s.show' (noTbl_set l1), L, l1, l2, fun q hq => (l3 q hq).ext0 Ext0.show'⟩
  constructor
  · refine PE.imp base fun σ H Q q => ?_
    show tS2 X.K X.prog X.w _ _ _ _ _ _ _ _ _ σ H fun x H1 => rSS X.K X.prog X.w [x] H1 Q
    rw [xg.K]
    refine s2_read (fin := fun ms μ1 => .ok (.lst ((sortP ms).map prD)) μ1) (al hsl) (al hsl1) (al hv) (fun κ1 H1 μ1 κ H μ D ms s1 hD p h => ?_) q
    obtain ⟨ex, s0, L, l1, l2, l3⟩ := cut p
    refine ⟨D, L, ms, rfl, l1, fun q hq => (l3 q hq).sq, l2, fun L' a pm e2 ha => ?_⟩
    exact h _ _ (ex.trans (Ext.new s0 ha)) (s0.new ha) _ (rel_lst s0 ha (relPs e2 fun q hq => l3 q (pm.mem_iff.mp hq)))
  · refine PE.imp base fun σ H Q q => ?_
    show tS2 X.K X.prog X.w _ _ _ _ _ _ _ _ _ σ H fun x H1 => rSS X.K X.prog X.w [x] H1 Q
    rw [xg.K]
    refine s2_read (fin := fun ms μ1 => .ok (.cell μ1.length) (μ1 ++ [CO.lst ((sortP ms).map prD)])) (al hsl) (al hsl1) (al hv) (fun κ1 H1 μ1 κ H μ D ms s1 hD p h => ?_) q
    obtain ⟨ex, s0, L, l1, l2, l3⟩ := cut p
    refine ⟨D, L, ms, rfl, l1, fun q hq => (l3 q hq).sq, l2, fun L' a pm e2 ha => ?_⟩
    obtain ⟨s2, r2⟩ := cell_new s0 ha (relPs e2 fun q hq => l3 q (pm.mem_iff.mp hq))
    exact h _ _ (ex.trans (Ext.newCell s0 ha)) s2 _ r2
theorem ge_SSf (xg : XG g X) (hc : X.calm = true) (hu : X.A.units + 64 < cLine) (hN : X.N.Nodup) (hG : Gl X "sorted") (hm : X.mg "sorted" = none) (hi : GI g W X t0 i0 fi) (eN : X.N = N) (eS : X.env.scope = sc0) (ok : blkC N sc0 sc own = true)
    (hg : ∀ (s : Shared) (H : Hp) (C : Addr) (cl : List (PySem.Str × Addr)) (fp : List Addr), GG g (X.blk s H sc (compEnvC sc cl C X.env) fp) t0 sl t) (ht : ∀ (s : Shared) (H : Hp) (C : Addr) (cl : List (PySem.Str × Addr)) (fp : List Addr), GTs g W0 (X.blk s H sc (compEnvC sc cl C X.env) fp) f0 tt)
    (hi1 : ∀ (s : Shared) (H : Hp) (C : Addr) (cl : List (PySem.Str × Addr)) (fp : List Addr), GI g W0 (X.blk s H sc (compEnvC sc cl C X.env) fp) t1 i1 fi1)
    (hg1 : ∀ (s : Shared) (H : Hp) (C : Addr) (cl : List (PySem.Str × Addr)) (fp : List Addr), GG g (X.blk s H sc (compEnvC sc cl C X.env) fp) t1 sl1 t')
    (ht1 : ∀ (s : Shared) (H : Hp) (C : Addr) (cl : List (PySem.Str × Addr)) (fp : List Addr), GTs g W0 (X.blk s H sc (compEnvC sc cl C X.env) fp) f1 tt1)
    (he : ∀ (s : Shared) (H : Hp) (C : Addr) (cl : List (PySem.Str × Addr)) (fp : List Addr), GE g W0 (X.blk s H sc (compEnvC sc cl C X.env) fp) elt te)
    (hsl : sl.all (fun i => decide (i ∈ own.map (·.2))) = true := by rfl) (hsl1 : sl1.all (fun i => decide (i ∈ vs1)) = true := by rfl) (hv : vs1.all (fun i => decide (i ∈ own.map (·.2))) = true := by rfl)
    (hs : ∀ x, foldedSetIterable i0 X.env x = pure x := by intro _; rfl) (hs1 : ∀ env x, foldedSetIterable i1 env x = pure x := by intro _ _; rfl) (hst : starEach [Sc2 elt t0 i0 t1 i1 f0 f1 sc pos] X.env = (false, eval (Sc2 elt t0 i0 t1 i1 f0 f1 sc pos) X.env) :: starEach [] X.env := by rfl) :
    GE g W X (.Call (.Name "sorted" p2) [Sc2 elt t0 i0 t1 i1 f0 f1 sc pos] [] cp) (eSS (eGat fi t tt fi1 t' tt1 te (own.map (·.2)) vs1)) := (ge_SS xg hc hu hN hG hm hi eN eS ok hg ht hi1 hg1 ht1 he hsl hsl1 hv hs hs1 hst).1
theorem ge_SSc (xg : XG g X) (hc : X.calm = true) (hu : X.A.units + 64 < cLine) (hN : X.N.Nodup) (hG : Gl X "sorted") (hm : X.mg "sorted" = none) (hi : GI g W X t0 i0 fi) (eN : X.N = N) (eS : X.env.scope = sc0) (ok : blkC N sc0 sc own = true)
    (hg : ∀ (s : Shared) (H : Hp) (C : Addr) (cl : List (PySem.Str × Addr)) (fp : List Addr), GG g (X.blk s H sc (compEnvC sc cl C X.env) fp) t0 sl t) (ht : ∀ (s : Shared) (H : Hp) (C : Addr) (cl : List (PySem.Str × Addr)) (fp : List Addr), GTs g W0 (X.blk s H sc (compEnvC sc cl C X.env) fp) f0 tt)
    (hi1 : ∀ (s : Shared) (H : Hp) (C : Addr) (cl : List (PySem.Str × Addr)) (fp : List Addr), GI g W0 (X.blk s H sc (compEnvC sc cl C X.env) fp) t1 i1 fi1)
    (hg1 : ∀ (s : Shared) (H : Hp) (C : Addr) (cl : List (PySem.Str × Addr)) (fp : List Addr), GG g (X.blk s H sc (compEnvC sc cl C X.env) fp) t1 sl1 t')
    (ht1 : ∀ (s : Shared) (H : Hp) (C : Addr) (cl : List (PySem.Str × Addr)) (fp : List Addr), GTs g W0 (X.blk s H sc (compEnvC sc cl C X.env) fp) f1 tt1)
    (he : ∀ (s : Shared) (H : Hp) (C : Addr) (cl : List (PySem.Str × Addr)) (fp : List Addr), GE g W0 (X.blk s H sc (compEnvC sc cl C X.env) fp) elt te)
    (hsl : sl.all (fun i => decide (i ∈ own.map (·.2))) = true := by rfl) (hsl1 : sl1.all (fun i => decide (i ∈ vs1)) = true := by rfl) (hv : vs1.all (fun i => decide (i ∈ own.map (·.2))) = true := by rfl)
    (hs : ∀ x, foldedSetIterable i0 X.env x = pure x := by intro _; rfl) (hs1 : ∀ env x, foldedSetIterable i1 env x = pure x := by intro _ _; rfl) (hst : starEach [Sc2 elt t0 i0 t1 i1 f0 f1 sc pos] X.env = (false, eval (Sc2 elt t0 i0 t1 i1 f0 f1 sc pos) X.env) :: starEach [] X.env := by rfl) :
    GE g W X (.Call (.Name "sorted" p2) [Sc2 elt t0 i0 t1 i1 f0 f1 sc pos] [] cp) (eSSC (eGat fi t tt fi1 t' tt1 te (own.map (·.2)) vs1)) := (ge_SS xg hc hu hN hG hm hi eN eS ok hg ht hi1 hg1 ht1 he hsl hsl1 hv hs hs1 hst).2
end

/-! ### sorted of numbers or of pairs -/
def asPs : List DV → Option (List I2)
  | [] => some []
  | d :: r => match asP d, asPs r with
    | some q, some qs => some (q :: qs)
    | _, _ => none
theorem asPs_eq : ∀ {xs : List DV} {ms : List I2}, asPs xs = some ms → xs = ms.map prD
  | [], ms, h => by cases h; rfl
  | d :: r, ms, h => by
    unfold asPs at h
    cases e1 : asP d with
    | none => rw [e1] at h; cases h
    | some q =>
      cases e2 : asPs r with
      | none => rw [e1, e2] at h; cases h
      | some qs =>
        rw [e1, e2] at h
        cases h
        rw [List.map_cons, ← asP_eq e1, ← asPs_eq e2]
def vSortedP : VN := fun ds μ => match ds with
  | [d] => match seqOf μ d with
    | some xs => match asIs xs with
      | some ns => some (.lst ((sortI ns).map .int))
      | none => (asPs xs).map fun ms => .lst ((sortP ms).map prD)
    | none => none
  | _ => none
section
variable {g : Gc} {X : Cx}
theorem pairs_back {κ : KA} {H : Hp} {h : Heap} (hT : ∀ t q, FrT g κ H t [.int q.1, .int q.2] → TS.TupInts h (.ref t) (prL q)) : ∀ {ms : List I2} {vs : List V} {us : List Value}, RelL g κ H (ms.map prD) vs → Vals vs us →
    us.map (fun u => unL (TS.intsOf h u)) = ms ∧ vs = us.map backV ∧ ∀ u ∈ us, ∃ t, u = .ref t ∧ FrT g κ H t [.int (unL (TS.intsOf h u)).1, .int (unL (TS.intsOf h u)).2]
  | [], _, us, r, rv => by
    cases r.of_nil
    cases rv
    exact ⟨rfl, rfl, fun u hu => by cases hu⟩
  | m :: ms, _, us, r, rv => by
    obtain ⟨v, vs, rfl, q, rt⟩ := r.of_cons
    simp only [Rel, prD] at q
    obtain ⟨a, ws, rfl, hf, rw⟩ := q
    obtain ⟨v1, r1, rfl, q1, rw1⟩ := rw.of_cons
    obtain ⟨v2, r2, rfl, q2, rw2⟩ := rw1.of_cons
    cases rw2.of_nil
    simp only [Rel] at q1 q2
    subst q1 q2
    cases rv with
    | @cons _ u _ us ru rvt =>
      cases (show u = Value.ref a from ru)
      obtain ⟨i1, i2, i3⟩ := pairs_back hT rt rvt
      have e : TS.intsOf h (.ref a) = prL m := (hT a m hf).ints
      have e' : unL (TS.intsOf h (.ref a)) = m := by rw [e]; rfl
      refine ⟨by rw [List.map_cons, i1, e'], by rw [List.map_cons, ← i2]; rfl, fun u hu => ?_⟩
      rcases List.mem_cons.mp hu with e2 | hu
      · subst e2
        exact ⟨a, rfl, by rw [e']; exact hf⟩
      · exact i3 u hu
theorem cSortedP (xg : XG g X) : CallR X (.builtin "sorted") (rN g vSortedP) := by
  intro pins s σ H xs us Q I rx h
  obtain ⟨κ, ds, μ, rd, so, ho⟩ := h
  unfold vSortedP at ho
  split at ho
  case h_2 => exact ho.elim
  rename_i d
  cases ey : seqOf μ d with
  | none => simp only [ey] at ho; exact ho.elim
  | some ys =>
    simp only [ey] at ho
    cases eb : asIs ys with
    | some bs =>
      simp only [eb] at ho
      exact cSorted xg pins s σ H _ us Q I rx ⟨κ, [d], μ, rd, so, by simpa [vSorted, ey, eb] using ho⟩
    | none =>
      simp only [eb] at ho
      cases em : asPs ys with
      | none => rw [em] at ho; exact ho.elim
      | some ms =>
        rw [em] at ho
        obtain ⟨v, rfl, r1⟩ := relL1 rd
        obtain ⟨a, vs, rfl, h1, h2⟩ := seqOf_rel so r1 ey
        rw [asPs_eq em] at h2
        rw [Vals.ref1 rx]
        obtain ⟨its, rv, hl, hz⟩ := I.list (show SqL X.K H a vs by rw [xg.K]; exact h1)
        have hT : ∀ t q, FrT g κ H t [.int q.1, .int q.2] → TS.TupInts s.heap (.ref t) (prL q) := fun t q hf =>
          tupInts_of (P := X.prog) (w := X.w) (I.isT (k := prL q) (show SqT X.K H t _ by rw [xg.K]; exact hf.sq))
        obtain ⟨b1, b2, b3⟩ := pairs_back hT h2 rv
        refine SrtO.sorted_pairsO (k := fun u => unL (TS.intsOf s.heap u)) hl.isList (by rw [← rv.length]; exact hz) (fun u hu => ?_) fun h' p out k1 k2 kp hp hn => ?_
        · obtain ⟨t, rfl, hf⟩ := b3 u hu
          exact isPair_of (hT t _ hf)
        · obtain ⟨n, hn⟩ := hn
          have hb : ∀ u ∈ out, ∃ t, u = .ref t ∧ FrT g κ H t [.int (unL (TS.intsOf s.heap u)).1, .int (unL (TS.intsOf s.heap u)).2] := fun u hu => b3 u (k2.perm.mem_iff.mp hu)
          have em2 : out.map (fun u => unL (TS.intsOf s.heap u)) = sortP ms := by
            have pk := k2.perm.map (fun u => unL (TS.intsOf s.heap u))
            rw [b1] at pk
            refine sortedP_eq (pk.trans (sortP_perm ms).symm) ?_ (sortP_sorted ms)
            refine List.pairwise_map.mpr (List.Pairwise.imp (fun {x y} z => ?_) k1)
            unfold leP
            have z : SrtO.lexB (unL (TS.intsOf s.heap y)) (unL (TS.intsOf s.heap x)) = false := z
            rw [z]; rfl
          have rr : RelL g κ H (out.map fun u => prD (unL (TS.intsOf s.heap u))) (out.map backV) := by
            clear em2 k1 k2 hn
            induction out with
            | nil => exact RelL.nil
            | cons u out ih =>
              refine RelL.cons ?_ (ih fun u hu => hb u (List.mem_cons_of_mem _ hu))
              obtain ⟨t, rfl, hf⟩ := hb u List.mem_cons_self
              simp only [Rel, prD]
              exact ⟨t, _, rfl, hf, RelL.ints [_, _]⟩
          have ee : (sortP ms).map prD = out.map fun u => prD (unL (TS.intsOf s.heap u)) := by rw [← em2, List.map_map]; rfl
          have hpn : H p = none := I.hok.fresh hp
          refine ⟨.ref p, upd H p (.lst (out.map backV)), I.laid (t' := s.toks) kp hp ⟨?_, out, n, vals_back fun u hu => (hb u hu).elim fun t e => ⟨t, e.1⟩, by simpa using hn⟩, rfl, ?_⟩
          · rw [List.length_map, k2.perm.length_eq, ← rv.length]
            exact hz
          · have ho : rOut g κ H μ (some (.lst (out.map fun u => prD (unL (TS.intsOf s.heap u))))) Q := by rw [← ee]; exact ho
            exact rOut.newL so ho rr hpn

/-! ### [a, *b] -/
def aStar (a : DE) (r : DA) : DA := fun ρ μ => (a ρ μ).bind fun x μ1 => match seqOf μ1 x with
  | some xs => (r ρ μ1).bind fun ys μ2 => .ok (xs ++ ys) μ2
  | none => .stuck
theorem ga_star {W : WX} {e : Expr} {es : List Expr} {p : Pos} {fa : DE} {fr : DA} (xg : XG g X) (ha : GE g W X e fa) (hr : GA g W X es fr) (hs : starEach (.Starred e p :: es) X.env = (true, eval e X.env) :: starEach es X.env := by rfl) : GA g W X (.Starred e p :: es) (aStar fa fr) := by
  refine PA.imp (StX.pa_star ha hr hs) fun σ H Q q => ?_
  obtain ⟨κ, ρ, μ, he, hs, hw⟩ := q
  refine ⟨κ, ρ, μ, he, hs, hw.bind.mono fun x μ1 κ1 H1 e1 s1 h1 v rv => ?_⟩
  cases ex : seqOf μ1 x with
  | none => rw [ex] at h1; exact h1.elim
  | some xs =>
    rw [ex] at h1
    obtain ⟨a, vs, rfl, k1, k2⟩ := seqOf_rel s1 rv ex
    refine ⟨a, vs, rfl, .inr (by rw [xg.K]; exact k1), κ1, ρ, μ1, he.ext e1, s1, ?_⟩
    have h1 : wpR g W σ κ1 H1 ((fr ρ μ1).bind fun ys μ2 => .ok (xs ++ ys) μ2) (fun ds _ κ' H' => ∀ vs, RelL g κ' H' ds vs → Q vs H') := h1
    exact h1.bind.mono fun ys μ2 κ2 H2 e2 s2 h2 ws rw => h2 κ2 H2 Ext.refl s2 (vs ++ ws) (RelL.append (k2.ext e2) rw)
end
end SD

set_option Elab.async false
set_option linter.all false
set_option maxRecDepth 100000
set_option maxHeartbeats 4000000
/-! SD: a loop that forgets after each turn what the turn has laid into the store. -/
namespace SD
open PySem PySem.Spec PyProof.Rows L2
def trimE (n : Nat) (ρ : En) : En := ρ.map fun o => match o with
  | some d => if d.low n = true then some d else none
  | none => none
def trimOk (n : Nat) (μ : Sto) : Bool := decide (n ≤ μ.length) && (μ.take n).all (CO.low n)
def loopT (w : Wk) (t : DG) (f : DS) (n0 : Nat) : Nat → Nat → DS
  | 0, _ => fun _ _ => .stuck
  | n + 1, k => fun ρ μ => match wkAt w μ k with
    | none => .stuck
    | some none => .nx ρ μ
    | some (some d) => match t d ρ μ with
      | none => .stuck
      | some ρ1 => match f ρ1 μ with
        | .nx ρ' μ' => if trimOk n0 μ' = true then loopT w t f n0 n (k + 1) (trimE n0 ρ') (μ'.take n0) else .stuck
        | .ct ρ' μ' => if trimOk n0 μ' = true then loopT w t f n0 n (k + 1) (trimE n0 ρ') (μ'.take n0) else .stuck
        | .bk ρ' μ' => .nx ρ' μ'
        | r => r
def sForT (it : DI) (t : DG) (f : DS) : DS := fun ρ μ => (it ρ μ).toS ρ fun w μ1 => loopT w t f μ1.length (wkLen w μ1 + 1) 0 ρ μ1
section
variable {g : Gc} {W : WX} {X : Cx} {sts : List Stmt} {pos : Pos} {f : DS}
theorem RelE.trim {κ : KA} {H : Hp} {ρ : En} {σ : L2.St} {n : Nat} (h : RelE g κ H ρ σ) (hn : n ≤ κ.cs.length) : RelE g (κ.cut n) H (trimE n ρ) σ := ⟨by unfold trimE; rw [List.length_map]; exact h.len, fun i d hd => by
  unfold trimE at hd
  rw [List.getElem?_map] at hd
  obtain ⟨o, e1, e2⟩ := Option.map_eq_some_iff.mp hd
  cases o with
  | none => cases e2
  | some d' =>
    by_cases hl : d'.low n = true
    · simp only [if_pos hl] at e2
      cases e2
      obtain ⟨v, a1, a2⟩ := h.at_ i d e1
      exact ⟨v, a1, Rel.cut hn a2 hl⟩
    · simp only [if_neg hl] at e2
      cases e2⟩
theorem gs_forT {tg iter : Expr} {fi : DI} {t : DG} {sl : List Nat} (hp : PassesOwn (model X.prog X.w) X.A X.env X.xe) (hc : X.calm = true) (hi : GI g W X tg iter fi) (hg : GG g X tg sl t) (hb : GSs g W X sts f)
    (hs : ∀ x, foldedSetIterable iter X.env x = pure x := by intro _; rfl) : GS g W X (.For tg iter sts [] pos) (sForT fi t f) := PS.imp (ps_for hp hc hi hg hb hs) fun D σ H q => by
  obtain ⟨κ, ρ, μ, he, hs, hw⟩ := q
  refine ⟨κ, ρ, μ, he, hs, (wpS.bind he hw).mono fun w μ1 κ1 H1 e1 s1 h1 J wk => ?_⟩
  have hn0 : μ1.length = κ1.cs.length := s1.len.symm
  refine ⟨fun i m σ H => ∃ κ ρ μ, Ext κ1 H1 κ H ∧ RelE g κ H ρ σ ∧ StoOk g κ H μ ∧ κ.cs.length = μ1.length ∧ wpS g W D κ H (loopT w t f μ1.length m i ρ μ), ⟨_, κ1, ρ, μ1, Ext.refl, he.ext e1, s1, s1.len, h1⟩, ?_⟩
  intro i m σ2 H2 q
  obtain ⟨κ2, ρ2, μ2, e2, he2, s2, l2, h2⟩ := q
  cases m with
  | zero => exact h2.elim
  | succ m =>
    unfold loopT at h2
    cases ew : wkAt w μ2 i with
    | none => rw [ew] at h2; exact h2.elim
    | some o =>
      rw [ew] at h2
      cases o with
      | none => exact .inl ⟨wk.stop i κ2 H2 μ2 e2.toExt0 s2 ew, h2 κ2 H2 σ2 Ext.refl s2 he2⟩
      | some d =>
        refine .inr ⟨wk.go i κ2 H2 μ2 d e2.toExt0 s2 ew, fun σ' H' => ∃ κ ρ μ, Ext κ1 H1 κ H' ∧ RelE g κ H' ρ σ' ∧ StoOk g κ H' μ ∧ κ.cs.length = μ1.length ∧ wpS g W D κ H' (loopT w t f μ1.length m (i + 1) ρ μ), fun σ' H' q => ⟨m, Nat.lt_succ_self _, q⟩, fun x H' y => ?_⟩
        obtain ⟨e3, s3, rx⟩ := wk.yld i κ2 H2 μ2 d x H' e2.toExt0 s2 ew y
        refine ⟨κ2, d, ρ2, μ2, rx, he2.ext e3, s3, ?_⟩
        simp only at h2
        cases et : t d ρ2 μ2 with
        | none => rw [et] at h2; exact h2.elim
        | some ρ3 =>
          rw [et] at h2
          intro σ3 he3 _ _
          refine ⟨κ2, ρ3, μ2, he3, s3, ?_⟩
          simp only at h2
          have fwd : ∀ {ρ' : En} {μ' : Sto}, wpS g W D κ2 H2 (if trimOk μ1.length μ' = true then loopT w t f μ1.length m (i + 1) (trimE μ1.length ρ') (μ'.take μ1.length) else .stuck) → ∀ κ4 H4 σ4, Ext κ2 H' κ4 H4 → StoOk g κ4 H4 μ' → RelE g κ4 H4 ρ' σ4 →
              ∃ κ ρ μ, Ext κ1 H1 κ H4 ∧ RelE g κ H4 ρ σ4 ∧ StoOk g κ H4 μ ∧ κ.cs.length = μ1.length ∧ wpS g W D κ H4 (loopT w t f μ1.length m (i + 1) ρ μ) := fun {ρ' μ'} h κ4 H4 σ4 e4 s4 q4 => by
            by_cases ok : trimOk μ1.length μ' = true
            case neg => rw [if_neg ok] at h; exact h.elim
            rw [if_pos ok] at h
            unfold trimOk at ok
            rw [Bool.and_eq_true, decide_eq_true_eq, List.all_eq_true] at ok
            have el := s4.len
            have E := e2.trans (e3.trans e4)
            have E2 : Ext κ2 H2 (κ4.cut μ1.length) H4 := by rw [← l2]; exact (e3.trans e4).cut
            refine ⟨κ4.cut μ1.length, trimE μ1.length ρ', μ'.take μ1.length, ?_, q4.trim (by omega), s4.cut (by omega) ok.2, ?_, ?_⟩
            · rw [hn0]; exact E.cut
            · show (κ4.cs.take μ1.length).length = μ1.length
              rw [List.length_take]; omega
            · exact wpS.ext E2 h
          cases ef : f ρ3 μ2 with
          | nx ρ' μ' => rw [ef] at h2; exact fwd h2
          | ct ρ' μ' => rw [ef] at h2; exact fwd h2
          | bk ρ' μ' => rw [ef] at h2; exact wpS.ext e3 h2
          | rt d μ' => rw [ef] at h2; exact wpS.ext e3 h2
          | ex c ns xs ρ' μ' => rw [ef] at h2; exact wpS.ext e3 h2
          | stuck => rw [ef] at h2; exact h2
end
/-! plain side -/
section
variable {ρ : En} {μ : Sto} {t : DG} {f : DS}
def R.forT (r : R Wk) (t : DG) (f : DS) (ρ : En) : SR := r.toS ρ fun w μ1 => loopT w t f μ1.length (wkLen w μ1 + 1) 0 ρ μ1
@[simp] theorem sForT_ap {it : DI} : sForT it t f ρ μ = R.forT (it ρ μ) t f ρ := rfl
theorem forT_fix {ds : List DV} : R.forT (.ok (.fix ds) μ) t f ρ = loopT (.fix ds) t f μ.length (ds.length + 1) 0 ρ μ := rfl
theorem loopT_inv {ds : List DV} {n0 : Nat} (I : En → Sto → Prop) (ht : ∀ d ∈ ds, ∀ ρ μ, I ρ μ → ∃ ρ1, t d ρ μ = some ρ1 ∧ ∃ ρ' μ', f ρ1 μ = .nx ρ' μ' ∧ trimOk n0 μ' = true ∧ I (trimE n0 ρ') (μ'.take n0)) :
    ∀ (n k : Nat) (ρ : En) (μ : Sto), ds.length + 1 = n + k → k ≤ ds.length → I ρ μ → ∃ ρ' μ', loopT (.fix ds) t f n0 n k ρ μ = .nx ρ' μ' ∧ I ρ' μ'
  | 0, k, ρ, μ, h, hk, _ => by omega
  | n + 1, k, ρ, μ, h, hk, hi => by
    unfold loopT
    by_cases hl : k < ds.length
    · obtain ⟨ρ1, e1, ρ', μ', e2, e3, e4⟩ := ht ds[k] (List.getElem_mem hl) ρ μ hi
      obtain ⟨ρ2, μ2, e5, e6⟩ := loopT_inv I ht n (k + 1) _ _ (by omega) hl e4
      refine ⟨ρ2, μ2, ?_, e6⟩
      have e : wkAt (.fix ds) μ k = some (some ds[k]) := by show some ds[k]? = _; rw [List.getElem?_eq_getElem hl]
      simp only [e, e1, e2, e3, if_true]
      exact e5
    · have e : wkAt (.fix ds) μ k = some none := by show some ds[k]? = _; rw [List.getElem?_eq_none_iff.mpr (by omega)]
      refine ⟨ρ, μ, ?_, hi⟩
      simp only [e]
end
end SD

set_option Elab.async false
set_option linter.all false
set_option maxRecDepth 100000
set_option maxHeartbeats 4000000
/-! SD: {tuple of ints: .. for .. in ..}, walked over at once, as rules of the hand layer. -/
namespace SD
open PySem PySem.Spec PyProof.Rows L2
abbrev Xs := List (List Int × Addr × Value)
def DctT (P : Program) (w : World) (h : Heap) (d : Addr) (xs : Xs) : Prop :=
  (d == sysModules) = false ∧ ∃ o es ep, h.get? d = some o ∧ o.ExactDict ∧ o.data = .dict es ep ∧ es.toList = xs.map (entryOfKey (TK P w)) ∧ (xs.map (·.1)).Nodup
def DTX (P : Program) (w : World) (d : Addr) (xs : Xs) : HO := .ext fun h => DctT P w h d xs
def DFz (d : Addr) (o : Obj) : HO := .ext fun h => h.get? d = some o
theorem dtx_ok {P : Program} {w : World} {H : Hp} {h : Heap} {d : Addr} {xs : Xs} (z : DctT P w h d xs) : ObjOk P w H h d (DTX P w d xs) := by
  have ⟨hs, o, es, ep, ho, r⟩ := z
  refine ⟨z, ⟨o, ho⟩, fun h1 h2 p k => ?_⟩
  obtain ⟨hs', o', es', ep', ho', r'⟩ := (show DctT P w h1 d xs from p)
  exact ⟨hs', o', es', ep', k o' ho', r'⟩
theorem dfz_ok {P : Program} {w : World} {H : Hp} {h : Heap} {d : Addr} {o : Obj} (z : h.get? d = some o) : ObjOk P w H h d (DFz d o) := ⟨z, ⟨o, z⟩, fun h1 h2 p k => k o p⟩
section
variable {X : Cx}
theorem dsetT {ps : List (Addr × Obj)} {σ : L2.St} {H : Hp} {s : Shared} {E : Value → Shared → Prop} {D x : Addr} {xs : Xs} {k : List Int} {u : Value} {Q : Unit → Shared → Prop} (I : Inv X ps σ H s) (hD : H D = some (DTX X.prog X.w D xs))
    (hL : ∀ p ∈ xs, SqT X.K H p.2.1 (p.1.map V.int)) (hx : SqT X.K H x (k.map V.int)) (hu : X.A.units + 64 < cLine) (few : xs.length < 64)
    (h : ∀ s', Inv X ps σ (upd H D (DTX X.prog X.w D (storedH xs k x u))) s' → Q () s') : wpAny (model X.prog X.w) X.A (dictSet D (.ref x) u) Q E s := by
  obtain ⟨hs, o, es, ep, ho, hex, hd, he, hn⟩ := (show DctT X.prog X.w s.heap D xs from (I.hok D _ hD).1)
  refine wpAny_dictSet_heap (knd := TK X.prog X.w) (xs := xs) (k := k) ?_ (I.isT hx) ⟨o, es, ep, ho, hex, hd, he, fun p hp => I.isT (hL p hp), hn⟩ (fun h' m sb => ?_) (by rw [sizeLine_eq]; omega)
  · show X.A.units < cLine
    omega
  · obtain ⟨o', es', ep', ho', hex', hd', he', _, hn'⟩ := m
    exact h _ (I.write (e := D) (by rw [hD]; trivial) (.inl rfl) (fun b z hb hz => (sb.2 b hb).trans hz) ⟨o', ho'⟩ (dtx_ok ⟨hs, o', es', ep', ho', hex', hd', he', hn'⟩))
def stepD (K : PySem.W.Frag) (P : Program) (w : World) (D : Addr) (Nx : Hp → Prop) (y : V) (H : Hp) : Prop := ∃ (xs : Xs) (x : Addr) (k : List Int), y = .ref x ∧ SqT K H x (k.map V.int) ∧ H D = some (DTX P w D xs) ∧ (∀ p ∈ xs, SqT K H p.2.1 (p.1.map V.int)) ∧ xs.length < 64 ∧ ∀ u, Nx (upd H D (DTX P w D (storedH xs k x u)))
def tDT (K : PySem.W.Frag) (P : Program) (w : World) (wi : TI) (g : TG) (tt : TT) (tk tv : TE) (vs : List Nat) : TE := fun σ H Q => wi σ H fun J H1 => ∀ D, H1 D = none → ∃ V : Nat → Nat → Hp → Prop, (∃ m, V 0 m (upd H1 D (DTX P w D []))) ∧ ∀ i m H, V i m H →
  (J.stop i H ∧ Q (.ref D) H) ∨ (J.go i H ∧ ∃ Nx : Hp → Prop, (∀ H', Nx H' → ∃ m', m' < m ∧ V (i + 1) m' H') ∧ ∀ x H', J.yld i H x H' → g x (wipe σ vs) H' fun τ H2 => wipe τ vs = wipe σ vs ∧ tt τ H2 fun b H3 =>
    if b = true then tk τ H3 (fun y H4 => tv τ H4 fun _ H5 => stepD K P w D Nx y H5) else Nx H3)
abbrev Dc1 (kx vx t0 i0 : Expr) (f0 : List Expr) (sc : Scope) (pos : Pos) : Expr := .DictComp kx vx [⟨t0, i0, f0, 0⟩] sc pos
theorem dT_core {ps : List (Addr × Obj)} {s : Shared} {σ : L2.St} {H : Hp} {Q : VK} {kx vx t0 i0 : Expr} {f0 : List Expr} {sc : Scope} {own : List (PySem.Str × Nat)} {pos pos' : Pos} {wi : TI} {g : TG} {tt : TT} {tk tv : TE} {use : Option (Value → Sem Unit)} {Qf : Value → Shared → Prop}
    (hc : X.calm = true) (hu : X.A.units + 64 < cLine) (hN : X.N.Nodup) (I : Inv X ps σ H s) (hi : PI X t0 i0 wi) (ok : BlkOk X.N X.env.scope sc own)
    (hg : ∀ (s : Shared) (H : Hp) (C : Addr) (cl : List (PySem.Str × Addr)) (fp : List Addr), PG (X.blk s H sc (compEnvC sc cl C X.env) fp) t0 g) (ht : ∀ (s : Shared) (H : Hp) (C : Addr) (cl : List (PySem.Str × Addr)) (fp : List Addr), PTs (X.blk s H sc (compEnvC sc cl C X.env) fp) f0 tt)
    (hk : ∀ (s : Shared) (H : Hp) (C : Addr) (cl : List (PySem.Str × Addr)) (fp : List Addr), PE (X.blk s H sc (compEnvC sc cl C X.env) fp) kx tk)
    (hv : ∀ (s : Shared) (H : Hp) (C : Addr) (cl : List (PySem.Str × Addr)) (fp : List Addr), PE (X.blk s H sc (compEnvC sc cl C X.env) fp) vx tv) (hs : ∀ x, foldedSetIterable i0 X.env x = pure x)
    (h : tDT X.K X.prog X.w wi g tt tk tv (own.map (·.2)) σ H Q)
    (hR : ∀ D C s' m H', Inv X ps σ H' s' → Q (.ref D) H' → s'.heap.Ns C m → FpOk X ps H' C → compPost (model X.prog X.w) X.A X.xe use Qf (.ref D) C (.ok .next) s') :
    wpAny (model X.prog X.w) X.A (comprehension (Dc1 kx vx t0 i0 f0 sc pos) sc X.env pos' newDict false (eval i0 X.env) use) Qf X.xe s := by
  have hfr : ∀ z ∈ sc.names, z.2 = .free → ∃ c, X.env.cells.lookup z.1 = some c := fun z hz e => (ok.free z hz e).elim (fun k => I.ok.has _ (.inl k)) fun k => I.ok.has _ (.inr k)
  refine wpAny_comprehension_free (use := use) rfl hs (closure_ok hfr) ok.kind (fun z hz e => by rw [ok.uniq z hz, e])
    (thn (hi.run ps s σ H _ I h) fun xv sa hx => thn hx fun itv sb hb => ?_)
  obtain ⟨it, fp, tn, J, Hb, rfl, Ib, T, stb, fb, q⟩ := hb
  refine wpAny_newObj_type (newEnv_comp ?_)
  generalize hD : sb.heap.objs.size = D
  have nD : Hb D = none := Ib.hok.fresh (Nat.le_of_eq hD)
  obtain ⟨V, ⟨m0, v0⟩, turn⟩ := q D nD
  have sD : (D == sysModules) = false := by
    have z := Ib.big
    rw [hD] at z
    rw [beq_eq_false_iff_ne]
    exact Nat.ne_of_gt z
  generalize hs3 : ({ sb with heap := sb.heap.push { cls := .type "dict", data := .dict #[] } } : Shared) = sn
  have In : Inv X ps σ (upd Hb D (DTX X.prog X.w D [])) sn := by
    rw [← hs3]
    refine Ib.laid (t' := sb.toks) (fun b o e => Heap.get?_push_of_some _ e) (Nat.le_of_eq hD) (dtx_ok ⟨sD, { cls := .type "dict", data := .dict #[] }, #[], 0, ?_, ⟨rfl, rfl, rfl⟩, rfl, rfl, .nil⟩)
    rw [← hD]
    exact Heap.get?_push_size _ rfl
  have hsn : sn.heap = sb.heap.push { cls := .type "dict", data := .dict #[] } := by rw [← hs3]
  have sz : ∀ b ∈ fp, b < sb.heap.objs.size := fun b hb => (T.obj _ _ stb b hb).elim fun o e => Heap.lt_size e.1
  have fn : ∀ b ∈ fp, FpOk X ps (upd Hb D (DTX X.prog X.w D [])) b ∧ b < sn.heap.objs.size := fun b hb =>
    ⟨⟨(upd_ne (show b ≠ D by rw [← hD]; exact Nat.ne_of_lt (sz b hb))).trans (fb b hb).1, (fb b hb).2⟩, by rw [hsn, Heap.size_push]; exact Nat.lt_succ_of_lt (sz b hb)⟩
  have stn : tn 0 sn.heap := T.keep _ _ _ stb fun b _ o e => by rw [hsn]; exact Heap.get?_push_of_some _ e
  have Ic := block_start In ok hN fn
  show codeAny _ _ (.compStart (Dc1 kx vx t0 i0 f0 sc pos) 0 (.ref it) (.ref D) (compEnvC sc (cellsFrom (sn.heap.objs.size + 1) sc.names (cloFrom X.env.cells sc.names [])) sn.heap.objs.size X.env)) (compPost (model X.prog X.w) X.A X.xe use Qf (.ref D) sn.heap.objs.size) { sn with heap := pushCells (sn.heap.push { cls := .type "dict", data := .dict #[] }) sc.names }
  generalize hcl : cellsFrom (sn.heap.objs.size + 1) sc.names (cloFrom X.env.cells sc.names []) = cl at Ic ⊢
  have gK := hk sn (upd Hb D (DTX X.prog X.w D [])) sn.heap.objs.size cl fp
  have gV := hv sn (upd Hb D (DTX X.prog X.w D [])) sn.heap.objs.size cl fp
  have gG := hg sn (upd Hb D (DTX X.prog X.w D [])) sn.heap.objs.size cl fp
  have gT := ht sn (upd Hb D (DTX X.prog X.w D [])) sn.heap.objs.size cl fp
  have nfp : ∀ b ∈ fp, (upd Hb D (DTX X.prog X.w D [])) b = none := fun b hb => (fn b hb).1.1
  generalize hce : compEnvC sc cl sn.heap.objs.size X.env = ce at Ic gK gV gG gT ⊢
  have eL : ce.locals = sn.heap.objs.size := by subst hce; rfl
  generalize hHn : upd Hb D (DTX X.prog X.w D []) = Hn at In Ic gK gV gG gT v0 nfp fn
  generalize hsc : ({ sn with heap := pushCells (sn.heap.push { cls := .type "dict", data := .dict #[] }) sc.names } : Shared) = sq at Ic ⊢
  have stq : tn 0 sq.heap := T.keep _ _ _ stn fun b _ o e => by rw [← hsc]; exact pushCells_keeps _ _ _ _ (Heap.get?_push_of_some _ e)
  have stat : ∀ {τ : L2.St} {H' : Hp} {s' : Shared}, Inv (X.blk sn Hn sc ce fp) [] τ H' s' → (∀ b ∈ fp, H' b = none) → ∀ b ∈ fp, FpOk (X.blk sn Hn sc ce fp) [] H' b := fun I' hn b hb =>
    ⟨hn b hb, (I'.ok.exf b hb).1, I'.ok.exfs b hb, .inl hb, fun x c e => (I'.ok.exf b hb).2 x c e, fun p hp => by cases hp⟩
  have walk : codeAny (model X.prog X.w) X.A (.compLoop (Dc1 kx vx t0 i0 f0 sc pos) 0 (.ref it) (.ref D) ce) (compPost (model X.prog X.w) X.A X.xe use Qf (.ref D) sn.heap.objs.size) sq := by
    refine compLoop_anyD (fun n s' => ∃ i H', Inv (X.blk sn Hn sc ce fp) [] (wipe σ (own.map (·.2))) H' s' ∧ tn i s'.heap ∧ (∀ b ∈ fp, H' b = none) ∧ V i n H') ?_ m0 ⟨0, Hn, Ic, stq, nfp, v0⟩
    rintro n s5 ⟨i, H5, I5, st5, n5, w5⟩
    rcases turn i n H5 w5 with ⟨stop, qq⟩ | ⟨go, Nx, hNx, step⟩
    · refine thnF (T.done (X.blk sn Hn sc ce fp) rfl rfl rfl hc i [] s5 _ H5 (fun _ _ => False) I5 (stat I5 n5) st5 stop) fun r s6 ⟨hr, I6⟩ => ?_
      subst hr
      have I7 : Inv X ps σ H5 s6 := In.call' (ch := fp) I6.os I6.base I6.hok I6.bare fun b hb => ⟨(fn b hb).1.2.2.2.1, (fn b hb).1.2.1, (fn b hb).1.2.2.2.2.1, (fn b hb).1.2.2.2.2.2⟩
      have nC : H5 ce.locals = none := I6.free
      obtain ⟨m, hn, _⟩ := I6.loc
      have hn : s6.heap.Ns ce.locals m := hn
      rw [eL] at hn nC
      exact hR D _ s6 m H5 I7 qq hn (In.fpOk (Nat.le_refl _) nC)
    · refine thnF (T.item (X.blk sn Hn sc ce fp) rfl rfl rfl hc i [] s5 _ H5 (fun _ _ => False) I5 (stat I5 n5) st5 go) fun r s6 ⟨u, hr, h6⟩ => ?_
      subst hr
      refine thnF h6 fun _ s7 ⟨x, H7, I7, r7, y7, st7, n7⟩ => ?_
      have J7 := I7.pinned (stat I7 n7) (T.obj _ _ st7)
      refine thnF (gG.run _ s7 _ H7 x u _ J7 r7 (step x H7 y7)) fun _ s8 ⟨τ, H8, I8, hw8, q8⟩ => ?_
      refine thnF (gT.run _ s8 τ H8 _ I8 q8) fun b s9 ⟨H9, I9, q9⟩ => ?_
      have fin : ∀ {s' : Shared} {H' : Hp}, Inv (X.blk sn Hn sc ce fp) ([] ++ pinsAt fp s7.heap) τ H' s' → Nx H' →
          ∃ m, m < n ∧ ∃ i H', Inv (X.blk sn Hn sc ce fp) [] (wipe σ (own.map (·.2))) H' s' ∧ tn i s'.heap ∧ (∀ b ∈ fp, H' b = none) ∧ V i m H' := fun {s' H'} I' nx => by
        obtain ⟨m', hm, w'⟩ := hNx H' nx
        have pin : ∀ b ∈ fp, ∀ o, s7.heap.get? b = some o → s'.heap.get? b = some o ∧ H' b = none := fun b hb o e =>
          have z := I'.pin (b, o) (List.mem_append_right _ (List.mem_append_right _ (mem_pinsAt hb e)))
          ⟨z.1, z.2.1⟩
        refine ⟨m', hm, i + 1, H', (I'.unpinned (pins := [])).weak (by rw [← hw8, wipe_length]) (fun j v e => (wipe_some (hw8.symm ▸ e)).1), T.keep _ _ _ st7 fun b hb o e => (pin b hb o e).1, fun b hb => ?_, w'⟩
        exact (T.obj _ _ st7 b hb).elim fun o e => (pin b hb o e.1).2
      cases b with
      | false =>
        simp only [Bool.false_eq_true, if_false] at q9 ⊢
        exact fin I9 q9
      | true =>
        simp only [if_true] at q9 ⊢
        refine thnF (gK.run _ s9 τ H9 _ I9 q9) fun z s10 ⟨yk, H10, I10, r10, q10⟩ => ?_
        refine thnF (gV.run _ s10 τ H10 _ I10 q10) fun z2 s11 ⟨yv, H11, I11, r11, xs, x, k, ey, hx', hD', hL', few, nx⟩ => ?_
        subst ey
        cases (show z = Value.ref x from r10)
        exact dsetT (X := X.blk sn Hn sc ce fp) I11 hD' hL' hx' hu few fun s12 I12 => fin I12 (nx z2)
  exact codeAny_compStart_dict walk (T.self X.A 0 _ _ _ stq walk)
theorem pe_dT {kx vx t0 i0 : Expr} {f0 : List Expr} {sc : Scope} {own : List (PySem.Str × Nat)} {pos : Pos} {wi : TI} {g : TG} {tt : TT} {tk tv : TE} (hc : X.calm = true) (hu : X.A.units + 64 < cLine) (hN : X.N.Nodup) (hi : PI X t0 i0 wi) (ok : BlkOk X.N X.env.scope sc own)
    (hg : ∀ (s : Shared) (H : Hp) (C : Addr) (cl : List (PySem.Str × Addr)) (fp : List Addr), PG (X.blk s H sc (compEnvC sc cl C X.env) fp) t0 g) (ht : ∀ (s : Shared) (H : Hp) (C : Addr) (cl : List (PySem.Str × Addr)) (fp : List Addr), PTs (X.blk s H sc (compEnvC sc cl C X.env) fp) f0 tt)
    (hk : ∀ (s : Shared) (H : Hp) (C : Addr) (cl : List (PySem.Str × Addr)) (fp : List Addr), PE (X.blk s H sc (compEnvC sc cl C X.env) fp) kx tk)
    (hv : ∀ (s : Shared) (H : Hp) (C : Addr) (cl : List (PySem.Str × Addr)) (fp : List Addr), PE (X.blk s H sc (compEnvC sc cl C X.env) fp) vx tv) (hs : ∀ x, foldedSetIterable i0 X.env x = pure x := by intro _; rfl) :
    PE X (Dc1 kx vx t0 i0 f0 sc pos) (tDT X.K X.prog X.w wi g tt tk tv (own.map (·.2))) := by
  refine ⟨fun pins s σ H Q I h => ?_⟩
  rw [arm_eval_DictComp]
  refine dT_core hc hu hN I hi ok hg ht hk hv hs h fun D C s' m H' I' q hn f => ⟨m, hn, fun h'' sb => ?_⟩
  obtain ⟨f0, f1, f2, f3, f4, f5⟩ := f
  exact ⟨.ref D, H', I'.turned (t' := s'.toks) (fun b o hb e => (sb.2 b hb).trans e) f0 f1 f3 f4 f5, rfl, q⟩

/-! ### its keys, one after the other -/
def KeysO (o : Obj) (ks : List Addr) : Prop := ∃ es ep, o.data = .dict es ep ∧ es.size = ks.length ∧ ∀ (i : Nat) (q : Addr), ks[i]? = some q → ∃ en, es[i]? = some en ∧ en.key = .ref q
def ItD (d : Addr) (o : Obj) (ks : List Addr) : It := ⟨fun i H => H d = some (DFz d o) ∧ i < ks.length, fun i H x H' => H' = H ∧ ∃ q, ks[i]? = some q ∧ x = .ref q, fun i H => H d = some (DFz d o) ∧ ks.length ≤ i⟩
theorem turn_D {P : Program} {w : World} {K : PySem.W.Frag} {tg : Expr} {d : Addr} {o : Obj} {es : Array DictEntry} {ep : Nat} {ks : List Addr} (it : Addr) (hod : o.data = .dict es ep) (hz : es.size = ks.length) (hk : ∀ (i : Nat) (q : Addr), ks[i]? = some q → ∃ en, es[i]? = some en ∧ en.key = .ref q) :
    Turn P w K tg (ItD d o ks) [it] it (fun i h => h.IsKeyIter it d i ks.length ep) where
  mem := by simp
  obj := fun i h st b hb => by
    cases (show b = it by simpa using hb)
    obtain ⟨oi, e, c, dd⟩ := st
    exact ⟨oi, e, fun v z => by rw [dd] at z; cases z⟩
  keep := fun i h h' st k => st.at fun oi e => k it (by simp) oi e
  item := by
    intro X hP hw hK hc i pins s σ H E I hf st hg
    subst hP hw hK
    obtain ⟨hd, hi⟩ := hg
    obtain ⟨f0, f1, f2, f3, f4, f5⟩ := hf it (by simp)
    have hgd : s.heap.get? d = some o := (I.hok d _ hd).1
    obtain ⟨q, hq⟩ : ∃ q, ks[i]? = some q := ⟨ks[i], List.getElem?_eq_getElem hi⟩
    obtain ⟨en, hen, hkey⟩ := hk i q hq
    refine next_key_item st hgd hod hz hen fun h' st' sb => ?_
    have I1 : Inv X pins σ H { s with heap := h' } := I.turned (t' := s.toks) (fun b ob hb e => (sb.2 b hb).trans e) f0 f1 f3 f4 f5
    obtain ⟨oi, e, c, dd⟩ := id st'
    exact ⟨en.key, rfl, go_of (s := { s with heap := h' }) e c dd (by decide) ⟨.ref q, H, I1, hkey, ⟨rfl, q, hq, rfl⟩, st', fun b hb => (hf b hb).1⟩⟩
  done := by
    intro X hP hw hK hc i pins s σ H E I hf st hg
    subst hP hw hK
    obtain ⟨hd, hi⟩ := hg
    obtain ⟨f0, f1, f2, f3, f4, f5⟩ := hf it (by simp)
    have hgd : s.heap.get? d = some o := (I.hok d _ hd).1
    exact next_key_end (I.ok.hd hc) st hgd hod hz hi fun h' eb => ⟨rfl, I.turned (t' := s.toks) (fun b ob hb e => eb b ob hb e) f0 f1 f3 f4 f5⟩
  self := fun A i s Q E st h => wpAny_pyIter_keyiter st h
def iDT (P : Program) (w : World) (te : TE) : TI := fun σ H R => te σ H fun x H1 => ∃ (D : Addr) (xs : Xs), x = .ref D ∧ H1 D = some (DTX P w D xs) ∧ ∀ o, KeysO o (xs.map (·.2.1)) → R (ItD D o (xs.map (·.2.1))) (upd H1 D (DFz D o))
theorem pi_dT {tg e : Expr} {te : TE} (he : PE X e te) : PI X tg e (iDT X.prog X.w te) := by
  refine ⟨fun pins s σ H R I h => ?_⟩
  refine thn (he.run pins s σ H _ I h) fun u s1 ⟨x, H1, I1, rx, D, xs, ex, hd, q⟩ => ?_
  subst ex
  obtain rfl : u = Value.ref D := rx
  obtain ⟨hs, o, es, ep, ho, hex, hdt, hes, hn⟩ := (show DctT X.prog X.w s1.heap D xs from (I1.hok D _ hd).1)
  have hz : es.size = (xs.map (·.2.1)).length := by rw [List.length_map]; exact size_of_entries hes
  have hk : ∀ (i : Nat) (q : Addr), (xs.map (·.2.1))[i]? = some q → ∃ en, es[i]? = some en ∧ en.key = .ref q := fun i q hq => by
    rw [List.getElem?_map] at hq
    obtain ⟨p, hp, e⟩ := Option.map_eq_some_iff.mp hq
    refine ⟨_, by rw [entry_at hes i, hp]; rfl, ?_⟩
    show Value.ref p.2.1 = _
    rw [e]
  have I2 : Inv X pins σ (upd H1 D (DFz D o)) s1 := I1.write (e := D) (t' := s1.toks) (by rw [hd]; trivial) (.inl rfl) (fun b z _ hz => hz) ⟨o, ho⟩ (dfz_ok ho)
  refine iter_keys hs ho hex hdt (pi_one (tk := s1.toks) I2 _ (turn_D _ hdt hz hk) ⟨_, Heap.get?_push_size _ rfl, rfl, ?_⟩ (q o ⟨es, ep, hdt, hz, hk⟩))
  rw [← hz] <;> rfl
end
end SD

set_option Elab.async false
set_option linter.all false
set_option maxRecDepth 100000
set_option maxHeartbeats 4000000
/-! SD: a walk over the keys of {pair: v for ..}, on deep data; more operators, range with a step, +=. -/
namespace SD
open PySem PySem.Spec PyProof.Rows L2
def bdK (tk tv : DE) : En → List I2 → Sto → R (List I2) := fun ρ ms μ => (tk ρ μ).nox.bind fun y μ1 => (tv ρ μ1).nox.bind fun _ μ2 => match asP y with
  | some q => if ms.length < 64 then .ok (addP ms q) μ2 else .stuck
  | none => .stuck
def eGatK (fi : DI) (t : DG) (tt : DT) (tk tv : DE) (vs : List Nat) : En → Sto → R (List I2) := fun ρ μ => (fi ρ μ).bind fun w μ1 => loopA w t tt (bdK tk tv) (wipeE ρ vs) (wkLen w μ1 + 1) 0 [] μ1
def iKeysD (e : En → Sto → R (List I2)) : DI := fun ρ μ => (e ρ μ).bind fun ms μ1 => .ok (.fix (ms.map prD)) μ1
/-- the dict at D while it is filled -/
structure PD0 (g : Gc) (P : Program) (w : World) (κ1 : KA) (H1 : Hp) (D : Addr) (ms : List I2) (κ : KA) (H : Hp) (μ : Sto) : Prop where
  gh : κ.gh = D :: κ1.gh
  ex : Ext0 κ1 H1 κ H
  hv : ∀ a ∈ κ1.gh, NoTbl H1 a → H a = H1 a
  so : StoOk g κ H μ
  st : ∃ xs, H D = some (DTX P w D xs) ∧ xs.map (·.1) = ms.map prL ∧ ∀ p ∈ xs, FrT g κ H p.2.1 (p.1.map V.int)
theorem noTbl_dt {P : Program} {w : World} {H : Hp} {D : Addr} {xs : Xs} (h : H D = some (DTX P w D xs)) : NoTbl H D := fun ps e => by rw [h] at e; cases e
theorem noTbl_df {H : Hp} {D : Addr} {o : Obj} (h : H D = some (DFz D o)) : NoTbl H D := fun ps e => by rw [h] at e; cases e
theorem atKey_some {xs : Xs} {k : List Int} : (atKey xs k).isSome = true ↔ k ∈ xs.map (·.1) := by
  induction xs with
  | nil => simp [atKey]
  | cons p xs ih =>
    by_cases e : p.1 = k
    · have : atKey (p :: xs) k = some p.2 := by simp [atKey, List.find?_cons, e]
      simp [this, e]
    · have : atKey (p :: xs) k = atKey xs k := by simp [atKey, List.find?_cons, e]
      rw [this, ih, List.map_cons, List.mem_cons]
      exact ⟨.inr, fun h => h.elim (fun z => (e z.symm).elim) id⟩
section
variable {g : Gc} {P : Program} {w : World} {κ1 κ κ' : KA} {H1 H H' : Hp} {D : Addr} {ms : List I2} {μ μ' : Sto}
theorem PD0.ext (p : PD0 g P w κ1 H1 D ms κ H μ) (e : Ext κ H κ' H') (s : StoOk g κ' H' μ') : PD0 g P w κ1 H1 D ms κ' H' μ' := by
  obtain ⟨xs, h1, h2, h3⟩ := p.st
  refine ⟨e.ghs.trans p.gh, p.ex.trans e.toExt0, fun a ha n => ?_, s, xs, ?_, h2, fun q hq => (h3 q hq).ext e⟩
  · have z := p.hv a ha n
    exact (e.ghv a (by rw [p.gh]; exact List.mem_cons_of_mem _ ha) fun ps y => n ps (by rw [← z]; exact y)).trans z
  · exact (e.ghv D (by rw [p.gh]; exact List.mem_cons_self) (noTbl_dt h1)).trans h1
theorem PD0.put (s1 : StoOk g κ1 H1 μ') (hD : H1 D = none) (p : PD0 g P w κ1 H1 D ms κ H μ) {xs : Xs} {x : Addr} {q : I2} (h1 : H D = some (DTX P w D xs)) (h2 : xs.map (·.1) = ms.map prL) (h3 : ∀ p ∈ xs, FrT g κ H p.2.1 (p.1.map V.int))
    (hx : FrT g κ H x [.int q.1, .int q.2]) (u : Value) :
    Ext0 κ H κ (upd H D (DTX P w D (storedH xs (prL q) x u))) ∧ PD0 g P w κ1 H1 D (addP ms q) κ (upd H D (DTX P w D (storedH xs (prL q) x u))) μ := by
  have mD : D ∈ κ.gh := by rw [p.gh]; exact List.mem_cons_self
  have xw : Ext0 κ H κ (upd H D (DTX P w D (storedH xs (prL q) x u))) := Ext0.write (.inr mD)
  refine ⟨xw, p.gh, p.ex.trans xw, fun a ha n => ?_, p.so.fill mD (noTbl_dt h1), _, upd_same, ?_, fun r hr => ?_⟩
  · rw [upd_ne fun e => ?_]
    · exact p.hv a ha n
    · obtain ⟨⟨u, hu⟩, _⟩ := s1.gst a ha
      rw [e, hD] at hu; cases hu
  · unfold storedH addP
    by_cases hq : q ∈ ms
    · have hm : (atKey xs (prL q)).isSome = true := atKey_some.mpr (by rw [h2]; exact mem_prL.mpr hq)
      rw [if_pos hq, if_pos hm, keys_map_putAt]; exact h2
    · have hm : ¬ (atKey xs (prL q)).isSome = true := fun z => hq (mem_prL.mp (by rw [← h2]; exact atKey_some.mp z))
      rw [if_neg hq, if_neg hm, List.map_append, List.map_append, h2]
      rfl
  · unfold storedH at hr
    by_cases hm : (atKey xs (prL q)).isSome = true
    · rw [if_pos hm] at hr
      obtain ⟨y, hy, rfl⟩ := List.mem_map.mp hr
      have := (h3 y hy).ext0 xw
      unfold putAt
      split <;> exact this
    · rw [if_neg hm] at hr
      rcases List.mem_append.mp hr with e | e
      · exact (h3 r e).ext0 xw
      · have : r = (prL q, x, u) := by simpa using e
        subst this
        exact hx.ext0 xw
end
section
variable {g : Gc} {W : WX} {X : Cx}
theorem dT_read {fi : DI} {t : DG} {tt : DT} {tk tv : DE} {vs sl : List Nat} {fin : List I2 → Sto → R Wk} {σ : L2.St} {H : Hp} {Q : It → Hp → Prop} {Q2 : VK} {P : Program} {w : World} (hsl : ∀ i ∈ sl, i ∈ vs)
    (hfin : ∀ (κ1 : KA) (H1 : Hp) (μ1 : Sto) (κ : KA) (H : Hp) (μ : Sto) (D : Addr) (ms : List I2), StoOk g κ1 H1 μ1 → H1 D = none → PD0 g P w κ1 H1 D ms κ H μ → wpR g W σ κ1 H1 (fin ms μ) (fun k _ κ' H' => ∀ J, WkOk g J κ' H' k → Q J H') → Q2 (.ref D) H)
    (q : tI g W (fun ρ μ => (eGatK fi t tt tk tv vs ρ μ).bind fin) σ H Q) : tDT g.K P w (tI g W fi) (tG g sl t) (tT g W0 tt) (tE g W0 tk) (tE g W0 tv) vs σ H Q2 := by
  obtain ⟨κ, ρ, μ, he, hs, hw⟩ := q
  unfold eGatK at hw
  dsimp only at hw
  rw [R.bind_assoc] at hw
  refine ⟨κ, ρ, μ, he, hs, hw.bind.mono fun wk μ1 κ1 H1 e1 s1 h1 J wo D hD => ?_⟩
  have he1 := (he.ext e1).wipe vs
  have nt0 : ∀ a ∈ κ1.gh, a ≠ D := fun a ha e => by
    obtain ⟨⟨u, hu⟩, _⟩ := s1.gst a ha
    rw [e, hD] at hu; cases hu
  let Φ : Wk → Sto → KA → Hp → Prop := fun k _ κ' H' => ∀ J, WkOk g J κ' H' k → Q J H'
  let lo : Nat → Nat → List I2 → Sto → R (List I2) := loopA wk t tt (bdK tk tv) (wipeE ρ vs)
  refine ⟨fun i m H => ∃ κ μ ms, PD0 g P w κ1 H1 D ms κ H μ ∧ RelE g κ H (wipeE ρ vs) (wipe σ vs) ∧ wpR g W σ κ1 H1 ((lo m i ms μ).bind fin) Φ,
    ⟨wkLen wk μ1 + 1, κ1.hide D, μ1, [], ⟨rfl, Ext0.hide hD, fun a ha _ => upd_ne (nt0 a ha), s1.hide hD, [], upd_same, rfl, fun p hp => by cases hp⟩, ⟨he1.len, fun i d hd => ?_⟩, h1⟩, ?_⟩
  · obtain ⟨v, a1, a2⟩ := he1.at_ i d hd
    exact ⟨v, a1, a2.ext0 (Ext0.hide hD)⟩
  rintro i m H2 ⟨κ2, μ2, ms, p2, he2, h2⟩
  cases m with
  | zero => exact h2.elim
  | succ m =>
    have h2 : wpR g W σ κ1 H1 ((loopA wk t tt (bdK tk tv) (wipeE ρ vs) (m + 1) i ms μ2).bind fin) Φ := h2
    unfold loopA at h2
    cases ew : wkAt wk μ2 i with
    | none => rw [ew] at h2; exact h2.elim
    | some o =>
      rw [ew] at h2
      cases o with
      | none => exact .inl ⟨wo.stop i _ H2 μ2 p2.ex p2.so ew, hfin κ1 H1 μ1 κ2 H2 μ2 D ms s1 hD p2 h2⟩
      | some d =>
        refine .inr ⟨wo.go i _ H2 μ2 d p2.ex p2.so ew, fun H => ∃ κ μ ms, PD0 g P w κ1 H1 D ms κ H μ ∧ RelE g κ H (wipeE ρ vs) (wipe σ vs) ∧ wpR g W σ κ1 H1 ((lo m (i + 1) ms μ).bind fin) Φ, fun H' q => ⟨m, Nat.lt_succ_self _, q⟩, fun x H' y => ?_⟩
        obtain ⟨e3, s3, rx⟩ := wo.yld i _ H2 μ2 d x H' p2.ex p2.so ew y
        refine ⟨κ2, d, wipeE ρ vs, μ2, rx, he2.ext e3, s3, ?_⟩
        simp only at h2
        cases et : t d (wipeE ρ vs) μ2 with
        | none => rw [et] at h2; exact h2.elim
        | some ρ3 =>
          rw [et] at h2
          intro σ3 he3 hl3 hk3
          refine ⟨wipe_eq hl3 hk3 hsl, κ2, ρ3, μ2, he3, s3, ?_⟩
          simp only [R.bind_assoc] at h2
          obtain ⟨b, μ3, eb, h3⟩ := nox_ok h2
          rw [eb]
          intro κ3 H3 e4 s4
          have E4 := e3.trans e4
          cases b with
          | false => exact iteF ⟨κ3, μ3, ms, p2.ext E4 s4, he2.ext E4, h3⟩
          | true =>
            refine iteT ⟨κ3, ρ3, μ3, he3.ext e4, s4, ?_⟩
            have h3 : wpR g W σ κ1 H1 (((bdK tk tv ρ3 ms μ3).bind fun ms μ2 => loopA wk t tt (bdK tk tv) (wipeE ρ vs) m (i + 1) ms μ2).bind fin) Φ := h3
            unfold bdK at h3
            rw [R.bind_assoc, R.bind_assoc] at h3
            obtain ⟨yv, μ5, ey, h5⟩ := nox_ok h3
            rw [ey]
            intro κ5 H5 e5 s5 v rv
            refine ⟨κ5, ρ3, μ5, (he3.ext e4).ext e5, s5, ?_⟩
            simp only [R.bind_assoc] at h5
            obtain ⟨zv, μ6, ez, h6⟩ := nox_ok h5
            rw [ez]
            intro κ6 H6 e6 s6 _ _
            have E6 := (E4.trans e5).trans e6
            have p6 := p2.ext E6 s6
            cases ep : asP yv with
            | none => rw [ep] at h6; exact h6.elim
            | some pq =>
              rw [ep] at h6
              by_cases few : ms.length < 64
              case neg => simp only [if_neg few] at h6; exact h6.elim
              simp only [if_pos few] at h6
              have rv := rv.ext e6
              rw [asP_eq ep] at rv
              simp only [Rel, prD] at rv
              obtain ⟨a, ws, rfl, hf, rw⟩ := rv
              obtain ⟨v1, r1, rfl, q1, rw⟩ := rw.of_cons
              obtain ⟨v2, r2, rfl, q2, rw⟩ := rw.of_cons
              cases rw.of_nil
              simp only [Rel] at q1 q2
              subst q1 q2
              obtain ⟨xs, l1, l2, l3⟩ := p6.st
              have few' : xs.length < 64 := by
                have := congrArg List.length l2
                rw [List.length_map, List.length_map] at this
                omega
              refine ⟨xs, a, prL pq, rfl, hf.sq, l1, fun p hp => (l3 p hp).sq, few', fun u => ?_⟩
              obtain ⟨xw, pw⟩ := p6.put s1 hD l1 l2 l3 hf u
              have heX := he2.ext E6
              exact ⟨κ6, μ6, addP ms pq, pw, ⟨heX.len, fun i d hd => by
                obtain ⟨v', a1, a2⟩ := heX.at_ i d hd
                exact ⟨v', a1, a2.ext0 xw⟩⟩, h6⟩
theorem wk_D {κ : KA} {H : Hp} {D : Addr} {o : Obj} {xs : Xs} {ms : List I2} (hD : At κ H D (DFz D o)) (h2 : xs.map (·.1) = ms.map prL) (h3 : ∀ p ∈ xs, FrT g κ H p.2.1 (p.1.map V.int)) : WkOk g (ItD D o (xs.map (·.2.1))) κ H (.fix (ms.map prD)) := by
  have hl : xs.length = ms.length := by
    have := congrArg List.length h2
    rwa [List.length_map, List.length_map] at this
  refine ⟨fun k κ' H' μ e s hk => ⟨(e.at hD).1, ?_⟩, fun k κ' H' μ d e s hk => ⟨(e.at hD).1, ?_⟩, fun k κ' H' μ d x H'' e s hk y => ?_⟩
  · have := List.getElem?_eq_none_iff.mp (Option.some.inj hk)
    rw [List.length_map] at this ⊢
    omega
  · have := (List.getElem?_eq_some_iff.mp (Option.some.inj hk)).1
    rw [List.length_map] at this ⊢
    omega
  · obtain ⟨rfl, q, hq, rfl⟩ := y
    refine ⟨Ext.refl, s, ?_⟩
    rw [List.getElem?_map] at hq
    obtain ⟨p, hp, e1⟩ := Option.map_eq_some_iff.mp hq
    have hk : (ms.map prD)[k]? = some d := Option.some.inj hk
    rw [List.getElem?_map] at hk
    obtain ⟨m, hm, e2⟩ := Option.map_eq_some_iff.mp hk
    have e3 : p.1 = prL m := by
      have := congrArg (fun l => l[k]?) h2
      simp only [List.getElem?_map, hp, hm, Option.map_some] at this
      exact Option.some.inj this
    have hf := (h3 p (List.mem_of_getElem? hp)).ext0 e
    rw [e1, e3] at hf
    rw [← e2]
    simp only [Rel, prD]
    exact ⟨q, _, rfl, hf, RelL.ints [m.1, m.2]⟩
section
variable {kx vx t0 i0 : Expr} {f0 : List Expr} {sc : Scope} {own : List (PySem.Str × Nat)} {sl : List Nat} {pos : Pos} {fi : DI} {t : DG} {tt : DT} {tk tv : DE} {N : List Str} {sc0 : Scope} {tg : Expr}
theorem gi_dict (xg : XG g X) (hc : X.calm = true) (hu : X.A.units + 64 < cLine) (hN : X.N.Nodup) (hi : GI g W X t0 i0 fi) (eN : X.N = N) (eS : X.env.scope = sc0) (ok : blkC N sc0 sc own = true)
    (hg : ∀ (s : Shared) (H : Hp) (C : Addr) (cl : List (PySem.Str × Addr)) (fp : List Addr), GG g (X.blk s H sc (compEnvC sc cl C X.env) fp) t0 sl t) (ht : ∀ (s : Shared) (H : Hp) (C : Addr) (cl : List (PySem.Str × Addr)) (fp : List Addr), GTs g W0 (X.blk s H sc (compEnvC sc cl C X.env) fp) f0 tt)
    (hk : ∀ (s : Shared) (H : Hp) (C : Addr) (cl : List (PySem.Str × Addr)) (fp : List Addr), GE g W0 (X.blk s H sc (compEnvC sc cl C X.env) fp) kx tk)
    (hv : ∀ (s : Shared) (H : Hp) (C : Addr) (cl : List (PySem.Str × Addr)) (fp : List Addr), GE g W0 (X.blk s H sc (compEnvC sc cl C X.env) fp) vx tv)
    (hsl : sl.all (fun i => decide (i ∈ own.map (·.2))) = true := by rfl) (hs : ∀ x, foldedSetIterable i0 X.env x = pure x := by intro _; rfl) : GI g W X tg (Dc1 kx vx t0 i0 f0 sc pos) (iKeysD (eGatK fi t tt tk tv (own.map (·.2)))) := by
  subst eN eS
  refine PI.imp (pi_dT (pe_dT hc hu hN hi (blkOk_by ok) hg ht hk hv hs)) fun σ H R q => ?_
  show tDT X.K X.prog X.w _ _ _ _ _ _ σ H fun x H1 => ∃ (D : Addr) (xs : Xs), x = .ref D ∧ H1 D = some (DTX X.prog X.w D xs) ∧ ∀ o, KeysO o (xs.map (·.2.1)) → R (ItD D o (xs.map (·.2.1))) (upd H1 D (DFz D o))
  rw [xg.K]
  refine dT_read (fin := fun ms μ1 => .ok (.fix (ms.map prD)) μ1) (fun i hi => of_decide_eq_true (List.all_eq_true.mp hsl i hi)) (fun κ1 H1 μ1 κ H μ D ms s1 hD p h => ?_) q
  obtain ⟨xs, l1, l2, l3⟩ := p.st
  refine ⟨D, xs, rfl, l1, fun o ko => ?_⟩
  have mD : D ∈ κ.gh := by rw [p.gh]; exact List.mem_cons_self
  have xw : Ext0 κ H κ (upd H D (DFz D o)) := Ext0.write (.inr mD)
  have s2 := p.so.fill (o := DFz D o) mD (noTbl_dt l1)
  have x2 := p.ex.trans xw
  have hv2 : ∀ a ∈ κ1.gh, NoTbl H1 a → upd H D (DFz D o) a = H1 a := fun a ha n => by
    rw [upd_ne fun e => ?_]
    · exact p.hv a ha n
    · obtain ⟨⟨u, hu⟩, _⟩ := s1.gst a ha
      rw [e, hD] at hu; cases hu
  have f2 : ∀ p ∈ xs, FrT g κ (upd H D (DFz D o)) p.2.1 (p.1.map V.int) := fun q hq => (l3 q hq).ext0 xw
  have e := KA.of_gh p.gh
  have nD : ¬ (KA.mk κ.cs κ1.gh).has D := fun m => m.elim (fun m => (p.so.gst D mD).2 m) fun m => by
    obtain ⟨⟨u, hu⟩, _⟩ := s1.gst D m
    rw [hD] at hu; cases hu
  rw [e] at s2 x2 f2
  exact h (KA.mk κ.cs κ1.gh) _ ⟨x2.trans Ext0.show', rfl, hv2⟩ (s2.show' (noTbl_df upd_same)) _ (wk_D ⟨upd_same, nD⟩ l2 fun q hq => (f2 q hq).ext0 Ext0.show')
end
end
end SD

set_option Elab.async false
set_option linter.all false
set_option maxRecDepth 100000
set_option maxHeartbeats 4000000
/-! SD: a list times a number, range with a step, name += number. -/
namespace SD
open PySem PySem.Spec PyProof.Rows L2
section
variable {g : Gc} {W : WX} {X : Cx}
/-- list + list, the sum a new cell -/
def eAddC (a b : DE) : DE := fun ρ μ => (a ρ μ).bind fun x μ1 => (b ρ μ1).bind fun y μ2 => match lstOf μ2 x, lstOf μ2 y with
  | some xs, some ys => if okLen (xs.length + ys.length) = true then .ok (.cell μ2.length) (μ2 ++ [.lst (xs ++ ys)]) else .stuck
  | _, _ => .stuck
theorem ge_addC {a b : Expr} {fa fb : DE} {pos : Pos} (ha : GE g W X a fa) (hb : GE g W X b fb) : GE g W X (.BinOp a .Add b pos) (eAddC fa fb) := PE.imp (pe_op op_cat ha hb) fun σ H Q q => by
  obtain ⟨κ, ρ, μ, he, hs, hw⟩ := q
  refine ⟨κ, ρ, μ, he, hs, hw.bind.mono fun x μ1 κ1 H1 e1 s1 h1 v rv => ?_⟩
  refine ⟨κ1, ρ, μ1, he.ext e1, s1, h1.bind.mono fun y μ2 κ2 H2 e2 s2 h2 w rw => ?_⟩
  cases lx : lstOf μ2 x with
  | none => rw [lx] at h2; exact h2.elim
  | some xs =>
    cases ly : lstOf μ2 y with
    | none => rw [lx, ly] at h2; exact h2.elim
    | some ys =>
      rw [lx, ly] at h2
      by_cases hz : okLen (xs.length + ys.length) = true
      · simp only [if_pos hz] at h2
        obtain ⟨a, vs, rfl, a1, a2⟩ := lstOf_rel s2 (rv.ext e2) lx
        obtain ⟨b, ws, rfl, b1, b2⟩ := lstOf_rel s2 rw ly
        refine ⟨a, b, vs, ws, rfl, rfl, a1, b1, by rw [← a2.length, ← b2.length]; exact okLen_iff.mp hz, fun p hp => ?_⟩
        obtain ⟨s3, r3⟩ := cell_new s2 hp (RelL.append a2 b2)
        exact h2 _ _ (Ext.newCell s2 hp) s3 _ r3
      · simp only [if_neg hz] at h2; exact h2.elim
def rngOf3 : List DV → Option Wk
  | [.int i, .int j, .int c] => if (!decide (c = 0)) && (decide (c.natAbs < 1073741824) && (Builtin.Range.small i j c && decide (0 ≤ Builtin.Range.rangeSize i j c))) then some (.fix ((List.range (Builtin.Range.rangeSize i j c).toNat).map fun k => .int (i + (k : Nat) * c))) else none
  | _ => none
def iRng3' (r : DA) : DI := fun ρ μ => (r ρ μ).bind fun ds μ1 => R.of (rngOf3 ds) μ1
theorem rng3_some {ds : List DV} {k : Wk} (h : rngOf3 ds = some k) : ∃ i j c n, ds = [.int i, .int j, .int c] ∧ RgC i j c n ∧ k = .fix ((List.range n).map fun k => .int (i + (k : Nat) * c)) := by
  unfold rngOf3 at h
  split at h
  · split at h
    · rename_i i j c hb
      simp only [Bool.and_eq_true, Bool.not_eq_true', decide_eq_false_iff_not, decide_eq_true_eq] at hb
      cases h
      exact ⟨i, j, c, _, rfl, ⟨hb.1, hb.2.1, hb.2.2.1, (Int.toNat_of_nonneg hb.2.2.2).symm⟩, rfl⟩
    · cases h
  · cases h
theorem wk_rngC {κ : KA} {H : Hp} {lo c : Int} {n : Nat} : WkOk g (Itc lo c n) κ H (.fix ((List.range n).map fun i => .int (lo + (i : Nat) * c))) where
  stop := fun k κ' H' μ e s hk => by
    show n ≤ k
    have := List.getElem?_eq_none_iff.mp (Option.some.inj hk)
    simpa using this
  go := fun k κ' H' μ d e s hk => by
    show k < n
    have := (List.getElem?_eq_some_iff.mp (Option.some.inj hk)).1
    simpa using this
  yld := fun i κ' H' μ d v H'' e s hk y => by
    obtain ⟨rfl, rfl⟩ := y
    refine ⟨Ext.refl, s, ?_⟩
    have hd := Option.some.inj hk
    rw [List.getElem?_map] at hd
    obtain ⟨j, h1, h2⟩ := Option.map_eq_some_iff.mp hd
    have hij : j = i := by
      obtain ⟨_, e2⟩ := List.getElem?_eq_some_iff.mp h1
      simpa using e2.symm
    subst hij
    rw [← h2]
    simp [Rel]
theorem gi_rng3 {tg a b c : Expr} {p pos : Pos} {fr : DA} (hg : Gl X "range") (hm : X.mg "range" = none) (ha : GA g W X [a, b, c] fr) (hs : starEach [a, b, c] X.env = (false, eval a X.env) :: starEach [b, c] X.env := by rfl) (hpl : (backTo pos (starEach [b, c] X.env)).any (·.1) = false := by rfl) :
    GI g W X tg (.Call (.Name "range" p) [a, b, c] [] pos) (iRng3' fr) :=
  PI.imp (pi_range3 hg hm ha hs hpl) fun σ H R q => by
  obtain ⟨κ, ρ, μ, he, hs, hw⟩ := q
  refine ⟨κ, ρ, μ, he, hs, hw.bind.mono fun ds μ1 κ1 H1 e1 s1 h1 vs rv => ?_⟩
  cases k : rngOf3 ds with
  | none => rw [k] at h1; exact h1.elim
  | some wk =>
    rw [k] at h1
    obtain ⟨i, j, c, n, rfl, hb, rfl⟩ := rng3_some k
    obtain ⟨v, r, rfl, q1, q2⟩ := rv.of_cons
    obtain ⟨v', r', rfl, q3, q4⟩ := q2.of_cons
    obtain ⟨v'', r'', rfl, q5, q6⟩ := q4.of_cons
    cases q6.of_nil
    simp only [Rel] at q1 q3 q5
    subst q1 q3 q5
    exact ⟨i, j, c, n, rfl, hb, h1 κ1 H1 Ext.refl s1 _ wk_rngC⟩
/-- name += e, numbers -/
def sInc (i : Nat) (f : Int → Int → Int) (e : DE) : DS := fun ρ μ => match ρ[i]? with
  | some (some (.int a)) => (e ρ μ).toS ρ fun d μ1 => match d with
    | .int b => .nx (ρ.set i (some (.int (f a b)))) μ1
    | _ => .stuck
  | _ => .stuck
theorem gs_inc {i : Nat} {x : Str} {e : Expr} {op : Operator} {f : Int → Int → Int} {fe : DE} {pos pos' : Pos} (hN : X.N.Nodup) (hi : X.N[i]? = some x) (hx : Loc X.env.scope x) (ho : PIp X op (ipI f)) (he : GE g W X e fe) (hf : X.fn x = true ∨ X.env.scope.names.lookup x = some .local := by first | exact .inl rfl | exact .inr rfl | assumption) :
    GS g W X (.AugAssign (.Name x pos') op e pos) (sInc i f fe) := PS.imp (ps_aug hN hi hx he ho hf) fun D σ H q => by
  obtain ⟨κ, ρ, μ, hE, hs, hw⟩ := q
  unfold sInc at hw
  split at hw
  · rename_i a ha
    obtain ⟨v, h1, h2⟩ := hE.at_ i _ ha
    simp only [Rel] at h2
    subst h2
    refine ⟨_, h1, κ, ρ, μ, hE, hs, (wpS.bind hE hw).mono fun d μ1 κ1 H1 e1 s1 hh w rw => ?_⟩
    cases d with
    | int b =>
      simp only [Rel] at rw
      subst rw
      exact ⟨a, b, rfl, rfl, hh κ1 H1 _ Ext.refl s1 ((hE.ext e1).set (by simp [Rel]))⟩
    | _ => exact hh.elim
  · exact hw.elim
end
/-! plain side -/
section
variable {ρ : En} {μ : Sto}
def R.rg3 (r : R (List DV)) : R Wk := r.bind fun ds μ1 => R.of (rngOf3 ds) μ1
@[simp] theorem iRng3_ap {r : DA} : iRng3' r ρ μ = R.rg3 (r ρ μ) := rfl
@[simp] theorem rg3_ok {ds : List DV} : R.rg3 (.ok ds μ) = R.of (rngOf3 ds) μ := rfl
end
end SD

set_option Elab.async false
set_option linter.all false
set_option maxRecDepth 100000
set_option maxHeartbeats 4000000
namespace Lw
open PySem PySem.Spec PyProof.Rows L2 SD
def top (i : Nat) : Stmt := PySem.Challenge.pw_stucklots_k02_rounds_told.main.body.getD i (.Pass ⟨0, 0, 0, 0⟩)
abbrev s_InvalidDirection : Stmt := (C8.clsBody (top 3)).getD 0 (.Pass ⟨0, 0, 0, 0⟩)
abbrev s_is_whole : Stmt := top 6
abbrev s_is_number : Stmt := top 7
abbrev s_is_pair : Stmt := top 8
abbrev s_divisor : Stmt := top 9
abbrev s_is_direction : Stmt := top 10
abbrev s_cross : Stmt := top 12
abbrev s_turned_half : Stmt := top 13
abbrev s_reduced : Stmt := top 14
abbrev s_half_of : Stmt := top 15
abbrev s_is_ahead : Stmt := top 16
abbrev s_merged : Stmt := top 17
abbrev s_in_round : Stmt := top 18
abbrev s_next_in_round : Stmt := top 19
abbrev s__law_box : Stmt := top 21
abbrev s__law_take : Stmt := top 22
abbrev s__law_pick : Stmt := top 23
abbrev s__law_same : Stmt := top 24
abbrev s__law_fields : Stmt := top 25
abbrev s__law_got : Stmt := top 26
abbrev s__law_odd : Stmt := top 27
abbrev s__law_gcd : Stmt := top 28
abbrev s__law_dir : Stmt := top 29
abbrev s__law_cross : Stmt := top 30
abbrev s__law_is_whole : Stmt := top 31
abbrev s__law_is_dir : Stmt := top 32
abbrev s__law_ahead : Stmt := top 33
abbrev s__law_round : Stmt := top 34
abbrev s__law_reduced_due : Stmt := top 35
abbrev s__law_pair : Stmt := top 36
abbrev s_law : Stmt := top 37
def fa : List He.Fa := [.glo "InvalidDirection", .free "int", .free "isinstance", .free "bool", .glo "is_whole", .glo "is_number", .free "tuple", .free "len", .glo "is_pair", .free "abs", .glo "divisor", .int "STEEPEST" 999, .glo "is_direction", .glo "cross", .glo "turned_half", .glo "reduced", .glo "half_of", .glo "is_ahead", .glo "merged", .free "range", .glo "in_round", .glo "next_in_round", .glo "_law_box", .glo "_law_take", .glo "_law_pick", .free "list", .free "all", .free "str", .free "dict", .glo "_law_same", .glo "_law_fields", .glo "_law_odd", .glo "_law_gcd", .glo "_law_dir", .glo "_law_cross", .glo "_law_is_whole", .glo "_law_is_dir", .glo "_law_ahead", .glo "_law_round", .glo "_law_reduced_due", .glo "_law_pair", .glo "_law_got", .glo "LotError", .glo "Missing", .glo "law"]
def d_InvalidDirection : He.DefD := ⟨("InvalidDirection", some "__init__"), "__init__", "InvalidDirection.__init__", defArgs s_InvalidDirection, defBody s_InvalidDirection, defScope s_InvalidDirection, [], []⟩
def d_is_whole : He.DefD := ⟨("is_whole", none), "is_whole", "is_whole", defArgs s_is_whole, defBody s_is_whole, defScope s_is_whole, [], []⟩
def d_is_number : He.DefD := ⟨("is_number", none), "is_number", "is_number", defArgs s_is_number, defBody s_is_number, defScope s_is_number, [], []⟩
def d_is_pair : He.DefD := ⟨("is_pair", none), "is_pair", "is_pair", defArgs s_is_pair, defBody s_is_pair, defScope s_is_pair, [], []⟩
def d_divisor : He.DefD := ⟨("divisor", none), "divisor", "divisor", defArgs s_divisor, defBody s_divisor, defScope s_divisor, [], []⟩
def d_is_direction : He.DefD := ⟨("is_direction", none), "is_direction", "is_direction", defArgs s_is_direction, defBody s_is_direction, defScope s_is_direction, [], []⟩
def d_cross : He.DefD := ⟨("cross", none), "cross", "cross", defArgs s_cross, defBody s_cross, defScope s_cross, [], []⟩
def d_turned_half : He.DefD := ⟨("turned_half", none), "turned_half", "turned_half", defArgs s_turned_half, defBody s_turned_half, defScope s_turned_half, [], []⟩
def d_reduced : He.DefD := ⟨("reduced", none), "reduced", "reduced", defArgs s_reduced, defBody s_reduced, defScope s_reduced, [], []⟩
def d_half_of : He.DefD := ⟨("half_of", none), "half_of", "half_of", defArgs s_half_of, defBody s_half_of, defScope s_half_of, [], []⟩
def d_is_ahead : He.DefD := ⟨("is_ahead", none), "is_ahead", "is_ahead", defArgs s_is_ahead, defBody s_is_ahead, defScope s_is_ahead, [], []⟩
def d_merged : He.DefD := ⟨("merged", none), "merged", "merged", defArgs s_merged, defBody s_merged, defScope s_merged, [], []⟩
def d_in_round : He.DefD := ⟨("in_round", none), "in_round", "in_round", defArgs s_in_round, defBody s_in_round, defScope s_in_round, [], []⟩
def d_next_in_round : He.DefD := ⟨("next_in_round", none), "next_in_round", "next_in_round", defArgs s_next_in_round, defBody s_next_in_round, defScope s_next_in_round, [], []⟩
def d__law_box : He.DefD := ⟨("_law_box", none), "_law_box", "_law_box", defArgs s__law_box, defBody s__law_box, defScope s__law_box, [], []⟩
def d__law_take : He.DefD := ⟨("_law_take", none), "_law_take", "_law_take", defArgs s__law_take, defBody s__law_take, defScope s__law_take, [], []⟩
def d__law_pick : He.DefD := ⟨("_law_pick", none), "_law_pick", "_law_pick", defArgs s__law_pick, defBody s__law_pick, defScope s__law_pick, [], []⟩
def d__law_same : He.DefD := ⟨("_law_same", none), "_law_same", "_law_same", defArgs s__law_same, defBody s__law_same, defScope s__law_same, [], []⟩
def d__law_fields : He.DefD := ⟨("_law_fields", none), "_law_fields", "_law_fields", defArgs s__law_fields, defBody s__law_fields, defScope s__law_fields, [], []⟩
def d__law_got : He.DefD := ⟨("_law_got", none), "_law_got", "_law_got", defArgs s__law_got, defBody s__law_got, defScope s__law_got, [], []⟩
def d__law_odd : He.DefD := ⟨("_law_odd", none), "_law_odd", "_law_odd", defArgs s__law_odd, defBody s__law_odd, defScope s__law_odd, [], []⟩
def d__law_gcd : He.DefD := ⟨("_law_gcd", none), "_law_gcd", "_law_gcd", defArgs s__law_gcd, defBody s__law_gcd, defScope s__law_gcd, [], []⟩
def d__law_dir : He.DefD := ⟨("_law_dir", none), "_law_dir", "_law_dir", defArgs s__law_dir, defBody s__law_dir, defScope s__law_dir, [], []⟩
def d__law_cross : He.DefD := ⟨("_law_cross", none), "_law_cross", "_law_cross", defArgs s__law_cross, defBody s__law_cross, defScope s__law_cross, [], []⟩
def d__law_is_whole : He.DefD := ⟨("_law_is_whole", none), "_law_is_whole", "_law_is_whole", defArgs s__law_is_whole, defBody s__law_is_whole, defScope s__law_is_whole, [], []⟩
def d__law_is_dir : He.DefD := ⟨("_law_is_dir", none), "_law_is_dir", "_law_is_dir", defArgs s__law_is_dir, defBody s__law_is_dir, defScope s__law_is_dir, [], []⟩
def d__law_ahead : He.DefD := ⟨("_law_ahead", none), "_law_ahead", "_law_ahead", defArgs s__law_ahead, defBody s__law_ahead, defScope s__law_ahead, [], []⟩
def d__law_round : He.DefD := ⟨("_law_round", none), "_law_round", "_law_round", defArgs s__law_round, defBody s__law_round, defScope s__law_round, [], []⟩
def d__law_reduced_due : He.DefD := ⟨("_law_reduced_due", none), "_law_reduced_due", "_law_reduced_due", defArgs s__law_reduced_due, defBody s__law_reduced_due, defScope s__law_reduced_due, [], []⟩
def d__law_pair : He.DefD := ⟨("_law_pair", none), "_law_pair", "_law_pair", defArgs s__law_pair, defBody s__law_pair, defScope s__law_pair, [], []⟩
def d_law : He.DefD := ⟨("law", none), "law", "law", defArgs s_law, defBody s_law, defScope s_law, [], []⟩
def fn : List He.DefD := [d_InvalidDirection, d_is_whole, d_is_number, d_is_pair, d_divisor, d_is_direction, d_cross, d_turned_half, d_reduced, d_half_of, d_is_ahead, d_merged, d_in_round, d_next_in_round, d__law_box, d__law_take, d__law_pick, d__law_same, d__law_fields, d__law_got, d__law_odd, d__law_gcd, d__law_dir, d__law_cross, d__law_is_whole, d__law_is_dir, d__law_ahead, d__law_round, d__law_reduced_due, d__law_pair, d_law]
def csX : List (Str × List Str) := [("InvalidDirection", ["at", "code", "line", "most", "name", "one", "other", "value", "why"])]
abbrev csL : List Nat := [0]
def tfX : List He.Defn := [("law", none)]
abbrev gK (K : PySem.W.Frag) : Gc := ⟨K, clsN csX K, [((He.cT K ("law", none)).2, ("law" : Str) ++ ".<locals>." ++ "<lambda>")], none⟩
section
variable {P : Program} {w : World} {K : PySem.W.Frag} {mg : Str → Option Value} {base : Heap}
theorem sc_InvalidDirection : FnScope ["self", "value"] ["self", "value"] (defScope s_InvalidDirection) := ⟨rfl, rfl, rfl, by decide +kernel, rfl, by decide +kernel, by decide +kernel⟩
theorem fd_InvalidDirection (T : Hx fa fn csX K mg) : ∃ fd, FunD (gK K).K "__init__" "InvalidDirection.__init__" (defArgs s_InvalidDirection) (defBody s_InvalidDirection) (defScope s_InvalidDirection) [] [] (He.ma K (He.ga K "InvalidDirection") "__init__") fd := T.def_ 0
theorem xc_InvalidDirection (T : Hx fa fn csX K mg) : XcG P w (gK K) mg base 1 "InvalidDirection" 0 ["value"] "InvalidDirection" := xc1 (k := 0) (T.glo 0) (T.xc 0) rfl (fd_InvalidDirection T) sc_InvalidDirection (fun _ _ _ _ _ _ us hl => match us, hl with | [_, _], _ => rfl) rfl rfl rfl (.inl rfl) rfl (.inl rfl) (by decide) (by decide) rfl (fun _ => rfl)
theorem sc_is_whole : FnScope ["value"] ["value"] (defScope s_is_whole) := ⟨rfl, rfl, rfl, by decide +kernel, rfl, by decide +kernel, by decide +kernel⟩
def b_is_whole : DS :=
  (sRet (eAnd (eFn vIsi (aCons (eVar 0) (aCons (eC (.ty .int)) aNil))) (eNot (eFn vIsi (aCons (eVar 0) (aCons (eC (.ty .bl)) aNil))))))
def f_is_whole : Fn := runF .fz 1 1 b_is_whole
theorem ar_is_whole : Ar f_is_whole 1 := ar_run
theorem fd_is_whole (T : Hx fa fn csX K mg) : ∃ fd, FunD (gK K).K "is_whole" "is_whole" (defArgs s_is_whole) (defBody s_is_whole) (defScope s_is_whole) [] [] (He.ga K "is_whole") fd := T.def_ 1
theorem fb_is_whole (T : Hx fa fn csX K mg) (cdv : Value) (A : Around) (outer : List Env) (s : Shared) (H : Hp) (E : XK) (hr : Room 0 (A.deeper (envOfC "is_whole" (defScope s_is_whole) s.heap.objs.size (He.ga K "is_whole") cdv))) : GSs (gK K) (WF E) (cxOf (L2.CX P w) P w (gK K).K mg base ["value"] "is_whole" (defScope s_is_whole) (He.ga K "is_whole") cdv A outer s H E) (defBody s_is_whole) b_is_whole := by
  have nd := sc_is_whole.nd
  have tk := tk_of (P := P) (w := w) (K := (gK K).K) (mg := mg) (base := base) (N := ["value"]) (qual := "is_whole") (scope := defScope s_is_whole) (f := He.ga K "is_whole") (cdv := cdv) (A := A) (outer := outer) (s := s) (H := H) (E := E)
  have hu := hu64 hr
  have hu5 := hu65 hr
  exact (gss_one (gs_ret (ge_and (ge_callB (cIsi ⟨rfl⟩) rfl (T.free 2) (by decide +kernel) (ga_cons (ge_var (pv 0)) (ga_cons (ge_ty .int (T.free 1) rfl (by decide +kernel)) ga_nil))) (ge_one (ge_not (ge_callB (cIsi ⟨rfl⟩) rfl (T.free 2) (by decide +kernel) (ga_cons (ge_var (pv 0)) (ga_cons (ge_ty .bl (T.free 3) rfl (by decide +kernel)) ga_nil))))))))
theorem fg_is_whole (T : Hx fa fn csX K mg) : FnG P w (gK K) mg base 1 "is_whole" s_is_whole ["value"] [] f_is_whole := fg_of (T.glo 4) (fd_is_whole T) sc_is_whole (fb_is_whole T)
theorem sc_is_number : FnScope ["value", "least", "most"] ["value", "least", "most"] (defScope s_is_number) := ⟨rfl, rfl, rfl, by decide +kernel, rfl, by decide +kernel, by decide +kernel⟩
def b_is_number : DS :=
  (sRet (eAnd (eCall f_is_whole (aCons (eVar 0) aNil)) (eChain vLe vLe (eVar 1) (eVar 0) (eVar 2))))
def f_is_number : Fn := runF .fz 3 3 b_is_number
theorem ar_is_number : Ar f_is_number 3 := ar_run
theorem fd_is_number (T : Hx fa fn csX K mg) : ∃ fd, FunD (gK K).K "is_number" "is_number" (defArgs s_is_number) (defBody s_is_number) (defScope s_is_number) [] [] (He.ga K "is_number") fd := T.def_ 2
theorem fb_is_number (T : Hx fa fn csX K mg) (cdv : Value) (A : Around) (outer : List Env) (s : Shared) (H : Hp) (E : XK) (hr : Room 1 (A.deeper (envOfC "is_number" (defScope s_is_number) s.heap.objs.size (He.ga K "is_number") cdv))) : GSs (gK K) (WF E) (cxOf (L2.CX P w) P w (gK K).K mg base ["value", "least", "most"] "is_number" (defScope s_is_number) (He.ga K "is_number") cdv A outer s H E) (defBody s_is_number) b_is_number := by
  have nd := sc_is_number.nd
  have tk := tk_of (P := P) (w := w) (K := (gK K).K) (mg := mg) (base := base) (N := ["value", "least", "most"]) (qual := "is_number") (scope := defScope s_is_number) (f := He.ga K "is_number") (cdv := cdv) (A := A) (outer := outer) (s := s) (H := H) (E := E)
  have hu := hu64 hr
  have hu5 := hu65 hr
  exact (gss_one (gs_ret (ge_and (ge_call (fg_is_whole T) rfl ar_is_whole (hr.mono (by decide)) rfl tk (ga_cons (ge_var (pv 0)) ga_nil) rfl (fun _ _ _ _ _ _ us hl => match us, hl with | [_], _ => rfl)) (ge_one (ge_chain opLe opLe (ge_var (pv 1)) (ge_var (pv 0)) (ge_var (pv 2)))))))
theorem fg_is_number (T : Hx fa fn csX K mg) : FnG P w (gK K) mg base 2 "is_number" s_is_number ["value", "least", "most"] [] f_is_number := fg_of (T.glo 5) (fd_is_number T) sc_is_number (fb_is_number T)
theorem sc_is_pair : FnScope ["value", "most"] ["value", "most"] (defScope s_is_pair) := ⟨rfl, rfl, rfl, by decide +kernel, rfl, by decide +kernel, by decide +kernel⟩
def b_is_pair : DS :=
  (sSeq (sIf (tOr' (tNot' (tB' (eFn vIsi (aCons (eVar 0) (aCons (eC (.ty .tup)) aNil))))) (tB' (eBin vNe (eFn vLen (aCons (eVar 0) aNil)) (eC (.int 2))))) (sRet (eC (.bl false))) sNop)
    (sRet (eAnd (eCall f_is_number (aCons (eBin vIx (eVar 0) (eC (.int 0))) (aCons (eUn vNeg (eVar 1)) (aCons (eVar 1) aNil)))) (eCall f_is_number (aCons (eBin vIx (eVar 0) (eC (.int 1))) (aCons (eUn vNeg (eVar 1)) (aCons (eVar 1) aNil)))))))
def f_is_pair : Fn := runF .fz 2 2 b_is_pair
theorem ar_is_pair : Ar f_is_pair 2 := ar_run
theorem fd_is_pair (T : Hx fa fn csX K mg) : ∃ fd, FunD (gK K).K "is_pair" "is_pair" (defArgs s_is_pair) (defBody s_is_pair) (defScope s_is_pair) [] [] (He.ga K "is_pair") fd := T.def_ 3
theorem fb_is_pair (T : Hx fa fn csX K mg) (cdv : Value) (A : Around) (outer : List Env) (s : Shared) (H : Hp) (E : XK) (hr : Room 2 (A.deeper (envOfC "is_pair" (defScope s_is_pair) s.heap.objs.size (He.ga K "is_pair") cdv))) : GSs (gK K) (WF E) (cxOf (L2.CX P w) P w (gK K).K mg base ["value", "most"] "is_pair" (defScope s_is_pair) (He.ga K "is_pair") cdv A outer s H E) (defBody s_is_pair) b_is_pair := by
  have nd := sc_is_pair.nd
  have tk := tk_of (P := P) (w := w) (K := (gK K).K) (mg := mg) (base := base) (N := ["value", "most"]) (qual := "is_pair") (scope := defScope s_is_pair) (f := He.ga K "is_pair") (cdv := cdv) (A := A) (outer := outer) (s := s) (H := H) (E := E)
  have hu := hu64 hr
  have hu5 := hu65 hr
  exact (gss_cons (gs_if (PW.pt (gw_or (gt_not (gt_val (ge_callB (cIsi ⟨rfl⟩) rfl (T.free 2) (by decide +kernel) (ga_cons (ge_var (pv 0)) (ga_cons (ge_ty .tup (T.free 6) rfl (by decide +kernel)) ga_nil))))) (gw_or1 (gt_cmp (opNe ⟨rfl⟩ hu) (ge_callB (cLen ⟨rfl⟩) rfl (T.free 7) (by decide +kernel) (ga_cons (ge_var (pv 0)) ga_nil)) (ge_c pe_int) (nomark _))))) (gss_one (gs_ret (ge_c pe_bl))) gss_nil)
    (gss_one (gs_ret (ge_and (ge_call (fg_is_number T) rfl ar_is_number (hr.mono (by decide)) rfl tk (ga_cons (ge_ix (ixAny ⟨rfl⟩) (ge_var (pv 0)) (ge_c pe_int)) (ga_cons (ge_un unNeg (ge_var (pv 1))) (ga_cons (ge_var (pv 1)) ga_nil))) rfl (fun _ _ _ _ _ _ us hl => match us, hl with | [_, _, _], _ => rfl)) (ge_one (ge_call (fg_is_number T) rfl ar_is_number (hr.mono (by decide)) rfl tk (ga_cons (ge_ix (ixAny ⟨rfl⟩) (ge_var (pv 0)) (ge_c pe_int)) (ga_cons (ge_un unNeg (ge_var (pv 1))) (ga_cons (ge_var (pv 1)) ga_nil))) rfl (fun _ _ _ _ _ _ us hl => match us, hl with | [_, _, _], _ => rfl)))))))
theorem fg_is_pair (T : Hx fa fn csX K mg) : FnG P w (gK K) mg base 3 "is_pair" s_is_pair ["value", "most"] [] f_is_pair := fg_of (T.glo 8) (fd_is_pair T) sc_is_pair (fb_is_pair T)
theorem sc_divisor : FnScope ["one", "other"] ["one", "other"] (defScope s_divisor) := ⟨rfl, rfl, rfl, by decide +kernel, rfl, by decide +kernel, by decide +kernel⟩
def b_divisor : DS :=
  (sSeq (sPar 0 1 (aCons (eFn vAbs (aCons (eVar 0) aNil)) (aCons (eFn vAbs (aCons (eVar 1) aNil)) aNil)))
    (sSeq (sWhile (fun _ _ => 4096) (tB' (eBin vNe (eVar 1) (eC (.int 0)))) (sPar 0 1 (aCons (eVar 1) (aCons (eBin vMod (eVar 0) (eVar 1)) aNil))))
    (sRet (eVar 0))))
def f_divisor : Fn := runF .fz 2 2 b_divisor
theorem ar_divisor : Ar f_divisor 2 := ar_run
theorem fd_divisor (T : Hx fa fn csX K mg) : ∃ fd, FunD (gK K).K "divisor" "divisor" (defArgs s_divisor) (defBody s_divisor) (defScope s_divisor) [] [] (He.ga K "divisor") fd := T.def_ 4
theorem fb_divisor (T : Hx fa fn csX K mg) (cdv : Value) (A : Around) (outer : List Env) (s : Shared) (H : Hp) (E : XK) (hr : Room 0 (A.deeper (envOfC "divisor" (defScope s_divisor) s.heap.objs.size (He.ga K "divisor") cdv))) : GSs (gK K) (WF E) (cxOf (L2.CX P w) P w (gK K).K mg base ["one", "other"] "divisor" (defScope s_divisor) (He.ga K "divisor") cdv A outer s H E) (defBody s_divisor) b_divisor := by
  have nd := sc_divisor.nd
  have tk := tk_of (P := P) (w := w) (K := (gK K).K) (mg := mg) (base := base) (N := ["one", "other"]) (qual := "divisor") (scope := defScope s_divisor) (f := He.ga K "divisor") (cdv := cdv) (A := A) (outer := outer) (s := s) (H := H) (E := E)
  have hu := hu64 hr
  have hu5 := hu65 hr
  exact (gss_cons (gs_par (i := 0) (j := 1) rfl nd rfl rfl (by decide) rfl rfl (ga_cons (ge_callB cAbs rfl (T.free 9) (by decide +kernel) (ga_cons (ge_var (pv 0)) ga_nil)) (ga_cons (ge_callB cAbs rfl (T.free 9) (by decide +kernel) (ga_cons (ge_var (pv 1)) ga_nil)) ga_nil)))
    (gss_cons (gs_while po_of (gt_cmp (opNe ⟨rfl⟩ hu) (ge_var (pv 1)) (ge_c pe_int) (nomark _)) (gss_one (gs_par (i := 0) (j := 1) rfl nd rfl rfl (by decide) rfl rfl (ga_cons (ge_var (pv 1)) (ga_cons (ge_bin opMod (ge_var (pv 0)) (ge_var (pv 1))) ga_nil)))))
    (gss_one (gs_ret (ge_var (pv 0))))))
theorem fg_divisor (T : Hx fa fn csX K mg) : FnG P w (gK K) mg base 1 "divisor" s_divisor ["one", "other"] [] f_divisor := fg_of (T.glo 10) (fd_divisor T) sc_divisor (fb_divisor T)
theorem sc_is_direction : FnScope ["value"] ["value"] (defScope s_is_direction) := ⟨rfl, rfl, rfl, by decide +kernel, rfl, by decide +kernel, by decide +kernel⟩
def b_is_direction : DS :=
  (sRet (eAnd (eCall f_is_pair (aCons (eVar 0) (aCons (eC (.int 999)) aNil))) (eBin vEq (eCall f_divisor (aCons (eBin vIx (eVar 0) (eC (.int 0))) (aCons (eBin vIx (eVar 0) (eC (.int 1))) aNil))) (eC (.int 1)))))
def f_is_direction : Fn := runF .fz 1 1 b_is_direction
theorem ar_is_direction : Ar f_is_direction 1 := ar_run
theorem fd_is_direction (T : Hx fa fn csX K mg) : ∃ fd, FunD (gK K).K "is_direction" "is_direction" (defArgs s_is_direction) (defBody s_is_direction) (defScope s_is_direction) [] [] (He.ga K "is_direction") fd := T.def_ 5
theorem fb_is_direction (T : Hx fa fn csX K mg) (cdv : Value) (A : Around) (outer : List Env) (s : Shared) (H : Hp) (E : XK) (hr : Room 3 (A.deeper (envOfC "is_direction" (defScope s_is_direction) s.heap.objs.size (He.ga K "is_direction") cdv))) : GSs (gK K) (WF E) (cxOf (L2.CX P w) P w (gK K).K mg base ["value"] "is_direction" (defScope s_is_direction) (He.ga K "is_direction") cdv A outer s H E) (defBody s_is_direction) b_is_direction := by
  have nd := sc_is_direction.nd
  have tk := tk_of (P := P) (w := w) (K := (gK K).K) (mg := mg) (base := base) (N := ["value"]) (qual := "is_direction") (scope := defScope s_is_direction) (f := He.ga K "is_direction") (cdv := cdv) (A := A) (outer := outer) (s := s) (H := H) (E := E)
  have hu := hu64 hr
  have hu5 := hu65 hr
  exact (gss_one (gs_ret (ge_and (ge_call (fg_is_pair T) rfl ar_is_pair (hr.mono (by decide)) rfl tk (ga_cons (ge_var (pv 0)) (ga_cons (ge_gint (T.int 11) rfl) ga_nil)) rfl (fun _ _ _ _ _ _ us hl => match us, hl with | [_, _], _ => rfl)) (ge_one (ge_cmp (opEq ⟨rfl⟩ hu) (ge_call (fg_divisor T) rfl ar_divisor (hr.mono (by decide)) rfl tk (ga_cons (ge_ix (ixAny ⟨rfl⟩) (ge_var (pv 0)) (ge_c pe_int)) (ga_cons (ge_ix (ixAny ⟨rfl⟩) (ge_var (pv 0)) (ge_c pe_int)) ga_nil)) rfl (fun _ _ _ _ _ _ us hl => match us, hl with | [_, _], _ => rfl)) (ge_c pe_int) (nomark _))))))
theorem fg_is_direction (T : Hx fa fn csX K mg) : FnG P w (gK K) mg base 4 "is_direction" s_is_direction ["value"] [] f_is_direction := fg_of (T.glo 12) (fd_is_direction T) sc_is_direction (fb_is_direction T)
theorem sc_cross : FnScope ["one", "other"] ["one", "other"] (defScope s_cross) := ⟨rfl, rfl, rfl, by decide +kernel, rfl, by decide +kernel, by decide +kernel⟩
def b_cross : DS :=
  (sRet (eBin vSub (eBin vMul (eBin vIx (eVar 0) (eC (.int 0))) (eBin vIx (eVar 1) (eC (.int 1)))) (eBin vMul (eBin vIx (eVar 0) (eC (.int 1))) (eBin vIx (eVar 1) (eC (.int 0))))))
def f_cross : Fn := runF .fz 2 2 b_cross
theorem ar_cross : Ar f_cross 2 := ar_run
theorem fd_cross (T : Hx fa fn csX K mg) : ∃ fd, FunD (gK K).K "cross" "cross" (defArgs s_cross) (defBody s_cross) (defScope s_cross) [] [] (He.ga K "cross") fd := T.def_ 6
theorem fb_cross (T : Hx fa fn csX K mg) (cdv : Value) (A : Around) (outer : List Env) (s : Shared) (H : Hp) (E : XK) (hr : Room 0 (A.deeper (envOfC "cross" (defScope s_cross) s.heap.objs.size (He.ga K "cross") cdv))) : GSs (gK K) (WF E) (cxOf (L2.CX P w) P w (gK K).K mg base ["one", "other"] "cross" (defScope s_cross) (He.ga K "cross") cdv A outer s H E) (defBody s_cross) b_cross := by
  have nd := sc_cross.nd
  have tk := tk_of (P := P) (w := w) (K := (gK K).K) (mg := mg) (base := base) (N := ["one", "other"]) (qual := "cross") (scope := defScope s_cross) (f := He.ga K "cross") (cdv := cdv) (A := A) (outer := outer) (s := s) (H := H) (E := E)
  have hu := hu64 hr
  have hu5 := hu65 hr
  exact (gss_one (gs_ret (ge_bin opSub (ge_bin opMul (ge_ix (ixAny ⟨rfl⟩) (ge_var (pv 0)) (ge_c pe_int)) (ge_ix (ixAny ⟨rfl⟩) (ge_var (pv 1)) (ge_c pe_int))) (ge_bin opMul (ge_ix (ixAny ⟨rfl⟩) (ge_var (pv 0)) (ge_c pe_int)) (ge_ix (ixAny ⟨rfl⟩) (ge_var (pv 1)) (ge_c pe_int))))))
theorem fg_cross (T : Hx fa fn csX K mg) : FnG P w (gK K) mg base 1 "cross" s_cross ["one", "other"] [] f_cross := fg_of (T.glo 13) (fd_cross T) sc_cross (fb_cross T)
theorem sc_turned_half : FnScope ["direction"] ["direction"] (defScope s_turned_half) := ⟨rfl, rfl, rfl, by decide +kernel, rfl, by decide +kernel, by decide +kernel⟩
def b_turned_half : DS :=
  (sRet (eTup (aCons (eUn vNeg (eBin vIx (eVar 0) (eC (.int 0)))) (aCons (eUn vNeg (eBin vIx (eVar 0) (eC (.int 1)))) aNil))))
def f_turned_half : Fn := runF .fz 1 1 b_turned_half
theorem ar_turned_half : Ar f_turned_half 1 := ar_run
theorem fd_turned_half (T : Hx fa fn csX K mg) : ∃ fd, FunD (gK K).K "turned_half" "turned_half" (defArgs s_turned_half) (defBody s_turned_half) (defScope s_turned_half) [] [] (He.ga K "turned_half") fd := T.def_ 7
theorem fb_turned_half (T : Hx fa fn csX K mg) (cdv : Value) (A : Around) (outer : List Env) (s : Shared) (H : Hp) (E : XK) (hr : Room 0 (A.deeper (envOfC "turned_half" (defScope s_turned_half) s.heap.objs.size (He.ga K "turned_half") cdv))) : GSs (gK K) (WF E) (cxOf (L2.CX P w) P w (gK K).K mg base ["direction"] "turned_half" (defScope s_turned_half) (He.ga K "turned_half") cdv A outer s H E) (defBody s_turned_half) b_turned_half := by
  have nd := sc_turned_half.nd
  have tk := tk_of (P := P) (w := w) (K := (gK K).K) (mg := mg) (base := base) (N := ["direction"]) (qual := "turned_half") (scope := defScope s_turned_half) (f := He.ga K "turned_half") (cdv := cdv) (A := A) (outer := outer) (s := s) (H := H) (E := E)
  have hu := hu64 hr
  have hu5 := hu65 hr
  exact (gss_one (gs_ret (ge_tup (ga_cons (ge_un unNeg (ge_ix (ixAny ⟨rfl⟩) (ge_var (pv 0)) (ge_c pe_int))) (ga_cons (ge_un unNeg (ge_ix (ixAny ⟨rfl⟩) (ge_var (pv 0)) (ge_c pe_int))) ga_nil)))))
theorem fg_turned_half (T : Hx fa fn csX K mg) : FnG P w (gK K) mg base 1 "turned_half" s_turned_half ["direction"] [] f_turned_half := fg_of (T.glo 14) (fd_turned_half T) sc_turned_half (fb_turned_half T)
theorem sc_reduced : FnScope ["pair", "common", "found"] ["pair"] (defScope s_reduced) := ⟨rfl, rfl, rfl, by decide +kernel, rfl, by decide +kernel, by decide +kernel⟩
def b_reduced : DS :=
  (sSeq (sIf (tOr' (tNot' (tB' (eFn vIsi (aCons (eVar 0) (aCons (eC (.ty .tup)) aNil))))) (tOr' (tB' (eBin vNe (eFn vLen (aCons (eVar 0) aNil)) (eC (.int 2)))) (tOr' (tNot' (tB' (eCall f_is_whole (aCons (eBin vIx (eVar 0) (eC (.int 0))) aNil)))) (tNot' (tB' (eCall f_is_whole (aCons (eBin vIx (eVar 0) (eC (.int 1))) aNil))))))) (sRaise 0 ["value"] "InvalidDirection" (aCons (eVar 0) aNil)) sNop)
    (sSeq (sAsg (eCall f_divisor (aCons (eBin vIx (eVar 0) (eC (.int 0))) (aCons (eBin vIx (eVar 0) (eC (.int 1))) aNil))) (gN 1))
    (sSeq (sIf (tB' (eBin vEq (eVar 1) (eC (.int 0)))) (sRaise 0 ["value"] "InvalidDirection" (aCons (eVar 0) aNil)) sNop)
    (sSeq (sAsg (eTup (aCons (eBin vDiv (eBin vIx (eVar 0) (eC (.int 0))) (eVar 1)) (aCons (eBin vDiv (eBin vIx (eVar 0) (eC (.int 1))) (eVar 1)) aNil))) (gN 2))
    (sSeq (sIf (tNot' (tB' (eCall f_is_direction (aCons (eVar 2) aNil)))) (sRaise 0 ["value"] "InvalidDirection" (aCons (eVar 0) aNil)) sNop)
    (sRet (eVar 2)))))))
def f_reduced : Fn := runF .fz 1 3 b_reduced
theorem ar_reduced : Ar f_reduced 1 := ar_run
theorem fd_reduced (T : Hx fa fn csX K mg) : ∃ fd, FunD (gK K).K "reduced" "reduced" (defArgs s_reduced) (defBody s_reduced) (defScope s_reduced) [] [] (He.ga K "reduced") fd := T.def_ 8
theorem fb_reduced (T : Hx fa fn csX K mg) (cdv : Value) (A : Around) (outer : List Env) (s : Shared) (H : Hp) (E : XK) (hr : Room 4 (A.deeper (envOfC "reduced" (defScope s_reduced) s.heap.objs.size (He.ga K "reduced") cdv))) : GSs (gK K) (WF E) (cxOf (L2.CX P w) P w (gK K).K mg base ["pair", "common", "found"] "reduced" (defScope s_reduced) (He.ga K "reduced") cdv A outer s H E) (defBody s_reduced) b_reduced := by
  have nd := sc_reduced.nd
  have tk := tk_of (P := P) (w := w) (K := (gK K).K) (mg := mg) (base := base) (N := ["pair", "common", "found"]) (qual := "reduced") (scope := defScope s_reduced) (f := He.ga K "reduced") (cdv := cdv) (A := A) (outer := outer) (s := s) (H := H) (E := E)
  have hu := hu64 hr
  have hu5 := hu65 hr
  exact (gss_cons (gs_if (PW.pt (gw_or (gt_not (gt_val (ge_callB (cIsi ⟨rfl⟩) rfl (T.free 2) (by decide +kernel) (ga_cons (ge_var (pv 0)) (ga_cons (ge_ty .tup (T.free 6) rfl (by decide +kernel)) ga_nil))))) (gw_or (gt_cmp (opNe ⟨rfl⟩ hu) (ge_callB (cLen ⟨rfl⟩) rfl (T.free 7) (by decide +kernel) (ga_cons (ge_var (pv 0)) ga_nil)) (ge_c pe_int) (nomark _)) (gw_or (gt_not (gt_val (ge_call (fg_is_whole T) rfl ar_is_whole (hr.mono (by decide)) rfl tk (ga_cons (ge_ix (ixAny ⟨rfl⟩) (ge_var (pv 0)) (ge_c pe_int)) ga_nil) rfl (fun _ _ _ _ _ _ us hl => match us, hl with | [_], _ => rfl)))) (gw_or1 (gt_not (gt_val (ge_call (fg_is_whole T) rfl ar_is_whole (hr.mono (by decide)) rfl tk (ga_cons (ge_ix (ixAny ⟨rfl⟩) (ge_var (pv 0)) (ge_c pe_int)) ga_nil) rfl (fun _ _ _ _ _ _ us hl => match us, hl with | [_], _ => rfl))))))))) (gss_one (gs_raise (xc_InvalidDirection T) ⟨rfl⟩ rfl (hr.mono (by decide)) rfl tk (ga_cons (ge_var (pv 0)) ga_nil))) gss_nil)
    (gss_cons (gs_asg (ge_call (fg_divisor T) rfl ar_divisor (hr.mono (by decide)) rfl tk (ga_cons (ge_ix (ixAny ⟨rfl⟩) (ge_var (pv 0)) (ge_c pe_int)) (ga_cons (ge_ix (ixAny ⟨rfl⟩) (ge_var (pv 0)) (ge_c pe_int)) ga_nil)) rfl (fun _ _ _ _ _ _ us hl => match us, hl with | [_, _], _ => rfl)) (gg_name (pg_name (i := 1) nd rfl (Or.inl rfl))))
    (gss_cons (gs_if (gt_cmp (opEq ⟨rfl⟩ hu) (ge_var (pv 1)) (ge_c pe_int) (nomark _)) (gss_one (gs_raise (xc_InvalidDirection T) ⟨rfl⟩ rfl (hr.mono (by decide)) rfl tk (ga_cons (ge_var (pv 0)) ga_nil))) gss_nil)
    (gss_cons (gs_asg (ge_tup (ga_cons (ge_bin opDiv (ge_ix (ixAny ⟨rfl⟩) (ge_var (pv 0)) (ge_c pe_int)) (ge_var (pv 1))) (ga_cons (ge_bin opDiv (ge_ix (ixAny ⟨rfl⟩) (ge_var (pv 0)) (ge_c pe_int)) (ge_var (pv 1))) ga_nil))) (gg_name (pg_name (i := 2) nd rfl (Or.inl rfl))))
    (gss_cons (gs_if (gt_not (gt_val (ge_call (fg_is_direction T) rfl ar_is_direction (hr.mono (by decide)) rfl tk (ga_cons (ge_var (pv 2)) ga_nil) rfl (fun _ _ _ _ _ _ us hl => match us, hl with | [_], _ => rfl)))) (gss_one (gs_raise (xc_InvalidDirection T) ⟨rfl⟩ rfl (hr.mono (by decide)) rfl tk (ga_cons (ge_var (pv 0)) ga_nil))) gss_nil)
    (gss_one (gs_ret (ge_var (pv 2)))))))))
theorem fg_reduced (T : Hx fa fn csX K mg) : FnG P w (gK K) mg base 5 "reduced" s_reduced ["pair"] [] f_reduced := fg_of (T.glo 15) (fd_reduced T) sc_reduced (fb_reduced T)
theorem sc_half_of : FnScope ["direction"] ["direction"] (defScope s_half_of) := ⟨rfl, rfl, rfl, by decide +kernel, rfl, by decide +kernel, by decide +kernel⟩
def b_half_of : DS :=
  (sRet (eIf (tOr' (tB' (eBin vGt (eBin vIx (eVar 0) (eC (.int 1))) (eC (.int 0)))) (tAnd' (tB' (eBin vEq (eBin vIx (eVar 0) (eC (.int 1))) (eC (.int 0)))) (tB' (eBin vGt (eBin vIx (eVar 0) (eC (.int 0))) (eC (.int 0)))))) (eC (.int 0)) (eC (.int 1))))
def f_half_of : Fn := runF .fz 1 1 b_half_of
theorem ar_half_of : Ar f_half_of 1 := ar_run
theorem fd_half_of (T : Hx fa fn csX K mg) : ∃ fd, FunD (gK K).K "half_of" "half_of" (defArgs s_half_of) (defBody s_half_of) (defScope s_half_of) [] [] (He.ga K "half_of") fd := T.def_ 9
theorem fb_half_of (T : Hx fa fn csX K mg) (cdv : Value) (A : Around) (outer : List Env) (s : Shared) (H : Hp) (E : XK) (hr : Room 0 (A.deeper (envOfC "half_of" (defScope s_half_of) s.heap.objs.size (He.ga K "half_of") cdv))) : GSs (gK K) (WF E) (cxOf (L2.CX P w) P w (gK K).K mg base ["direction"] "half_of" (defScope s_half_of) (He.ga K "half_of") cdv A outer s H E) (defBody s_half_of) b_half_of := by
  have nd := sc_half_of.nd
  have tk := tk_of (P := P) (w := w) (K := (gK K).K) (mg := mg) (base := base) (N := ["direction"]) (qual := "half_of") (scope := defScope s_half_of) (f := He.ga K "half_of") (cdv := cdv) (A := A) (outer := outer) (s := s) (H := H) (E := E)
  have hu := hu64 hr
  have hu5 := hu65 hr
  exact (gss_one (gs_ret (ge_ifExp (PW.pt (gw_or (gt_cmp opGt (ge_ix (ixAny ⟨rfl⟩) (ge_var (pv 0)) (ge_c pe_int)) (ge_c pe_int) (nomark _)) (gw_or1 (PW.pt (gw_and (gt_cmp (opEq ⟨rfl⟩ hu) (ge_ix (ixAny ⟨rfl⟩) (ge_var (pv 0)) (ge_c pe_int)) (ge_c pe_int) (nomark _)) (gw_and1 (gt_cmp opGt (ge_ix (ixAny ⟨rfl⟩) (ge_var (pv 0)) (ge_c pe_int)) (ge_c pe_int) (nomark _)))))))) (ge_c pe_int) (ge_c pe_int))))
theorem fg_half_of (T : Hx fa fn csX K mg) : FnG P w (gK K) mg base 1 "half_of" s_half_of ["direction"] [] f_half_of := fg_of (T.glo 16) (fd_half_of T) sc_half_of (fb_half_of T)
theorem sc_is_ahead : FnScope ["one", "other", "mine", "its"] ["one", "other"] (defScope s_is_ahead) := ⟨rfl, rfl, rfl, by decide +kernel, rfl, by decide +kernel, by decide +kernel⟩
def b_is_ahead : DS :=
  (sSeq (sPar 2 3 (aCons (eCall f_half_of (aCons (eVar 0) aNil)) (aCons (eCall f_half_of (aCons (eVar 1) aNil)) aNil)))
    (sRet (eOr (eBin vLt (eVar 2) (eVar 3)) (eAnd (eBin vEq (eVar 2) (eVar 3)) (eBin vGt (eCall f_cross (aCons (eVar 0) (aCons (eVar 1) aNil))) (eC (.int 0)))))))
def f_is_ahead : Fn := runF .fz 2 4 b_is_ahead
theorem ar_is_ahead : Ar f_is_ahead 2 := ar_run
theorem fd_is_ahead (T : Hx fa fn csX K mg) : ∃ fd, FunD (gK K).K "is_ahead" "is_ahead" (defArgs s_is_ahead) (defBody s_is_ahead) (defScope s_is_ahead) [] [] (He.ga K "is_ahead") fd := T.def_ 10
theorem fb_is_ahead (T : Hx fa fn csX K mg) (cdv : Value) (A : Around) (outer : List Env) (s : Shared) (H : Hp) (E : XK) (hr : Room 1 (A.deeper (envOfC "is_ahead" (defScope s_is_ahead) s.heap.objs.size (He.ga K "is_ahead") cdv))) : GSs (gK K) (WF E) (cxOf (L2.CX P w) P w (gK K).K mg base ["one", "other", "mine", "its"] "is_ahead" (defScope s_is_ahead) (He.ga K "is_ahead") cdv A outer s H E) (defBody s_is_ahead) b_is_ahead := by
  have nd := sc_is_ahead.nd
  have tk := tk_of (P := P) (w := w) (K := (gK K).K) (mg := mg) (base := base) (N := ["one", "other", "mine", "its"]) (qual := "is_ahead") (scope := defScope s_is_ahead) (f := He.ga K "is_ahead") (cdv := cdv) (A := A) (outer := outer) (s := s) (H := H) (E := E)
  have hu := hu64 hr
  have hu5 := hu65 hr
  exact (gss_cons (gs_par (i := 2) (j := 3) rfl nd rfl rfl (by decide) rfl rfl (ga_cons (ge_call (fg_half_of T) rfl ar_half_of (hr.mono (by decide)) rfl tk (ga_cons (ge_var (pv 0)) ga_nil) rfl (fun _ _ _ _ _ _ us hl => match us, hl with | [_], _ => rfl)) (ga_cons (ge_call (fg_half_of T) rfl ar_half_of (hr.mono (by decide)) rfl tk (ga_cons (ge_var (pv 1)) ga_nil) rfl (fun _ _ _ _ _ _ us hl => match us, hl with | [_], _ => rfl)) ga_nil)))
    (gss_one (gs_ret (ge_or (ge_cmp opLt (ge_var (pv 2)) (ge_var (pv 3)) (nomark _)) (ge_one (ge_and (ge_cmp (opEq ⟨rfl⟩ hu) (ge_var (pv 2)) (ge_var (pv 3)) (nomark _)) (ge_one (ge_cmp opGt (ge_call (fg_cross T) rfl ar_cross (hr.mono (by decide)) rfl tk (ga_cons (ge_var (pv 0)) (ga_cons (ge_var (pv 1)) ga_nil)) rfl (fun _ _ _ _ _ _ us hl => match us, hl with | [_, _], _ => rfl)) (ge_c pe_int) (nomark _)))))))))
theorem fg_is_ahead (T : Hx fa fn csX K mg) : FnG P w (gK K) mg base 2 "is_ahead" s_is_ahead ["one", "other"] [] f_is_ahead := fg_of (T.glo 17) (fd_is_ahead T) sc_is_ahead (fb_is_ahead T)
theorem sc_merged : FnScope ["one", "other", "found", "at", "direction"] ["one", "other"] (defScope s_merged) := ⟨rfl, rfl, rfl, by decide +kernel, rfl, by decide +kernel, by decide +kernel⟩
def b_merged : DS :=
  (sSeq (sPar 2 3 (aCons (eLstC aNil) (aCons (eC (.int 0)) aNil)))
    (sSeq (sFor (iSeq (eVar 0)) (gN 4) (sSeq (sWhile (fun _ _ => 4096) (tAnd' (tB' (eBin vLt (eVar 3) (eFn vLen (aCons (eVar 1) aNil)))) (tB' (eCall f_is_ahead (aCons (eBin vIx (eVar 1) (eVar 3)) (aCons (eVar 4) aNil))))) (sSeq (sExpr (eBm "list" mAppend (eVar 2) (aCons (eBin vIx (eVar 1) (eVar 3)) aNil)))
    (sInc 3 (fun i j => i + j) (eC (.int 1)))))
    (sExpr (eBm "list" mAppend (eVar 2) (aCons (eVar 4) aNil)))))
    (sRet (eAddC (eVar 2) (eSl vSlc (eVar 1) (oSome (eVar 3)) oNone)))))
def f_merged : Fn := runF .cl 2 5 b_merged
theorem ar_merged : Ar f_merged 2 := ar_run
theorem fd_merged (T : Hx fa fn csX K mg) : ∃ fd, FunD (gK K).K "merged" "merged" (defArgs s_merged) (defBody s_merged) (defScope s_merged) [] [] (He.ga K "merged") fd := T.def_ 11
theorem fb_merged (T : Hx fa fn csX K mg) (cdv : Value) (A : Around) (outer : List Env) (s : Shared) (H : Hp) (E : XK) (hr : Room 2 (A.deeper (envOfC "merged" (defScope s_merged) s.heap.objs.size (He.ga K "merged") cdv))) : GSs (gK K) (WF E) (cxOf (L2.CX P w) P w (gK K).K mg base ["one", "other", "found", "at", "direction"] "merged" (defScope s_merged) (He.ga K "merged") cdv A outer s H E) (defBody s_merged) b_merged := by
  have nd := sc_merged.nd
  have tk := tk_of (P := P) (w := w) (K := (gK K).K) (mg := mg) (base := base) (N := ["one", "other", "found", "at", "direction"]) (qual := "merged") (scope := defScope s_merged) (f := He.ga K "merged") (cdv := cdv) (A := A) (outer := outer) (s := s) (H := H) (E := E)
  have hu := hu64 hr
  have hu5 := hu65 hr
  exact (gss_cons (gs_par (i := 2) (j := 3) rfl nd rfl rfl (by decide) rfl rfl (ga_cons (ge_lstC ga_nil) (ga_cons (ge_c pe_int) ga_nil)))
    (gss_cons (gs_for po_of rfl (gi_seq ⟨rfl⟩ (ge_var (pv 0))) (gg_name (pg_name (i := 4) nd rfl (Or.inl rfl))) (gss_cons (gs_while po_of (PW.pt (gw_and (gt_cmp opLt (ge_var (pv 3)) (ge_callB (cLen ⟨rfl⟩) rfl (T.free 7) (by decide +kernel) (ga_cons (ge_var (pv 1)) ga_nil)) (nomark _)) (gw_and1 (gt_val (ge_call (fg_is_ahead T) rfl ar_is_ahead (hr.mono (by decide)) rfl tk (ga_cons (ge_ix (ixAny ⟨rfl⟩) (ge_var (pv 1)) (ge_var (pv 3))) (ga_cons (ge_var (pv 4)) ga_nil)) rfl (fun _ _ _ _ _ _ us hl => match us, hl with | [_, _], _ => rfl)))))) (gss_cons (gs_expr (ge_bm (name' := "") ⟨rfl⟩ PySem.F.plainAttrs_list PySem.F.slot_list_append PySem.F.type_list_append mtAppend (ge_var (pv 2)) (ga_cons (ge_ix (ixAny ⟨rfl⟩) (ge_var (pv 1)) (ge_var (pv 3))) ga_nil)))
    (gss_one (gs_inc (i := 3) nd rfl (Or.inl rfl) ip_add (ge_c pe_int)))))
    (gss_one (gs_expr (ge_bm (name' := "") ⟨rfl⟩ PySem.F.plainAttrs_list PySem.F.slot_list_append PySem.F.type_list_append mtAppend (ge_var (pv 2)) (ga_cons (ge_var (pv 4)) ga_nil))))))
    (gss_one (gs_ret (ge_addC (ge_var (pv 2)) (ge_slice (slAny ⟨rfl⟩) (ge_var (pv 1)) (go_some (ge_var (pv 3))) go_none))))))
theorem fg_merged (T : Hx fa fn csX K mg) : FnG P w (gK K) mg base 3 "merged" s_merged ["one", "other"] [] f_merged := fg_of (T.glo 18) (fd_merged T) sc_merged (fb_merged T)
theorem sc_in_round : FnScope ["directions", "rows", "late", "direction", "k"] ["directions"] (defScope s_in_round) := ⟨rfl, rfl, rfl, by decide +kernel, rfl, by decide +kernel, by decide +kernel⟩
def b_in_round : DS :=
  (sSeq (sAsg (eLc (iKeysD (eGatK (iSeq (eVar 0)) (gN 3) tYes' (eVar 3) (eC (.bl true)) [3])) (gN 3) tYes' (eLstC (aCons (eVar 3) aNil)) [3]) (gN 1))
    (sSeq (sWhile (fun _ _ => 4096) (tB' (eBin vGt (eFn vLen (aCons (eVar 1) aNil)) (eC (.int 1)))) (sSeq (sAsg (eLc (iRng3' (aCons (eC (.int 0)) (aCons (eBin vSub (eFn vLen (aCons (eVar 1) aNil)) (eC (.int 1))) (aCons (eC (.int 2)) aNil)))) (gN 4) tYes' (eCall f_merged (aCons (eBin vIx (eVar 1) (eVar 4)) (aCons (eBin vIx (eVar 1) (eBin vAdd (eVar 4) (eC (.int 1)))) aNil))) [4]) (gN 2))
    (sAsg (eIf (tB' (eBin vEq (eBin vMod (eFn vLen (aCons (eVar 1) aNil)) (eC (.int 2))) (eC (.int 0)))) (eVar 2) (eLst (aStar (eVar 2) (aCons (eBin vIx (eVar 1) (eUn vNeg (eC (.int 1)))) aNil)))) (gN 1))))
    (sRet (eIf (tB' (eBin vNe (eVar 1) (eLst aNil))) (eBin vIx (eVar 1) (eC (.int 0))) (eLstC aNil)))))
def f_in_round : Fn := runF .cl 1 5 b_in_round
theorem ar_in_round : Ar f_in_round 1 := ar_run
theorem fd_in_round (T : Hx fa fn csX K mg) : ∃ fd, FunD (gK K).K "in_round" "in_round" (defArgs s_in_round) (defBody s_in_round) (defScope s_in_round) [] [] (He.ga K "in_round") fd := T.def_ 12
theorem fb_in_round (T : Hx fa fn csX K mg) (cdv : Value) (A : Around) (outer : List Env) (s : Shared) (H : Hp) (E : XK) (hr : Room 3 (A.deeper (envOfC "in_round" (defScope s_in_round) s.heap.objs.size (He.ga K "in_round") cdv))) : GSs (gK K) (WF E) (cxOf (L2.CX P w) P w (gK K).K mg base ["directions", "rows", "late", "direction", "k"] "in_round" (defScope s_in_round) (He.ga K "in_round") cdv A outer s H E) (defBody s_in_round) b_in_round := by
  have nd := sc_in_round.nd
  have tk := tk_of (P := P) (w := w) (K := (gK K).K) (mg := mg) (base := base) (N := ["directions", "rows", "late", "direction", "k"]) (qual := "in_round") (scope := defScope s_in_round) (f := He.ga K "in_round") (cdv := cdv) (A := A) (outer := outer) (s := s) (H := H) (E := E)
  have hu := hu64 hr
  have hu5 := hu65 hr
  exact (gss_cons (gs_asg (ge_lc (own := [("direction", 3)]) (N := ["directions", "rows", "late", "direction", "k"]) (sc := defScope s_in_round) rfl nd (gi_dict (own := [("direction", 3)]) (N := ["directions", "rows", "late", "direction", "k"]) (sc0 := defScope s_in_round) ⟨rfl⟩ rfl hu nd (gi_seq ⟨rfl⟩ (ge_var (pv 0))) rfl rfl (by decide +kernel) (fun _ _ _ _ _ => (gg_name (pg_name (i := 3) nd rfl (Or.inl rfl)))) (fun _ _ _ _ _ => gts_nil) (fun _ _ _ _ _ => (ge_var (pv 3))) (fun _ _ _ _ _ => (ge_c pe_bl))) rfl rfl (by decide +kernel) (fun _ _ _ _ _ => (gg_name (pg_name (i := 3) nd rfl (Or.inl rfl)))) (fun _ _ _ _ _ => gts_nil) (fun _ _ _ _ _ => (ge_lstC (ga_cons (ge_var (pv 3)) ga_nil)))) (gg_name (pg_name (i := 1) nd rfl (Or.inr rfl))))
    (gss_cons (gs_while po_of (gt_cmp opGt (ge_callB (cLen ⟨rfl⟩) rfl (T.free 7) (by decide +kernel) (ga_cons (ge_var (pv 1)) ga_nil)) (ge_c pe_int) (nomark _)) (gss_cons (gs_setLc (own := [("k", 4)]) (N := ["directions", "rows", "late", "direction", "k"]) (sc := defScope s_in_round) (i := 2) rfl nd rfl rfl (sw_true rfl rfl rfl (by decide +kernel)) (gi_rng3 rfl (T.free 19) (ga_cons (ge_c pe_int) (ga_cons (ge_bin opSub (ge_callB (cLen ⟨rfl⟩) rfl (T.free 7) (by decide +kernel) (ga_cons (ge_var (pv 1)) ga_nil)) (ge_c pe_int)) (ga_cons (ge_c pe_int) ga_nil)))) rfl rfl (by decide +kernel) (fun _ _ _ _ _ => (gg_name (pg_name (i := 4) nd rfl (Or.inl rfl)))) (fun _ _ _ _ _ => gts_nil) (fun _ _ _ _ _ => (ge_call (fg_merged T) rfl ar_merged (hr.mono (by decide)) rfl takes0 (ga_cons (ge_ix (ixAny ⟨rfl⟩) (ge_var (pv 1)) (ge_var (pv 4))) (ga_cons (ge_ix (ixAny ⟨rfl⟩) (ge_var (pv 1)) (ge_bin (opAdd ⟨rfl⟩) (ge_var (pv 4)) (ge_c pe_int))) ga_nil)) rfl (fun _ _ _ _ _ _ us hl => match us, hl with | [_, _], _ => rfl))))
    (gss_one (gs_asg (ge_ifExp (gt_cmp (opEq ⟨rfl⟩ hu) (ge_bin opMod (ge_callB (cLen ⟨rfl⟩) rfl (T.free 7) (by decide +kernel) (ga_cons (ge_var (pv 1)) ga_nil)) (ge_c pe_int)) (ge_c pe_int) (nomark _)) (ge_var (pv 2)) (ge_lst (ga_star ⟨rfl⟩ (ge_var (pv 2)) (ga_cons (ge_ix (ixAny ⟨rfl⟩) (ge_var (pv 1)) (ge_un unNeg (ge_c pe_int))) ga_nil)))) (gg_name (pg_name (i := 1) nd rfl (Or.inr rfl)))))))
    (gss_one (gs_ret (ge_ifExp (gt_cmp (opNe ⟨rfl⟩ hu) (ge_var (pv 1)) (ge_lst ga_nil) (nomark _)) (ge_ix (ixAny ⟨rfl⟩) (ge_var (pv 1)) (ge_c pe_int)) (ge_lstC ga_nil))))))
theorem fg_in_round (T : Hx fa fn csX K mg) : FnG P w (gK K) mg base 4 "in_round" s_in_round ["directions"] [] f_in_round := fg_of (T.glo 20) (fd_in_round T) sc_in_round (fb_in_round T)
theorem sc_next_in_round : FnScope ["directions", "direction", "first", "behind", "one"] ["directions", "direction"] (defScope s_next_in_round) := ⟨rfl, rfl, rfl, by decide +kernel, rfl, by decide +kernel, by decide +kernel⟩
def b_next_in_round : DS :=
  (sSeq (sIf (tOr' (tNot' (tB' (eCall f_is_direction (aCons (eVar 1) aNil)))) (tB' (eBin vEq (eFn vLen (aCons (eVar 0) aNil)) (eC (.int 0))))) (sRaise 0 ["value"] "InvalidDirection" (aCons (eVar 1) aNil)) sNop)
    (sSeq (sIf (tB' (eBin vIn (eVar 1) (eVar 0))) (sRet (eVar 1)) sNop)
    (sSeq (sPar 2 3 (aCons (eBin vIx (eVar 0) (eC (.int 0))) (aCons (eC .non) aNil)))
    (sSeq (sFor (iSeq (eVar 0)) (gN 4) (sSeq (sIf (tB' (eCall f_is_ahead (aCons (eVar 4) (aCons (eVar 2) aNil)))) (sAsg (eVar 4) (gN 2)) sNop)
    (sIf (tAnd' (tB' (eCall f_is_ahead (aCons (eVar 1) (aCons (eVar 4) aNil)))) (tOr' (tB' (eBin vIs (eVar 3) (eC .non))) (tB' (eCall f_is_ahead (aCons (eVar 4) (aCons (eVar 3) aNil)))))) (sAsg (eVar 4) (gN 3)) sNop)))
    (sRet (eIf (tB' (eBin vIs (eVar 3) (eC .non))) (eVar 2) (eVar 3)))))))
def f_next_in_round : Fn := runF .fz 2 5 b_next_in_round
theorem ar_next_in_round : Ar f_next_in_round 2 := ar_run
theorem fd_next_in_round (T : Hx fa fn csX K mg) : ∃ fd, FunD (gK K).K "next_in_round" "next_in_round" (defArgs s_next_in_round) (defBody s_next_in_round) (defScope s_next_in_round) [] [] (He.ga K "next_in_round") fd := T.def_ 13
theorem fb_next_in_round (T : Hx fa fn csX K mg) (cdv : Value) (A : Around) (outer : List Env) (s : Shared) (H : Hp) (E : XK) (hr : Room 4 (A.deeper (envOfC "next_in_round" (defScope s_next_in_round) s.heap.objs.size (He.ga K "next_in_round") cdv))) : GSs (gK K) (WF E) (cxOf (L2.CX P w) P w (gK K).K mg base ["directions", "direction", "first", "behind", "one"] "next_in_round" (defScope s_next_in_round) (He.ga K "next_in_round") cdv A outer s H E) (defBody s_next_in_round) b_next_in_round := by
  have nd := sc_next_in_round.nd
  have tk := tk_of (P := P) (w := w) (K := (gK K).K) (mg := mg) (base := base) (N := ["directions", "direction", "first", "behind", "one"]) (qual := "next_in_round") (scope := defScope s_next_in_round) (f := He.ga K "next_in_round") (cdv := cdv) (A := A) (outer := outer) (s := s) (H := H) (E := E)
  have hu := hu64 hr
  have hu5 := hu65 hr
  exact (gss_cons (gs_if (PW.pt (gw_or (gt_not (gt_val (ge_call (fg_is_direction T) rfl ar_is_direction (hr.mono (by decide)) rfl tk (ga_cons (ge_var (pv 1)) ga_nil) rfl (fun _ _ _ _ _ _ us hl => match us, hl with | [_], _ => rfl)))) (gw_or1 (gt_cmp (opEq ⟨rfl⟩ hu) (ge_callB (cLen ⟨rfl⟩) rfl (T.free 7) (by decide +kernel) (ga_cons (ge_var (pv 0)) ga_nil)) (ge_c pe_int) (nomark _))))) (gss_one (gs_raise (xc_InvalidDirection T) ⟨rfl⟩ rfl (hr.mono (by decide)) rfl tk (ga_cons (ge_var (pv 1)) ga_nil))) gss_nil)
    (gss_cons (gs_if (gt_cmp (opIn ⟨rfl⟩ hu5) (ge_var (pv 1)) (ge_var (pv 0)) (by rfl)) (gss_one (gs_ret (ge_var (pv 1)))) gss_nil)
    (gss_cons (gs_par (i := 2) (j := 3) rfl nd rfl rfl (by decide) rfl rfl (ga_cons (ge_ix (ixAny ⟨rfl⟩) (ge_var (pv 0)) (ge_c pe_int)) (ga_cons (ge_c pe_non) ga_nil)))
    (gss_cons (gs_for po_of rfl (gi_seq ⟨rfl⟩ (ge_var (pv 0))) (gg_name (pg_name (i := 4) nd rfl (Or.inl rfl))) (gss_cons (gs_if (gt_val (ge_call (fg_is_ahead T) rfl ar_is_ahead (hr.mono (by decide)) rfl tk (ga_cons (ge_var (pv 4)) (ga_cons (ge_var (pv 2)) ga_nil)) rfl (fun _ _ _ _ _ _ us hl => match us, hl with | [_, _], _ => rfl))) (gss_one (gs_asg (ge_var (pv 4)) (gg_name (pg_name (i := 2) nd rfl (Or.inl rfl))))) gss_nil)
    (gss_one (gs_if (PW.pt (gw_and (gt_val (ge_call (fg_is_ahead T) rfl ar_is_ahead (hr.mono (by decide)) rfl tk (ga_cons (ge_var (pv 1)) (ga_cons (ge_var (pv 4)) ga_nil)) rfl (fun _ _ _ _ _ _ us hl => match us, hl with | [_, _], _ => rfl))) (gw_and1 (PW.pt (gw_or (gt_cmp opIs (ge_var (pv 3)) (ge_c pe_non) (nomark _)) (gw_or1 (gt_val (ge_call (fg_is_ahead T) rfl ar_is_ahead (hr.mono (by decide)) rfl tk (ga_cons (ge_var (pv 4)) (ga_cons (ge_var (pv 3)) ga_nil)) rfl (fun _ _ _ _ _ _ us hl => match us, hl with | [_, _], _ => rfl))))))))) (gss_one (gs_asg (ge_var (pv 4)) (gg_name (pg_name (i := 3) nd rfl (Or.inl rfl))))) gss_nil))))
    (gss_one (gs_ret (ge_ifExp (gt_cmp opIs (ge_var (pv 3)) (ge_c pe_non) (nomark _)) (ge_var (pv 2)) (ge_var (pv 3)))))))))
theorem fg_next_in_round (T : Hx fa fn csX K mg) : FnG P w (gK K) mg base 5 "next_in_round" s_next_in_round ["directions", "direction"] [] f_next_in_round := fg_of (T.glo 21) (fd_next_in_round T) sc_next_in_round (fb_next_in_round T)
theorem sc__law_box : FnScope ["script", "own", "mixed", "cell"] ["script", "own"] (defScope s__law_box) := ⟨rfl, rfl, rfl, by decide +kernel, rfl, by decide +kernel, by decide +kernel⟩
def b__law_box : DS :=
  (sSeq (sAsg (eVar 1) (gN 2))
    (sSeq (sFor (iSeq (eSl vSlc (eVar 0) oNone (oSome (eC (.int 63))))) (gN 3) (sAsg (eBin vMod (eFn vInt (aCons (eBin vAdd (eBin vAdd (eBin vMul (eVar 2) (eC (.int 40503))) (eBin vMod (eFn vInt (aCons (eVar 3) aNil)) (eC (.int 2147483423)))) (eC (.int 11))) aNil)) (eC (.int 2147483587))) (gN 2)))
    (sRet (eLstC (aCons (eLc (iSeq (eSl vSlc (eVar 0) oNone (oSome (eC (.int 63))))) (gN 3) tYes' (eFn vInt (aCons (eVar 3) aNil)) [3]) (aCons (eC (.int 0)) (aCons (eC (.int 0)) (aCons (eVar 2) (aCons (eC (.int 0)) aNil)))))))))
def f__law_box : Fn := runF .cl 2 4 b__law_box
theorem ar__law_box : Ar f__law_box 2 := ar_run
theorem fd__law_box (T : Hx fa fn csX K mg) : ∃ fd, FunD (gK K).K "_law_box" "_law_box" (defArgs s__law_box) (defBody s__law_box) (defScope s__law_box) [] [] (He.ga K "_law_box") fd := T.def_ 14
theorem fb__law_box (T : Hx fa fn csX K mg) (cdv : Value) (A : Around) (outer : List Env) (s : Shared) (H : Hp) (E : XK) (hr : Room 0 (A.deeper (envOfC "_law_box" (defScope s__law_box) s.heap.objs.size (He.ga K "_law_box") cdv))) : GSs (gK K) (WF E) (cxOf (L2.CX P w) P w (gK K).K mg base ["script", "own", "mixed", "cell"] "_law_box" (defScope s__law_box) (He.ga K "_law_box") cdv A outer s H E) (defBody s__law_box) b__law_box := by
  have nd := sc__law_box.nd
  have tk := tk_of (P := P) (w := w) (K := (gK K).K) (mg := mg) (base := base) (N := ["script", "own", "mixed", "cell"]) (qual := "_law_box") (scope := defScope s__law_box) (f := He.ga K "_law_box") (cdv := cdv) (A := A) (outer := outer) (s := s) (H := H) (E := E)
  have hu := hu64 hr
  have hu5 := hu65 hr
  exact (gss_cons (gs_asg (ge_var (pv 1)) (gg_name (pg_name (i := 2) nd rfl (Or.inl rfl))))
    (gss_cons (gs_for po_of rfl (gi_seq ⟨rfl⟩ (ge_slice (slAny ⟨rfl⟩) (ge_var (pv 0)) go_none (go_some (ge_c pe_int)))) (gg_name (pg_name (i := 3) nd rfl (Or.inl rfl))) (gss_one (gs_asg (ge_bin opMod (ge_callTy cInt rfl (T.free 1) (by decide +kernel) (ga_cons (ge_bin (opAdd ⟨rfl⟩) (ge_bin (opAdd ⟨rfl⟩) (ge_bin opMul (ge_var (pv 2)) (ge_c pe_int)) (ge_bin opMod (ge_callTy cInt rfl (T.free 1) (by decide +kernel) (ga_cons (ge_var (pv 3)) ga_nil)) (ge_c pe_int))) (ge_c pe_int)) ga_nil)) (ge_c pe_int)) (gg_name (pg_name (i := 2) nd rfl (Or.inl rfl))))))
    (gss_one (gs_ret (ge_lstC (ga_cons (ge_lc (own := [("cell", 3)]) (N := ["script", "own", "mixed", "cell"]) (sc := defScope s__law_box) rfl nd (gi_seq ⟨rfl⟩ (ge_slice (slAny ⟨rfl⟩) (ge_var (pv 0)) go_none (go_some (ge_c pe_int)))) rfl rfl (by decide +kernel) (fun _ _ _ _ _ => (gg_name (pg_name (i := 3) nd rfl (Or.inl rfl)))) (fun _ _ _ _ _ => gts_nil) (fun _ _ _ _ _ => (ge_callTy cInt rfl (T.free 1) (by decide +kernel) (ga_cons (ge_var (pv 3)) ga_nil)))) (ga_cons (ge_c pe_int) (ga_cons (ge_c pe_int) (ga_cons (ge_var (pv 2)) (ga_cons (ge_c pe_int) ga_nil))))))))))
theorem fg__law_box (T : Hx fa fn csX K mg) : FnG P w (gK K) mg base 1 "_law_box" s__law_box ["script", "own"] [] f__law_box := fg_of (T.glo 22) (fd__law_box T) sc__law_box (fb__law_box T)
theorem sc__law_take : FnScope ["box", "many", "cell", "digit", "step"] ["box", "many"] (defScope s__law_take) := ⟨rfl, rfl, rfl, by decide +kernel, rfl, by decide +kernel, by decide +kernel⟩
def b__law_take : DS :=
  (sSeq (sIf (tAnd' (tB' (eBin vEq (eBin vIx (eVar 0) (eC (.int 2))) (eC (.int 0)))) (tB' (eBin vLt (eBin vIx (eVar 0) (eC (.int 1))) (eFn vLen (aCons (eBin vIx (eVar 0) (eC (.int 0))) aNil))))) (sSeq (sAsg (eBin vIx (eBin vIx (eVar 0) (eC (.int 0))) (eBin vIx (eVar 0) (eC (.int 1)))) (gN 2))
    (sSeq (sSetIx (eBin vAdd (eBin vIx (eVar 0) (eC (.int 1))) (eC (.int 1))) (eVar 0) (eC (.int 1)))
    (sSeq (sSetIx (eBin vMod (eFn vInt (aCons (eBin vAdd (eBin vAdd (eBin vMul (eBin vIx (eVar 0) (eC (.int 3))) (eC (.int 48271))) (eBin vMul (eBin vMod (eFn vInt (aCons (eVar 2) aNil)) (eC (.int 2147483399))) (eC (.int 7)))) (eC (.int 13))) aNil)) (eC (.int 2147483587))) (eVar 0) (eC (.int 3)))
    (sIf (tB' (eBin vGe (eFn vAbs (aCons (eVar 2) aNil)) (eBin vPow (eC (.int 10)) (eC (.int 18))))) (sSetIx (eFn vAbs (aCons (eVar 2) aNil)) (eVar 0) (eC (.int 2))) sNop)))) sNop)
    (sSeq (sIf (tB' (eBin vGt (eBin vIx (eVar 0) (eC (.int 2))) (eC (.int 0)))) (sSeq (sAsg (eBin vMod (eFn vInt (aCons (eBin vIx (eVar 0) (eC (.int 2))) aNil)) (eVar 1)) (gN 3))
    (sSeq (sSetIx (eBin vDiv (eFn vInt (aCons (eBin vIx (eVar 0) (eC (.int 2))) aNil)) (eVar 1)) (eVar 0) (eC (.int 2)))
    (sRet (eVar 3)))) sNop)
    (sSeq (sSetIx (eBin vAdd (eBin vIx (eVar 0) (eC (.int 4))) (eC (.int 1))) (eVar 0) (eC (.int 4)))
    (sSeq (sAsg (eBin vMod (eFn vInt (aCons (eBin vAdd (eBin vIx (eVar 0) (eC (.int 3))) (eBin vMul (eBin vIx (eVar 0) (eC (.int 4))) (eC (.int 6007)))) aNil)) (eC (.int 2147483587))) (gN 4))
    (sSeq (sSetIx (eBin vMod (eFn vInt (aCons (eBin vAdd (eBin vAdd (eBin vPow (eVar 4) (eC (.int 3))) (eBin vMul (eC (.int 30011)) (eVar 4))) (eC (.int 977))) aNil)) (eC (.int 2147483587))) (eVar 0) (eC (.int 3)))
    (sRet (eBin vMod (eFn vInt (aCons (eBin vAdd (eBin vDiv (eBin vIx (eVar 0) (eC (.int 3))) (eC (.int 59))) (eBin vMul (eBin vMod (eFn vInt (aCons (eBin vIx (eVar 0) (eC (.int 3))) aNil)) (eC (.int 7919))) (eC (.int 37)))) aNil)) (eVar 1))))))))
def f__law_take : Fn := runF .fz 2 5 b__law_take
theorem ar__law_take : Ar f__law_take 2 := ar_run
theorem fd__law_take (T : Hx fa fn csX K mg) : ∃ fd, FunD (gK K).K "_law_take" "_law_take" (defArgs s__law_take) (defBody s__law_take) (defScope s__law_take) [] [] (He.ga K "_law_take") fd := T.def_ 15
theorem fb__law_take (T : Hx fa fn csX K mg) (cdv : Value) (A : Around) (outer : List Env) (s : Shared) (H : Hp) (E : XK) (hr : Room 0 (A.deeper (envOfC "_law_take" (defScope s__law_take) s.heap.objs.size (He.ga K "_law_take") cdv))) : GSs (gK K) (WF E) (cxOf (L2.CX P w) P w (gK K).K mg base ["box", "many", "cell", "digit", "step"] "_law_take" (defScope s__law_take) (He.ga K "_law_take") cdv A outer s H E) (defBody s__law_take) b__law_take := by
  have nd := sc__law_take.nd
  have tk := tk_of (P := P) (w := w) (K := (gK K).K) (mg := mg) (base := base) (N := ["box", "many", "cell", "digit", "step"]) (qual := "_law_take") (scope := defScope s__law_take) (f := He.ga K "_law_take") (cdv := cdv) (A := A) (outer := outer) (s := s) (H := H) (E := E)
  have hu := hu64 hr
  have hu5 := hu65 hr
  exact (gss_cons (gs_if (PW.pt (gw_and (gt_cmp (opEq ⟨rfl⟩ hu) (ge_ix (ixAny ⟨rfl⟩) (ge_var (pv 0)) (ge_c pe_int)) (ge_c pe_int) (nomark _)) (gw_and1 (gt_cmp opLt (ge_ix (ixAny ⟨rfl⟩) (ge_var (pv 0)) (ge_c pe_int)) (ge_callB (cLen ⟨rfl⟩) rfl (T.free 7) (by decide +kernel) (ga_cons (ge_ix (ixAny ⟨rfl⟩) (ge_var (pv 0)) (ge_c pe_int)) ga_nil)) (nomark _))))) (gss_cons (gs_asg (ge_ix (ixAny ⟨rfl⟩) (ge_ix (ixAny ⟨rfl⟩) (ge_var (pv 0)) (ge_c pe_int)) (ge_ix (ixAny ⟨rfl⟩) (ge_var (pv 0)) (ge_c pe_int))) (gg_name (pg_name (i := 2) nd rfl (Or.inl rfl))))
    (gss_cons (gs_setIx (ge_bin (opAdd ⟨rfl⟩) (ge_ix (ixAny ⟨rfl⟩) (ge_var (pv 0)) (ge_c pe_int)) (ge_c pe_int)) (ge_var (pv 0)) (ge_c pe_int))
    (gss_cons (gs_setIx (ge_bin opMod (ge_callTy cInt rfl (T.free 1) (by decide +kernel) (ga_cons (ge_bin (opAdd ⟨rfl⟩) (ge_bin (opAdd ⟨rfl⟩) (ge_bin opMul (ge_ix (ixAny ⟨rfl⟩) (ge_var (pv 0)) (ge_c pe_int)) (ge_c pe_int)) (ge_bin opMul (ge_bin opMod (ge_callTy cInt rfl (T.free 1) (by decide +kernel) (ga_cons (ge_var (pv 2)) ga_nil)) (ge_c pe_int)) (ge_c pe_int))) (ge_c pe_int)) ga_nil)) (ge_c pe_int)) (ge_var (pv 0)) (ge_c pe_int))
    (gss_one (gs_if (gt_cmp opGe (ge_callB cAbs rfl (T.free 9) (by decide +kernel) (ga_cons (ge_var (pv 2)) ga_nil)) (ge_bin opPow (ge_c pe_int) (ge_c pe_int)) (nomark _)) (gss_one (gs_setIx (ge_callB cAbs rfl (T.free 9) (by decide +kernel) (ga_cons (ge_var (pv 2)) ga_nil)) (ge_var (pv 0)) (ge_c pe_int))) gss_nil))))) gss_nil)
    (gss_cons (gs_if (gt_cmp opGt (ge_ix (ixAny ⟨rfl⟩) (ge_var (pv 0)) (ge_c pe_int)) (ge_c pe_int) (nomark _)) (gss_cons (gs_asg (ge_bin opMod (ge_callTy cInt rfl (T.free 1) (by decide +kernel) (ga_cons (ge_ix (ixAny ⟨rfl⟩) (ge_var (pv 0)) (ge_c pe_int)) ga_nil)) (ge_var (pv 1))) (gg_name (pg_name (i := 3) nd rfl (Or.inl rfl))))
    (gss_cons (gs_setIx (ge_bin opDiv (ge_callTy cInt rfl (T.free 1) (by decide +kernel) (ga_cons (ge_ix (ixAny ⟨rfl⟩) (ge_var (pv 0)) (ge_c pe_int)) ga_nil)) (ge_var (pv 1))) (ge_var (pv 0)) (ge_c pe_int))
    (gss_one (gs_ret (ge_var (pv 3)))))) gss_nil)
    (gss_cons (gs_setIx (ge_bin (opAdd ⟨rfl⟩) (ge_ix (ixAny ⟨rfl⟩) (ge_var (pv 0)) (ge_c pe_int)) (ge_c pe_int)) (ge_var (pv 0)) (ge_c pe_int))
    (gss_cons (gs_asg (ge_bin opMod (ge_callTy cInt rfl (T.free 1) (by decide +kernel) (ga_cons (ge_bin (opAdd ⟨rfl⟩) (ge_ix (ixAny ⟨rfl⟩) (ge_var (pv 0)) (ge_c pe_int)) (ge_bin opMul (ge_ix (ixAny ⟨rfl⟩) (ge_var (pv 0)) (ge_c pe_int)) (ge_c pe_int))) ga_nil)) (ge_c pe_int)) (gg_name (pg_name (i := 4) nd rfl (Or.inl rfl))))
    (gss_cons (gs_setIx (ge_bin opMod (ge_callTy cInt rfl (T.free 1) (by decide +kernel) (ga_cons (ge_bin (opAdd ⟨rfl⟩) (ge_bin (opAdd ⟨rfl⟩) (ge_bin opPow (ge_var (pv 4)) (ge_c pe_int)) (ge_bin opMul (ge_c pe_int) (ge_var (pv 4)))) (ge_c pe_int)) ga_nil)) (ge_c pe_int)) (ge_var (pv 0)) (ge_c pe_int))
    (gss_one (gs_ret (ge_bin opMod (ge_callTy cInt rfl (T.free 1) (by decide +kernel) (ga_cons (ge_bin (opAdd ⟨rfl⟩) (ge_bin opDiv (ge_ix (ixAny ⟨rfl⟩) (ge_var (pv 0)) (ge_c pe_int)) (ge_c pe_int)) (ge_bin opMul (ge_bin opMod (ge_callTy cInt rfl (T.free 1) (by decide +kernel) (ga_cons (ge_ix (ixAny ⟨rfl⟩) (ge_var (pv 0)) (ge_c pe_int)) ga_nil)) (ge_c pe_int)) (ge_c pe_int))) ga_nil)) (ge_var (pv 1))))))))))
theorem fg__law_take (T : Hx fa fn csX K mg) : FnG P w (gK K) mg base 1 "_law_take" s__law_take ["box", "many"] [] f__law_take := fg_of (T.glo 23) (fd__law_take T) sc__law_take (fb__law_take T)
theorem sc__law_pick : FnScope ["box", "some"] ["box", "some"] (defScope s__law_pick) := ⟨rfl, rfl, rfl, by decide +kernel, rfl, by decide +kernel, by decide +kernel⟩
def b__law_pick : DS :=
  (sRet (eBin vIx (eVar 1) (eCall f__law_take (aCons (eVar 0) (aCons (eFn vLen (aCons (eVar 1) aNil)) aNil)))))
def f__law_pick : Fn := runF .fz 2 2 b__law_pick
theorem ar__law_pick : Ar f__law_pick 2 := ar_run
theorem fd__law_pick (T : Hx fa fn csX K mg) : ∃ fd, FunD (gK K).K "_law_pick" "_law_pick" (defArgs s__law_pick) (defBody s__law_pick) (defScope s__law_pick) [] [] (He.ga K "_law_pick") fd := T.def_ 16
theorem fb__law_pick (T : Hx fa fn csX K mg) (cdv : Value) (A : Around) (outer : List Env) (s : Shared) (H : Hp) (E : XK) (hr : Room 1 (A.deeper (envOfC "_law_pick" (defScope s__law_pick) s.heap.objs.size (He.ga K "_law_pick") cdv))) : GSs (gK K) (WF E) (cxOf (L2.CX P w) P w (gK K).K mg base ["box", "some"] "_law_pick" (defScope s__law_pick) (He.ga K "_law_pick") cdv A outer s H E) (defBody s__law_pick) b__law_pick := by
  have nd := sc__law_pick.nd
  have tk := tk_of (P := P) (w := w) (K := (gK K).K) (mg := mg) (base := base) (N := ["box", "some"]) (qual := "_law_pick") (scope := defScope s__law_pick) (f := He.ga K "_law_pick") (cdv := cdv) (A := A) (outer := outer) (s := s) (H := H) (E := E)
  have hu := hu64 hr
  have hu5 := hu65 hr
  exact (gss_one (gs_ret (ge_ix (ixAny ⟨rfl⟩) (ge_var (pv 1)) (ge_call (fg__law_take T) rfl ar__law_take (hr.mono (by decide)) rfl tk (ga_cons (ge_var (pv 0)) (ga_cons (ge_callB (cLen ⟨rfl⟩) rfl (T.free 7) (by decide +kernel) (ga_cons (ge_var (pv 1)) ga_nil)) ga_nil)) rfl (fun _ _ _ _ _ _ us hl => match us, hl with | [_, _], _ => rfl)))))
theorem fg__law_pick (T : Hx fa fn csX K mg) : FnG P w (gK K) mg base 2 "_law_pick" s__law_pick ["box", "some"] [] f__law_pick := fg_of (T.glo 24) (fd__law_pick T) sc__law_pick (fb__law_pick T)
theorem sc__law_same : FnScope ["found", "due", "kinds", "k", "x"] ["found", "due"] (defScope s__law_same) := ⟨rfl, rfl, rfl, by decide +kernel, rfl, by decide +kernel, by decide +kernel⟩
def b__law_same (F : Fn) : DS :=
  (sSeq (sIf (tB' (eFn vIsi (aCons (eVar 1) (aCons (eTup (aCons (eC (.ty .lst)) (aCons (eC (.ty .tup)) aNil))) aNil)))) (sSeq (sIf (tOr' (tB' (eBin vNe (eFn vIsi (aCons (eVar 0) (aCons (eC (.ty .lst)) aNil))) (eFn vIsi (aCons (eVar 1) (aCons (eC (.ty .lst)) aNil))))) (tB' (eBin vNe (eFn vIsi (aCons (eVar 0) (aCons (eC (.ty .tup)) aNil))) (eFn vIsi (aCons (eVar 1) (aCons (eC (.ty .tup)) aNil)))))) (sRet (eC (.bl false))) sNop)
    (sRet (eAnd (eBin vEq (eFn vLen (aCons (eVar 0) aNil)) (eFn vLen (aCons (eVar 1) aNil))) (eFn vAll (aCons (eLc (iRng1' (aCons (eFn vLen (aCons (eVar 1) aNil)) aNil)) (gN 3) tYes' (eCall F (aCons (eBin vIx (eVar 0) (eVar 3)) (aCons (eBin vIx (eVar 1) (eVar 3)) aNil))) [3]) aNil))))) sNop)
    (sSeq (sAsg (eLc (iSeq (eTup (aCons (eVar 0) (aCons (eVar 1) aNil)))) (gN 4) tYes' (eLst (aCons (eFn vIsi (aCons (eVar 4) (aCons (eC (.ty .bl)) aNil))) (aCons (eFn vIsi (aCons (eVar 4) (aCons (eC (.ty .int)) aNil))) (aCons (eFn vIsi (aCons (eVar 4) (aCons (eC (.ty .str)) aNil))) (aCons (eFn vIsi (aCons (eVar 4) (aCons (eC (.ty .dct)) aNil))) (aCons (eBin vIs (eVar 4) (eC .non)) aNil)))))) [4]) (gN 2))
    (sRet (eAnd (eBin vEq (eBin vIx (eVar 2) (eC (.int 0))) (eBin vIx (eVar 2) (eC (.int 1)))) (eAnd (eNot (eFn vIsi (aCons (eVar 0) (aCons (eTup (aCons (eC (.ty .lst)) (aCons (eC (.ty .tup)) aNil))) aNil)))) (eBin vEq (eVar 0) (eVar 1)))))))
def f__law_same : Nat → Fn
  | 0 => fun _ _ => .stuck
  | k + 1 => runF .fz 2 5 (b__law_same (f__law_same k))
theorem ar__law_same : ∀ k, Ar (f__law_same k) 2
  | 0 => ar_stuck
  | _ + 1 => ar_run
theorem fd__law_same (T : Hx fa fn csX K mg) : ∃ fd, FunD (gK K).K "_law_same" "_law_same" (defArgs s__law_same) (defBody s__law_same) (defScope s__law_same) [] [] (He.ga K "_law_same") fd := T.def_ 17
theorem fg__law_same (T : Hx fa fn csX K mg) : ∀ k : Nat, FnG P w (gK K) mg base (0 + k) "_law_same" s__law_same ["found", "due"] [] (f__law_same k)
  | 0 => fg_stuck (T.glo 29) (fd__law_same T)
  | k + 1 => by
    have FG : FnG P w (gK K) mg base (0 + k) "_law_same" s__law_same ["found", "due"] [] (f__law_same k) := fg__law_same T k
    have AR := ar__law_same k
    refine fg_of (T.glo 29) (fd__law_same T) sc__law_same (fun cdv A outer s H E hr => ?_)
    have nd := sc__law_same.nd
    have tk := tk_of (P := P) (w := w) (K := (gK K).K) (mg := mg) (base := base) (N := ["found", "due", "kinds", "k", "x"]) (qual := "_law_same") (scope := defScope s__law_same) (f := He.ga K "_law_same") (cdv := cdv) (A := A) (outer := outer) (s := s) (H := H) (E := E)
    have hu := hu64 hr
    have hu5 := hu65 hr
    exact (gss_cons (gs_if (gt_val (ge_callB (cIsi ⟨rfl⟩) rfl (T.free 2) (by decide +kernel) (ga_cons (ge_var (pv 1)) (ga_cons (ge_tup (ga_cons (ge_ty .lst (T.free 25) rfl (by decide +kernel)) (ga_cons (ge_ty .tup (T.free 6) rfl (by decide +kernel)) ga_nil))) ga_nil)))) (gss_cons (gs_if (PW.pt (gw_or (gt_cmp (opNe ⟨rfl⟩ hu) (ge_callB (cIsi ⟨rfl⟩) rfl (T.free 2) (by decide +kernel) (ga_cons (ge_var (pv 0)) (ga_cons (ge_ty .lst (T.free 25) rfl (by decide +kernel)) ga_nil))) (ge_callB (cIsi ⟨rfl⟩) rfl (T.free 2) (by decide +kernel) (ga_cons (ge_var (pv 1)) (ga_cons (ge_ty .lst (T.free 25) rfl (by decide +kernel)) ga_nil))) (nomark _)) (gw_or1 (gt_cmp (opNe ⟨rfl⟩ hu) (ge_callB (cIsi ⟨rfl⟩) rfl (T.free 2) (by decide +kernel) (ga_cons (ge_var (pv 0)) (ga_cons (ge_ty .tup (T.free 6) rfl (by decide +kernel)) ga_nil))) (ge_callB (cIsi ⟨rfl⟩) rfl (T.free 2) (by decide +kernel) (ga_cons (ge_var (pv 1)) (ga_cons (ge_ty .tup (T.free 6) rfl (by decide +kernel)) ga_nil))) (nomark _))))) (gss_one (gs_ret (ge_c pe_bl))) gss_nil)
    (gss_one (gs_ret (ge_and (ge_cmp (opEq ⟨rfl⟩ hu) (ge_callB (cLen ⟨rfl⟩) rfl (T.free 7) (by decide +kernel) (ga_cons (ge_var (pv 0)) ga_nil)) (ge_callB (cLen ⟨rfl⟩) rfl (T.free 7) (by decide +kernel) (ga_cons (ge_var (pv 1)) ga_nil)) (nomark _)) (ge_one (ge_callB (cAll ⟨rfl⟩ rfl) rfl (T.free 26) (by decide +kernel) (ga_cons (ge_lc (own := [("k", 3)]) (N := ["found", "due", "kinds", "k", "x"]) (sc := defScope s__law_same) rfl nd (gi_rng1 rfl (T.free 19) (ga_cons (ge_callB (cLen ⟨rfl⟩) rfl (T.free 7) (by decide +kernel) (ga_cons (ge_var (pv 1)) ga_nil)) ga_nil)) rfl rfl (by decide +kernel) (fun _ _ _ _ _ => (gg_name (pg_name (i := 3) nd rfl (Or.inl rfl)))) (fun _ _ _ _ _ => gts_nil) (fun _ _ _ _ _ => (ge_call FG rfl AR hr rfl takes0 (ga_cons (ge_ix (ixAny ⟨rfl⟩) (ge_var (pv 0)) (ge_var (pv 3))) (ga_cons (ge_ix (ixAny ⟨rfl⟩) (ge_var (pv 1)) (ge_var (pv 3))) ga_nil)) rfl (fun _ _ _ _ _ _ us hl => match us, hl with | [_, _], _ => rfl)))) ga_nil))))))) gss_nil)
    (gss_cons (gs_setLc (own := [("x", 4)]) (N := ["found", "due", "kinds", "k", "x"]) (sc := defScope s__law_same) (i := 2) rfl nd rfl rfl (sw_true rfl rfl rfl (by decide +kernel)) (gi_seq ⟨rfl⟩ (ge_tup (ga_cons (ge_var (pv 0)) (ga_cons (ge_var (pv 1)) ga_nil)))) rfl rfl (by decide +kernel) (fun _ _ _ _ _ => (gg_name (pg_name (i := 4) nd rfl (Or.inl rfl)))) (fun _ _ _ _ _ => gts_nil) (fun _ _ _ _ _ => (ge_lst (ga_cons (ge_callB (cIsi ⟨rfl⟩) rfl (T.free 2) (by decide +kernel) (ga_cons (ge_var (pv 4)) (ga_cons (ge_ty .bl (T.free 3) rfl (by decide +kernel)) ga_nil))) (ga_cons (ge_callB (cIsi ⟨rfl⟩) rfl (T.free 2) (by decide +kernel) (ga_cons (ge_var (pv 4)) (ga_cons (ge_ty .int (T.free 1) rfl (by decide +kernel)) ga_nil))) (ga_cons (ge_callB (cIsi ⟨rfl⟩) rfl (T.free 2) (by decide +kernel) (ga_cons (ge_var (pv 4)) (ga_cons (ge_ty .str (T.free 27) rfl (by decide +kernel)) ga_nil))) (ga_cons (ge_callB (cIsi ⟨rfl⟩) rfl (T.free 2) (by decide +kernel) (ga_cons (ge_var (pv 4)) (ga_cons (ge_ty .dct (T.free 28) rfl (by decide +kernel)) ga_nil))) (ga_cons (ge_cmp opIs (ge_var (pv 4)) (ge_c pe_non) (nomark _)) ga_nil))))))))
    (gss_one (gs_ret (ge_and (ge_cmp (opEq ⟨rfl⟩ hu) (ge_ix (ixAny ⟨rfl⟩) (ge_var (pv 2)) (ge_c pe_int)) (ge_ix (ixAny ⟨rfl⟩) (ge_var (pv 2)) (ge_c pe_int)) (nomark _)) (ge_and (ge_not (ge_callB (cIsi ⟨rfl⟩) rfl (T.free 2) (by decide +kernel) (ga_cons (ge_var (pv 0)) (ga_cons (ge_tup (ga_cons (ge_ty .lst (T.free 25) rfl (by decide +kernel)) (ga_cons (ge_ty .tup (T.free 6) rfl (by decide +kernel)) ga_nil))) ga_nil)))) (ge_one (ge_cmp (opEq ⟨rfl⟩ hu) (ge_var (pv 0)) (ge_var (pv 1)) (nomark _)))))))))
theorem sc__law_fields : FnScope ["e"] ["e"] (defScope s__law_fields) := ⟨rfl, rfl, rfl, by decide +kernel, rfl, by decide +kernel, by decide +kernel⟩
theorem fd__law_fields (T : Hx fa fn csX K mg) : ∃ fd, FunD (gK K).K "_law_fields" "_law_fields" (defArgs s__law_fields) (defBody s__law_fields) (defScope s__law_fields) [] [] (He.ga K "_law_fields") fd := T.def_ 18
def b__law_fields : DS :=
  (sSeq (sIf (tB' (eBin vIn (eUn (vXf csL "code") (eVar 0)) (eTup (aCons (eC (.str "InvalidName")) (aCons (eC (.str "InvalidDirection")) aNil))))) (sRet (eTup (aCons (eUn (vXf csL "value") (eVar 0)) aNil))) sNop)
    (sSeq (sIf (tB' (eBin vIn (eUn (vXf csL "code") (eVar 0)) (eTup (aCons (eC (.str "PartsOverlap")) (aCons (eC (.str "PiecesOverlap")) aNil))))) (sRet (eTup (aCons (eUn (vXf csL "one") (eVar 0)) (aCons (eUn (vXf csL "other") (eVar 0)) aNil)))) sNop)
    (sSeq (sIf (tB' (eBin vIn (eUn (vXf csL "code") (eVar 0)) (eTup (aCons (eC (.str "DuplicateName")) (aCons (eC (.str "UnknownName")) aNil))))) (sRet (eTup (aCons (eUn (vXf csL "name") (eVar 0)) aNil))) sNop)
    (sSeq (sIf (tB' (eBin vIn (eUn (vXf csL "code") (eVar 0)) (eTup (aCons (eC (.str "TooMany")) (aCons (eC (.str "InvalidText")) aNil))))) (sRet (eIf (tB' (eBin vEq (eUn (vXf csL "code") (eVar 0)) (eC (.str "TooMany")))) (eTup (aCons (eUn (vXf csL "most") (eVar 0)) aNil)) (eTup (aCons (eUn (vXf csL "line") (eVar 0)) (aCons (eUn (vXf csL "why") (eVar 0)) aNil))))) sNop)
    (sRet (eIf (tB' (eBin vIn (eUn (vXf csL "code") (eVar 0)) (eTup (aCons (eC (.str "InvalidPart")) (aCons (eC (.str "Loose")) (aCons (eC (.str "InvalidWay")) (aCons (eC (.str "InvalidPiece")) (aCons (eC (.str "InvalidPeg")) (aCons (eC (.str "InvalidLot")) aNil))))))))) (eTup (aCons (eUn (vXf csL "at") (eVar 0)) aNil)) (eTup aNil)))))))
def f__law_fields : Fn := runF .fz 1 1 b__law_fields
theorem ff__law_fields (T : Hx fa fn csX K mg) : ∃ fd, FnF P w (gK K) mg base 1 (He.ga K "_law_fields") fd "e" f__law_fields ∧ Binds (gK K).K fd ["e"] [] ∧ PySem.W.keepIn (gK K).K (.ref (He.ga K "_law_fields")) = true := by
  obtain ⟨fd, F⟩ := fd__law_fields T
  refine ⟨fd, fnF_ok (N := ["e"]) F sc__law_fields (fun cdv A outer s H p d c hr hz hf => ?_), F.bindsN (fun _ _ _ _ _ _ us hl => match us, hl with | [_], _ => rfl), F.kp⟩
  have nd := sc__law_fields.nd
  have hu5 : (A.deeper (envOfC "_law_fields" (defScope s__law_fields) s.heap.objs.size (He.ga K "_law_fields") cdv)).units + 65 < cLine := by have := hr.un; omega
  have hu : (A.deeper (envOfC "_law_fields" (defScope s__law_fields) s.heap.objs.size (He.ga K "_law_fields") cdv)).units + 64 < cLine := by omega
  exact (gss_cons (gs_if (gt_cmp (opIn ⟨rfl⟩ hu5) (ge_xf ⟨rfl⟩ rfl (List.mem_singleton.mpr rfl) hz hf (T.xf rfl rfl rfl) (ge_var (pv 0))) (ge_tup (ga_cons (ge_c pe_str) (ga_cons (ge_c pe_str) ga_nil))) (by rfl)) (gss_one (gs_ret (ge_tup (ga_cons (ge_xf ⟨rfl⟩ rfl (List.mem_singleton.mpr rfl) hz hf (T.xf rfl rfl rfl) (ge_var (pv 0))) ga_nil)))) gss_nil)
    (gss_cons (gs_if (gt_cmp (opIn ⟨rfl⟩ hu5) (ge_xf ⟨rfl⟩ rfl (List.mem_singleton.mpr rfl) hz hf (T.xf rfl rfl rfl) (ge_var (pv 0))) (ge_tup (ga_cons (ge_c pe_str) (ga_cons (ge_c pe_str) ga_nil))) (by rfl)) (gss_one (gs_ret (ge_tup (ga_cons (ge_xf ⟨rfl⟩ rfl (List.mem_singleton.mpr rfl) hz hf (T.xf rfl rfl rfl) (ge_var (pv 0))) (ga_cons (ge_xf ⟨rfl⟩ rfl (List.mem_singleton.mpr rfl) hz hf (T.xf rfl rfl rfl) (ge_var (pv 0))) ga_nil))))) gss_nil)
    (gss_cons (gs_if (gt_cmp (opIn ⟨rfl⟩ hu5) (ge_xf ⟨rfl⟩ rfl (List.mem_singleton.mpr rfl) hz hf (T.xf rfl rfl rfl) (ge_var (pv 0))) (ge_tup (ga_cons (ge_c pe_str) (ga_cons (ge_c pe_str) ga_nil))) (by rfl)) (gss_one (gs_ret (ge_tup (ga_cons (ge_xf ⟨rfl⟩ rfl (List.mem_singleton.mpr rfl) hz hf (T.xf rfl rfl rfl) (ge_var (pv 0))) ga_nil)))) gss_nil)
    (gss_cons (gs_if (gt_cmp (opIn ⟨rfl⟩ hu5) (ge_xf ⟨rfl⟩ rfl (List.mem_singleton.mpr rfl) hz hf (T.xf rfl rfl rfl) (ge_var (pv 0))) (ge_tup (ga_cons (ge_c pe_str) (ga_cons (ge_c pe_str) ga_nil))) (by rfl)) (gss_one (gs_ret (ge_ifExp (gt_cmp (opEq ⟨rfl⟩ hu) (ge_xf ⟨rfl⟩ rfl (List.mem_singleton.mpr rfl) hz hf (T.xf rfl rfl rfl) (ge_var (pv 0))) (ge_c pe_str) (nomark _)) (ge_tup (ga_cons (ge_xf ⟨rfl⟩ rfl (List.mem_singleton.mpr rfl) hz hf (T.xf rfl rfl rfl) (ge_var (pv 0))) ga_nil)) (ge_tup (ga_cons (ge_xf ⟨rfl⟩ rfl (List.mem_singleton.mpr rfl) hz hf (T.xf rfl rfl rfl) (ge_var (pv 0))) (ga_cons (ge_xf ⟨rfl⟩ rfl (List.mem_singleton.mpr rfl) hz hf (T.xf rfl rfl rfl) (ge_var (pv 0))) ga_nil)))))) gss_nil)
    (gss_one (gs_ret (ge_ifExp (gt_cmp (opIn ⟨rfl⟩ hu5) (ge_xf ⟨rfl⟩ rfl (List.mem_singleton.mpr rfl) hz hf (T.xf rfl rfl rfl) (ge_var (pv 0))) (ge_tup (ga_cons (ge_c pe_str) (ga_cons (ge_c pe_str) (ga_cons (ge_c pe_str) (ga_cons (ge_c pe_str) (ga_cons (ge_c pe_str) (ga_cons (ge_c pe_str) ga_nil))))))) (by rfl)) (ge_tup (ga_cons (ge_xf ⟨rfl⟩ rfl (List.mem_singleton.mpr rfl) hz hf (T.xf rfl rfl rfl) (ge_var (pv 0))) ga_nil)) (ge_tup ga_nil))))))))
theorem sc__law_got : FnScope ["ask", "e"] ["ask"] (defScope s__law_got) := ⟨rfl, rfl, rfl, by decide +kernel, rfl, by decide +kernel, by decide +kernel⟩
theorem fd__law_got (T : Hx fa fn csX K mg) : ∃ fd, FunD (gK K).K "_law_got" "_law_got" (defArgs s__law_got) (defBody s__law_got) (defScope s__law_got) [] [] (He.ga K "_law_got") fd := T.def_ 19
def sb__law_got : List Stmt := match defBody s__law_got with
  | [.Try _ [.ExceptHandler _ _ b _] _ _ _] => b
  | _ => []
def fs__law_got : DS :=
  (sRet (eBin vAdd (eTup (aCons (eC (.str "no")) (aCons (eUn (vXf csL "code") (eVar 1)) aNil))) (eCallF f__law_fields (eVar 1))))
theorem hs__law_got {P : Program} {w : World} {K : PySem.W.Frag} {mg : Str → Option Value} {base : Heap} (T : Hx fa fn csX K mg) {k : Nat} (hk : 1 ≤ k + 1) (cdv : Value) (A : Around) (outer : List Env) (s : Shared) (H : Hp) (e d : Addr) (c : Nat) (oe : Obj) (pn : List (Addr × Obj)) (hr : Room (k + 1) (A.deeper (envOfC "_law_got" (defScope s__law_got) s.heap.objs.size (He.ga K "_law_got") cdv))) (hz : Zc (.ref ((gK K).cls c)) (some d) oe) (hf : ∃ vs, oe.data = .fields vs) :
    GSs (gX (gK K) e d c) (WF SD.E0) ((cxOf C8.CX0 P w (gK K).K mg base ["ask", "e"] "_law_got" (defScope s__law_got) (He.ga K "_law_got") cdv A outer s H C8.E0).suite e ((e, oe) :: pn)) (sb__law_got) fs__law_got := by
  obtain ⟨fdF, FF, bnF, kpF⟩ := ff__law_fields (P := P) (w := w) (base := base) T
  have nd := sc__law_got.nd
  have hr : Room 1 (A.deeper (envOfC "_law_got" (defScope s__law_got) s.heap.objs.size (He.ga K "_law_got") cdv)) := hr.mono hk
  have hu : (A.deeper (envOfC "_law_got" (defScope s__law_got) s.heap.objs.size (He.ga K "_law_got") cdv)).units + 64 < cLine := hu64 hr
  have hu5 : (A.deeper (envOfC "_law_got" (defScope s__law_got) s.heap.objs.size (He.ga K "_law_got") cdv)).units + 65 < cLine := hu65 hr
  exact (gss_one (gs_ret (ge_bin (opAdd ⟨rfl⟩) (ge_tup (ga_cons (ge_c pe_str) (ga_cons (ge_xf ⟨rfl⟩ rfl (List.mem_cons_self ..) hz hf (T.xf rfl rfl rfl) (ge_var (pv 1))) ga_nil))) (ge_callF FF rfl ⟨hr.dp, hr.un⟩ (List.mem_cons_self ..) hz hf rfl (T.glo 30) kpF bnF (ge_var (pv 1))))))
theorem sc__law_odd : FnScope ["box"] ["box"] (defScope s__law_odd) := ⟨rfl, rfl, rfl, by decide +kernel, rfl, by decide +kernel, by decide +kernel⟩
def b__law_odd : DS :=
  (sRet (eCall f__law_pick (aCons (eVar 0) (aCons (eLst (aCons (eC .non) (aCons (eC (.bl true)) (aCons (eC (.bl false)) (aCons (eC (.int 0)) (aCons (eUn vNeg (eC (.int 1))) (aCons (eC (.int 5)) (aCons (eC (.str "")) (aCons (eC (.str "A")) (aCons (eC (.str "ab1")) (aCons (eC (.str "abcdefg")) (aCons (eC (.str "a b")) (aCons (eC (.str "a\n")) (aCons (eTup aNil) (aCons (eLst aNil) (aCons eDct0 (aCons (eTup (aCons (eC (.str "a")) aNil)) (aCons (eLst (aCons (eC (.str "a")) aNil)) (aCons (eDct [((eC (.str "a")), (eC (.int 1)))]) (aCons (eTup (aCons (eC (.int 1)) (aCons (eC (.int 2)) aNil))) (aCons (eLst (aCons (eC (.int 0)) aNil)) (aCons (eTup (aCons (eC .non) aNil)) (aCons (eTup (aCons (eTup (aCons (eC (.int 0)) (aCons (eC (.int 0)) aNil))) (aCons (eTup (aCons (eC (.int 1)) (aCons (eC (.int 0)) aNil))) aNil))) aNil))))))))))))))))))))))) aNil))))
def f__law_odd : Fn := runF .fz 1 1 b__law_odd
theorem ar__law_odd : Ar f__law_odd 1 := ar_run
theorem fd__law_odd (T : Hx fa fn csX K mg) : ∃ fd, FunD (gK K).K "_law_odd" "_law_odd" (defArgs s__law_odd) (defBody s__law_odd) (defScope s__law_odd) [] [] (He.ga K "_law_odd") fd := T.def_ 20
theorem fb__law_odd (T : Hx fa fn csX K mg) (cdv : Value) (A : Around) (outer : List Env) (s : Shared) (H : Hp) (E : XK) (hr : Room 2 (A.deeper (envOfC "_law_odd" (defScope s__law_odd) s.heap.objs.size (He.ga K "_law_odd") cdv))) : GSs (gK K) (WF E) (cxOf (L2.CX P w) P w (gK K).K mg base ["box"] "_law_odd" (defScope s__law_odd) (He.ga K "_law_odd") cdv A outer s H E) (defBody s__law_odd) b__law_odd := by
  have nd := sc__law_odd.nd
  have tk := tk_of (P := P) (w := w) (K := (gK K).K) (mg := mg) (base := base) (N := ["box"]) (qual := "_law_odd") (scope := defScope s__law_odd) (f := He.ga K "_law_odd") (cdv := cdv) (A := A) (outer := outer) (s := s) (H := H) (E := E)
  have hu := hu64 hr
  have hu5 := hu65 hr
  exact (gss_one (gs_ret (ge_call (fg__law_pick T) rfl ar__law_pick (hr.mono (by decide)) rfl tk (ga_cons (ge_var (pv 0)) (ga_cons (ge_lst (ga_cons (ge_c pe_non) (ga_cons (ge_c pe_bl) (ga_cons (ge_c pe_bl) (ga_cons (ge_c pe_int) (ga_cons (ge_un unNeg (ge_c pe_int)) (ga_cons (ge_c pe_int) (ga_cons (ge_c pe_str) (ga_cons (ge_c pe_str) (ga_cons (ge_c pe_str) (ga_cons (ge_c pe_str) (ga_cons (ge_c pe_str) (ga_cons (ge_c pe_str) (ga_cons (ge_tup ga_nil) (ga_cons (ge_lst ga_nil) (ga_cons ge_dct0 (ga_cons (ge_tup (ga_cons (ge_c pe_str) ga_nil)) (ga_cons (ge_lst (ga_cons (ge_c pe_str) ga_nil)) (ga_cons (ge_dct (gps_cons (ge_c pe_str) (ge_c pe_int) gps_nil) (by simp) (by decide)) (ga_cons (ge_tup (ga_cons (ge_c pe_int) (ga_cons (ge_c pe_int) ga_nil))) (ga_cons (ge_lst (ga_cons (ge_c pe_int) ga_nil)) (ga_cons (ge_tup (ga_cons (ge_c pe_non) ga_nil)) (ga_cons (ge_tup (ga_cons (ge_tup (ga_cons (ge_c pe_int) (ga_cons (ge_c pe_int) ga_nil))) (ga_cons (ge_tup (ga_cons (ge_c pe_int) (ga_cons (ge_c pe_int) ga_nil))) ga_nil))) ga_nil))))))))))))))))))))))) ga_nil)) rfl (fun _ _ _ _ _ _ us hl => match us, hl with | [_, _], _ => rfl))))
theorem fg__law_odd (T : Hx fa fn csX K mg) : FnG P w (gK K) mg base 3 "_law_odd" s__law_odd ["box"] [] f__law_odd := fg_of (T.glo 31) (fd__law_odd T) sc__law_odd (fb__law_odd T)
theorem sc__law_gcd : FnScope ["one_z", "two_z", "low", "high"] ["one_z", "two_z"] (defScope s__law_gcd) := ⟨rfl, rfl, rfl, by decide +kernel, rfl, by decide +kernel, by decide +kernel⟩
def b__law_gcd : DS :=
  (sSeq (sPar 2 3 (aCons (eFn vAbs (aCons (eVar 0) aNil)) (aCons (eFn vAbs (aCons (eVar 1) aNil)) aNil)))
    (sSeq (sWhile (fun _ _ => 4096) (tB' (eBin vNe (eVar 2) (eC (.int 0)))) (sPar 2 3 (aCons (eBin vMod (eFn vInt (aCons (eVar 3) aNil)) (eFn vInt (aCons (eVar 2) aNil))) (aCons (eVar 2) aNil))))
    (sRet (eVar 3))))
def f__law_gcd : Fn := runF .fz 2 4 b__law_gcd
theorem ar__law_gcd : Ar f__law_gcd 2 := ar_run
theorem fd__law_gcd (T : Hx fa fn csX K mg) : ∃ fd, FunD (gK K).K "_law_gcd" "_law_gcd" (defArgs s__law_gcd) (defBody s__law_gcd) (defScope s__law_gcd) [] [] (He.ga K "_law_gcd") fd := T.def_ 21
theorem fb__law_gcd (T : Hx fa fn csX K mg) (cdv : Value) (A : Around) (outer : List Env) (s : Shared) (H : Hp) (E : XK) (hr : Room 0 (A.deeper (envOfC "_law_gcd" (defScope s__law_gcd) s.heap.objs.size (He.ga K "_law_gcd") cdv))) : GSs (gK K) (WF E) (cxOf (L2.CX P w) P w (gK K).K mg base ["one_z", "two_z", "low", "high"] "_law_gcd" (defScope s__law_gcd) (He.ga K "_law_gcd") cdv A outer s H E) (defBody s__law_gcd) b__law_gcd := by
  have nd := sc__law_gcd.nd
  have tk := tk_of (P := P) (w := w) (K := (gK K).K) (mg := mg) (base := base) (N := ["one_z", "two_z", "low", "high"]) (qual := "_law_gcd") (scope := defScope s__law_gcd) (f := He.ga K "_law_gcd") (cdv := cdv) (A := A) (outer := outer) (s := s) (H := H) (E := E)
  have hu := hu64 hr
  have hu5 := hu65 hr
  exact (gss_cons (gs_par (i := 2) (j := 3) rfl nd rfl rfl (by decide) rfl rfl (ga_cons (ge_callB cAbs rfl (T.free 9) (by decide +kernel) (ga_cons (ge_var (pv 0)) ga_nil)) (ga_cons (ge_callB cAbs rfl (T.free 9) (by decide +kernel) (ga_cons (ge_var (pv 1)) ga_nil)) ga_nil)))
    (gss_cons (gs_while po_of (gt_cmp (opNe ⟨rfl⟩ hu) (ge_var (pv 2)) (ge_c pe_int) (nomark _)) (gss_one (gs_par (i := 2) (j := 3) rfl nd rfl rfl (by decide) rfl rfl (ga_cons (ge_bin opMod (ge_callTy cInt rfl (T.free 1) (by decide +kernel) (ga_cons (ge_var (pv 3)) ga_nil)) (ge_callTy cInt rfl (T.free 1) (by decide +kernel) (ga_cons (ge_var (pv 2)) ga_nil))) (ga_cons (ge_var (pv 2)) ga_nil)))))
    (gss_one (gs_ret (ge_var (pv 3))))))
theorem fg__law_gcd (T : Hx fa fn csX K mg) : FnG P w (gK K) mg base 1 "_law_gcd" s__law_gcd ["one_z", "two_z"] [] f__law_gcd := fg_of (T.glo 32) (fd__law_gcd T) sc__law_gcd (fb__law_gcd T)
theorem sc__law_dir : FnScope ["box", "near", "way_z", "size", "u", "v", "by"] ["box"] (defScope s__law_dir) := ⟨rfl, rfl, rfl, by decide +kernel, rfl, by decide +kernel, by decide +kernel⟩
def b__law_dir : DS :=
  (sSeq (sAsg (eLst (aCons (eTup (aCons (eC (.int 1)) (aCons (eC (.int 0)) aNil))) (aCons (eTup (aCons (eC (.int 0)) (aCons (eC (.int 1)) aNil))) (aCons (eTup (aCons (eUn vNeg (eC (.int 1))) (aCons (eC (.int 0)) aNil))) (aCons (eTup (aCons (eC (.int 0)) (aCons (eUn vNeg (eC (.int 1))) aNil))) (aCons (eTup (aCons (eC (.int 1)) (aCons (eC (.int 1)) aNil))) (aCons (eTup (aCons (eUn vNeg (eC (.int 1))) (aCons (eC (.int 1)) aNil))) (aCons (eTup (aCons (eUn vNeg (eC (.int 1))) (aCons (eUn vNeg (eC (.int 1))) aNil))) (aCons (eTup (aCons (eC (.int 1)) (aCons (eUn vNeg (eC (.int 1))) aNil))) (aCons (eTup (aCons (eC (.int 2)) (aCons (eC (.int 1)) aNil))) (aCons (eTup (aCons (eUn vNeg (eC (.int 1))) (aCons (eC (.int 3)) aNil))) aNil))))))))))) (gN 1))
    (sSeq (sAsg (eCall f__law_take (aCons (eVar 0) (aCons (eC (.int 4)) aNil))) (gN 2))
    (sSeq (sIf (tB' (eBin vLt (eVar 2) (eC (.int 2)))) (sRet (eCall f__law_pick (aCons (eVar 0) (aCons (eVar 1) aNil)))) sNop)
    (sSeq (sAsg (eIf (tB' (eBin vEq (eVar 2) (eC (.int 2)))) (eC (.int 9)) (eC (.int 999))) (gN 3))
    (sSeq (sPar 4 5 (aCons (eBin vSub (eCall f__law_take (aCons (eVar 0) (aCons (eBin vAdd (eBin vMul (eC (.int 2)) (eVar 3)) (eC (.int 1))) aNil))) (eVar 3)) (aCons (eBin vSub (eCall f__law_take (aCons (eVar 0) (aCons (eBin vAdd (eBin vMul (eC (.int 2)) (eVar 3)) (eC (.int 1))) aNil))) (eVar 3)) aNil)))
    (sSeq (sAsg (eCall f__law_gcd (aCons (eVar 4) (aCons (eVar 5) aNil))) (gN 6))
    (sRet (eIf (tB' (eBin vGt (eVar 6) (eC (.int 0)))) (eTup (aCons (eBin vDiv (eVar 4) (eVar 6)) (aCons (eBin vDiv (eVar 5) (eVar 6)) aNil))) (eTup (aCons (eC (.int 0)) (aCons (eC (.int 1)) aNil)))))))))))
def f__law_dir : Fn := runF .fz 1 7 b__law_dir
theorem ar__law_dir : Ar f__law_dir 1 := ar_run
theorem fd__law_dir (T : Hx fa fn csX K mg) : ∃ fd, FunD (gK K).K "_law_dir" "_law_dir" (defArgs s__law_dir) (defBody s__law_dir) (defScope s__law_dir) [] [] (He.ga K "_law_dir") fd := T.def_ 22
theorem fb__law_dir (T : Hx fa fn csX K mg) (cdv : Value) (A : Around) (outer : List Env) (s : Shared) (H : Hp) (E : XK) (hr : Room 2 (A.deeper (envOfC "_law_dir" (defScope s__law_dir) s.heap.objs.size (He.ga K "_law_dir") cdv))) : GSs (gK K) (WF E) (cxOf (L2.CX P w) P w (gK K).K mg base ["box", "near", "way_z", "size", "u", "v", "by"] "_law_dir" (defScope s__law_dir) (He.ga K "_law_dir") cdv A outer s H E) (defBody s__law_dir) b__law_dir := by
  have nd := sc__law_dir.nd
  have tk := tk_of (P := P) (w := w) (K := (gK K).K) (mg := mg) (base := base) (N := ["box", "near", "way_z", "size", "u", "v", "by"]) (qual := "_law_dir") (scope := defScope s__law_dir) (f := He.ga K "_law_dir") (cdv := cdv) (A := A) (outer := outer) (s := s) (H := H) (E := E)
  have hu := hu64 hr
  have hu5 := hu65 hr
  exact (gss_cons (gs_asg (ge_lst (ga_cons (ge_tup (ga_cons (ge_c pe_int) (ga_cons (ge_c pe_int) ga_nil))) (ga_cons (ge_tup (ga_cons (ge_c pe_int) (ga_cons (ge_c pe_int) ga_nil))) (ga_cons (ge_tup (ga_cons (ge_un unNeg (ge_c pe_int)) (ga_cons (ge_c pe_int) ga_nil))) (ga_cons (ge_tup (ga_cons (ge_c pe_int) (ga_cons (ge_un unNeg (ge_c pe_int)) ga_nil))) (ga_cons (ge_tup (ga_cons (ge_c pe_int) (ga_cons (ge_c pe_int) ga_nil))) (ga_cons (ge_tup (ga_cons (ge_un unNeg (ge_c pe_int)) (ga_cons (ge_c pe_int) ga_nil))) (ga_cons (ge_tup (ga_cons (ge_un unNeg (ge_c pe_int)) (ga_cons (ge_un unNeg (ge_c pe_int)) ga_nil))) (ga_cons (ge_tup (ga_cons (ge_c pe_int) (ga_cons (ge_un unNeg (ge_c pe_int)) ga_nil))) (ga_cons (ge_tup (ga_cons (ge_c pe_int) (ga_cons (ge_c pe_int) ga_nil))) (ga_cons (ge_tup (ga_cons (ge_un unNeg (ge_c pe_int)) (ga_cons (ge_c pe_int) ga_nil))) ga_nil))))))))))) (gg_name (pg_name (i := 1) nd rfl (Or.inl rfl))))
    (gss_cons (gs_asg (ge_call (fg__law_take T) rfl ar__law_take (hr.mono (by decide)) rfl tk (ga_cons (ge_var (pv 0)) (ga_cons (ge_c pe_int) ga_nil)) rfl (fun _ _ _ _ _ _ us hl => match us, hl with | [_, _], _ => rfl)) (gg_name (pg_name (i := 2) nd rfl (Or.inl rfl))))
    (gss_cons (gs_if (gt_cmp opLt (ge_var (pv 2)) (ge_c pe_int) (nomark _)) (gss_one (gs_ret (ge_call (fg__law_pick T) rfl ar__law_pick (hr.mono (by decide)) rfl tk (ga_cons (ge_var (pv 0)) (ga_cons (ge_var (pv 1)) ga_nil)) rfl (fun _ _ _ _ _ _ us hl => match us, hl with | [_, _], _ => rfl)))) gss_nil)
    (gss_cons (gs_asg (ge_ifExp (gt_cmp (opEq ⟨rfl⟩ hu) (ge_var (pv 2)) (ge_c pe_int) (nomark _)) (ge_c pe_int) (ge_c pe_int)) (gg_name (pg_name (i := 3) nd rfl (Or.inl rfl))))
    (gss_cons (gs_par (i := 4) (j := 5) rfl nd rfl rfl (by decide) rfl rfl (ga_cons (ge_bin opSub (ge_call (fg__law_take T) rfl ar__law_take (hr.mono (by decide)) rfl tk (ga_cons (ge_var (pv 0)) (ga_cons (ge_bin (opAdd ⟨rfl⟩) (ge_bin opMul (ge_c pe_int) (ge_var (pv 3))) (ge_c pe_int)) ga_nil)) rfl (fun _ _ _ _ _ _ us hl => match us, hl with | [_, _], _ => rfl)) (ge_var (pv 3))) (ga_cons (ge_bin opSub (ge_call (fg__law_take T) rfl ar__law_take (hr.mono (by decide)) rfl tk (ga_cons (ge_var (pv 0)) (ga_cons (ge_bin (opAdd ⟨rfl⟩) (ge_bin opMul (ge_c pe_int) (ge_var (pv 3))) (ge_c pe_int)) ga_nil)) rfl (fun _ _ _ _ _ _ us hl => match us, hl with | [_, _], _ => rfl)) (ge_var (pv 3))) ga_nil)))
    (gss_cons (gs_asg (ge_call (fg__law_gcd T) rfl ar__law_gcd (hr.mono (by decide)) rfl tk (ga_cons (ge_var (pv 4)) (ga_cons (ge_var (pv 5)) ga_nil)) rfl (fun _ _ _ _ _ _ us hl => match us, hl with | [_, _], _ => rfl)) (gg_name (pg_name (i := 6) nd rfl (Or.inl rfl))))
    (gss_one (gs_ret (ge_ifExp (gt_cmp opGt (ge_var (pv 6)) (ge_c pe_int) (nomark _)) (ge_tup (ga_cons (ge_bin opDiv (ge_var (pv 4)) (ge_var (pv 6))) (ga_cons (ge_bin opDiv (ge_var (pv 5)) (ge_var (pv 6))) ga_nil))) (ge_tup (ga_cons (ge_c pe_int) (ga_cons (ge_c pe_int) ga_nil))))))))))))
theorem fg__law_dir (T : Hx fa fn csX K mg) : FnG P w (gK K) mg base 3 "_law_dir" s__law_dir ["box"] [] f__law_dir := fg_of (T.glo 33) (fd__law_dir T) sc__law_dir (fb__law_dir T)
theorem sc__law_cross : FnScope ["one_z", "two_z"] ["one_z", "two_z"] (defScope s__law_cross) := ⟨rfl, rfl, rfl, by decide +kernel, rfl, by decide +kernel, by decide +kernel⟩
def b__law_cross : DS :=
  (sRet (eBin vSub (eBin vMul (eBin vIx (eVar 0) (eC (.int 0))) (eBin vIx (eVar 1) (eC (.int 1)))) (eBin vMul (eBin vIx (eVar 0) (eC (.int 1))) (eBin vIx (eVar 1) (eC (.int 0))))))
def f__law_cross : Fn := runF .fz 2 2 b__law_cross
theorem ar__law_cross : Ar f__law_cross 2 := ar_run
theorem fd__law_cross (T : Hx fa fn csX K mg) : ∃ fd, FunD (gK K).K "_law_cross" "_law_cross" (defArgs s__law_cross) (defBody s__law_cross) (defScope s__law_cross) [] [] (He.ga K "_law_cross") fd := T.def_ 23
theorem fb__law_cross (T : Hx fa fn csX K mg) (cdv : Value) (A : Around) (outer : List Env) (s : Shared) (H : Hp) (E : XK) (hr : Room 0 (A.deeper (envOfC "_law_cross" (defScope s__law_cross) s.heap.objs.size (He.ga K "_law_cross") cdv))) : GSs (gK K) (WF E) (cxOf (L2.CX P w) P w (gK K).K mg base ["one_z", "two_z"] "_law_cross" (defScope s__law_cross) (He.ga K "_law_cross") cdv A outer s H E) (defBody s__law_cross) b__law_cross := by
  have nd := sc__law_cross.nd
  have tk := tk_of (P := P) (w := w) (K := (gK K).K) (mg := mg) (base := base) (N := ["one_z", "two_z"]) (qual := "_law_cross") (scope := defScope s__law_cross) (f := He.ga K "_law_cross") (cdv := cdv) (A := A) (outer := outer) (s := s) (H := H) (E := E)
  have hu := hu64 hr
  have hu5 := hu65 hr
  exact (gss_one (gs_ret (ge_bin opSub (ge_bin opMul (ge_ix (ixAny ⟨rfl⟩) (ge_var (pv 0)) (ge_c pe_int)) (ge_ix (ixAny ⟨rfl⟩) (ge_var (pv 1)) (ge_c pe_int))) (ge_bin opMul (ge_ix (ixAny ⟨rfl⟩) (ge_var (pv 0)) (ge_c pe_int)) (ge_ix (ixAny ⟨rfl⟩) (ge_var (pv 1)) (ge_c pe_int))))))
theorem fg__law_cross (T : Hx fa fn csX K mg) : FnG P w (gK K) mg base 1 "_law_cross" s__law_cross ["one_z", "two_z"] [] f__law_cross := fg_of (T.glo 34) (fd__law_cross T) sc__law_cross (fb__law_cross T)
theorem sc__law_is_whole : FnScope ["x"] ["x"] (defScope s__law_is_whole) := ⟨rfl, rfl, rfl, by decide +kernel, rfl, by decide +kernel, by decide +kernel⟩
def b__law_is_whole : DS :=
  (sRet (eAnd (eFn vIsi (aCons (eVar 0) (aCons (eC (.ty .int)) aNil))) (eNot (eFn vIsi (aCons (eVar 0) (aCons (eC (.ty .bl)) aNil))))))
def f__law_is_whole : Fn := runF .fz 1 1 b__law_is_whole
theorem ar__law_is_whole : Ar f__law_is_whole 1 := ar_run
theorem fd__law_is_whole (T : Hx fa fn csX K mg) : ∃ fd, FunD (gK K).K "_law_is_whole" "_law_is_whole" (defArgs s__law_is_whole) (defBody s__law_is_whole) (defScope s__law_is_whole) [] [] (He.ga K "_law_is_whole") fd := T.def_ 24
theorem fb__law_is_whole (T : Hx fa fn csX K mg) (cdv : Value) (A : Around) (outer : List Env) (s : Shared) (H : Hp) (E : XK) (hr : Room 0 (A.deeper (envOfC "_law_is_whole" (defScope s__law_is_whole) s.heap.objs.size (He.ga K "_law_is_whole") cdv))) : GSs (gK K) (WF E) (cxOf (L2.CX P w) P w (gK K).K mg base ["x"] "_law_is_whole" (defScope s__law_is_whole) (He.ga K "_law_is_whole") cdv A outer s H E) (defBody s__law_is_whole) b__law_is_whole := by
  have nd := sc__law_is_whole.nd
  have tk := tk_of (P := P) (w := w) (K := (gK K).K) (mg := mg) (base := base) (N := ["x"]) (qual := "_law_is_whole") (scope := defScope s__law_is_whole) (f := He.ga K "_law_is_whole") (cdv := cdv) (A := A) (outer := outer) (s := s) (H := H) (E := E)
  have hu := hu64 hr
  have hu5 := hu65 hr
  exact (gss_one (gs_ret (ge_and (ge_callB (cIsi ⟨rfl⟩) rfl (T.free 2) (by decide +kernel) (ga_cons (ge_var (pv 0)) (ga_cons (ge_ty .int (T.free 1) rfl (by decide +kernel)) ga_nil))) (ge_one (ge_not (ge_callB (cIsi ⟨rfl⟩) rfl (T.free 2) (by decide +kernel) (ga_cons (ge_var (pv 0)) (ga_cons (ge_ty .bl (T.free 3) rfl (by decide +kernel)) ga_nil))))))))
theorem fg__law_is_whole (T : Hx fa fn csX K mg) : FnG P w (gK K) mg base 1 "_law_is_whole" s__law_is_whole ["x"] [] f__law_is_whole := fg_of (T.glo 35) (fd__law_is_whole T) sc__law_is_whole (fb__law_is_whole T)
theorem sc__law_is_dir : FnScope ["x", "c"] ["x"] (defScope s__law_is_dir) := ⟨rfl, rfl, rfl, by decide +kernel, rfl, by decide +kernel, by decide +kernel⟩
def b__law_is_dir : DS :=
  (sRet (eAnd (eFn vIsi (aCons (eVar 0) (aCons (eC (.ty .tup)) aNil))) (eAnd (eBin vEq (eFn vLen (aCons (eVar 0) aNil)) (eC (.int 2))) (eAnd (eFn vAll (aCons (eLc (iSeq (eVar 0)) (gN 1) tYes' (eAnd (eCall f__law_is_whole (aCons (eVar 1) aNil)) (eAnd (eBin vLe (eUn vNeg (eC (.int 999))) (eVar 1)) (eBin vLe (eVar 1) (eC (.int 999))))) [1]) aNil)) (eBin vEq (eCall f__law_gcd (aCons (eBin vIx (eVar 0) (eC (.int 0))) (aCons (eBin vIx (eVar 0) (eC (.int 1))) aNil))) (eC (.int 1)))))))
def f__law_is_dir : Fn := runF .fz 1 2 b__law_is_dir
theorem ar__law_is_dir : Ar f__law_is_dir 1 := ar_run
theorem fd__law_is_dir (T : Hx fa fn csX K mg) : ∃ fd, FunD (gK K).K "_law_is_dir" "_law_is_dir" (defArgs s__law_is_dir) (defBody s__law_is_dir) (defScope s__law_is_dir) [] [] (He.ga K "_law_is_dir") fd := T.def_ 25
theorem fb__law_is_dir (T : Hx fa fn csX K mg) (cdv : Value) (A : Around) (outer : List Env) (s : Shared) (H : Hp) (E : XK) (hr : Room 1 (A.deeper (envOfC "_law_is_dir" (defScope s__law_is_dir) s.heap.objs.size (He.ga K "_law_is_dir") cdv))) : GSs (gK K) (WF E) (cxOf (L2.CX P w) P w (gK K).K mg base ["x", "c"] "_law_is_dir" (defScope s__law_is_dir) (He.ga K "_law_is_dir") cdv A outer s H E) (defBody s__law_is_dir) b__law_is_dir := by
  have nd := sc__law_is_dir.nd
  have tk := tk_of (P := P) (w := w) (K := (gK K).K) (mg := mg) (base := base) (N := ["x", "c"]) (qual := "_law_is_dir") (scope := defScope s__law_is_dir) (f := He.ga K "_law_is_dir") (cdv := cdv) (A := A) (outer := outer) (s := s) (H := H) (E := E)
  have hu := hu64 hr
  have hu5 := hu65 hr
  exact (gss_one (gs_ret (ge_and (ge_callB (cIsi ⟨rfl⟩) rfl (T.free 2) (by decide +kernel) (ga_cons (ge_var (pv 0)) (ga_cons (ge_ty .tup (T.free 6) rfl (by decide +kernel)) ga_nil))) (ge_and (ge_cmp (opEq ⟨rfl⟩ hu) (ge_callB (cLen ⟨rfl⟩) rfl (T.free 7) (by decide +kernel) (ga_cons (ge_var (pv 0)) ga_nil)) (ge_c pe_int) (nomark _)) (ge_and (ge_callB (cAll ⟨rfl⟩ rfl) rfl (T.free 26) (by decide +kernel) (ga_cons (ge_lc (own := [("c", 1)]) (N := ["x", "c"]) (sc := defScope s__law_is_dir) rfl nd (gi_seq ⟨rfl⟩ (ge_var (pv 0))) rfl rfl (by decide +kernel) (fun _ _ _ _ _ => (gg_name (pg_name (i := 1) nd rfl (Or.inl rfl)))) (fun _ _ _ _ _ => gts_nil) (fun _ _ _ _ _ => (ge_and (ge_call (fg__law_is_whole T) rfl ar__law_is_whole (hr.mono (by decide)) rfl takes0 (ga_cons (ge_var (pv 1)) ga_nil) rfl (fun _ _ _ _ _ _ us hl => match us, hl with | [_], _ => rfl)) (ge_and (ge_cmp opLe (ge_un unNeg (ge_c pe_int)) (ge_var (pv 1)) (nomark _)) (ge_one (ge_cmp opLe (ge_var (pv 1)) (ge_c pe_int) (nomark _))))))) ga_nil)) (ge_one (ge_cmp (opEq ⟨rfl⟩ hu) (ge_call (fg__law_gcd T) rfl ar__law_gcd (hr.mono (by decide)) rfl tk (ga_cons (ge_ix (ixAny ⟨rfl⟩) (ge_var (pv 0)) (ge_c pe_int)) (ga_cons (ge_ix (ixAny ⟨rfl⟩) (ge_var (pv 0)) (ge_c pe_int)) ga_nil)) rfl (fun _ _ _ _ _ _ us hl => match us, hl with | [_, _], _ => rfl)) (ge_c pe_int) (nomark _))))))))
theorem fg__law_is_dir (T : Hx fa fn csX K mg) : FnG P w (gK K) mg base 2 "_law_is_dir" s__law_is_dir ["x"] [] f__law_is_dir := fg_of (T.glo 36) (fd__law_is_dir T) sc__law_is_dir (fb__law_is_dir T)
theorem sc__law_ahead : FnScope ["d", "e", "first", "second", "x"] ["d", "e"] (defScope s__law_ahead) := ⟨rfl, rfl, rfl, by decide +kernel, rfl, by decide +kernel, by decide +kernel⟩
def b__law_ahead : DS :=
  (sSeq (sAsg (eLc (iSeq (eTup (aCons (eVar 0) (aCons (eVar 1) aNil)))) (gN 4) tYes' (eIf (tOr' (tB' (eBin vGt (eBin vIx (eVar 4) (eC (.int 1))) (eC (.int 0)))) (tAnd' (tB' (eBin vEq (eBin vIx (eVar 4) (eC (.int 1))) (eC (.int 0)))) (tB' (eBin vGt (eBin vIx (eVar 4) (eC (.int 0))) (eC (.int 0)))))) (eC (.int 0)) (eC (.int 1))) [4]) (gUnl' (gCons' (gN 2) (gCons' (gN 3) gNil')) 2))
    (sRet (eIf (tB' (eBin vNe (eVar 2) (eVar 3))) (eBin vLt (eVar 2) (eVar 3)) (eBin vGt (eCall f__law_cross (aCons (eVar 0) (aCons (eVar 1) aNil))) (eC (.int 0))))))
def f__law_ahead : Fn := runF .fz 2 5 b__law_ahead
theorem ar__law_ahead : Ar f__law_ahead 2 := ar_run
theorem fd__law_ahead (T : Hx fa fn csX K mg) : ∃ fd, FunD (gK K).K "_law_ahead" "_law_ahead" (defArgs s__law_ahead) (defBody s__law_ahead) (defScope s__law_ahead) [] [] (He.ga K "_law_ahead") fd := T.def_ 26
theorem fb__law_ahead (T : Hx fa fn csX K mg) (cdv : Value) (A : Around) (outer : List Env) (s : Shared) (H : Hp) (E : XK) (hr : Room 1 (A.deeper (envOfC "_law_ahead" (defScope s__law_ahead) s.heap.objs.size (He.ga K "_law_ahead") cdv))) : GSs (gK K) (WF E) (cxOf (L2.CX P w) P w (gK K).K mg base ["d", "e", "first", "second", "x"] "_law_ahead" (defScope s__law_ahead) (He.ga K "_law_ahead") cdv A outer s H E) (defBody s__law_ahead) b__law_ahead := by
  have nd := sc__law_ahead.nd
  have tk := tk_of (P := P) (w := w) (K := (gK K).K) (mg := mg) (base := base) (N := ["d", "e", "first", "second", "x"]) (qual := "_law_ahead") (scope := defScope s__law_ahead) (f := He.ga K "_law_ahead") (cdv := cdv) (A := A) (outer := outer) (s := s) (H := H) (E := E)
  have hu := hu64 hr
  have hu5 := hu65 hr
  exact (gss_cons (gs_asg (ge_lc (own := [("x", 4)]) (N := ["d", "e", "first", "second", "x"]) (sc := defScope s__law_ahead) rfl nd (gi_seq ⟨rfl⟩ (ge_tup (ga_cons (ge_var (pv 0)) (ga_cons (ge_var (pv 1)) ga_nil)))) rfl rfl (by decide +kernel) (fun _ _ _ _ _ => (gg_name (pg_name (i := 4) nd rfl (Or.inl rfl)))) (fun _ _ _ _ _ => gts_nil) (fun _ _ _ _ _ => (ge_ifExp (PW.pt (gw_or (gt_cmp opGt (ge_ix (ixAny ⟨rfl⟩) (ge_var (pv 4)) (ge_c pe_int)) (ge_c pe_int) (nomark _)) (gw_or1 (PW.pt (gw_and (gt_cmp (opEq ⟨rfl⟩ hu) (ge_ix (ixAny ⟨rfl⟩) (ge_var (pv 4)) (ge_c pe_int)) (ge_c pe_int) (nomark _)) (gw_and1 (gt_cmp opGt (ge_ix (ixAny ⟨rfl⟩) (ge_var (pv 4)) (ge_c pe_int)) (ge_c pe_int) (nomark _)))))))) (ge_c pe_int) (ge_c pe_int)))) (gg_unl ⟨rfl⟩ rfl (ggs_cons (gg_name (pg_name (i := 2) nd rfl (Or.inl rfl))) (ggs_cons (gg_name (pg_name (i := 3) nd rfl (Or.inl rfl))) ggs_nil))))
    (gss_one (gs_ret (ge_ifExp (gt_cmp (opNe ⟨rfl⟩ hu) (ge_var (pv 2)) (ge_var (pv 3)) (nomark _)) (ge_cmp opLt (ge_var (pv 2)) (ge_var (pv 3)) (nomark _)) (ge_cmp opGt (ge_call (fg__law_cross T) rfl ar__law_cross (hr.mono (by decide)) rfl tk (ga_cons (ge_var (pv 0)) (ga_cons (ge_var (pv 1)) ga_nil)) rfl (fun _ _ _ _ _ _ us hl => match us, hl with | [_, _], _ => rfl)) (ge_c pe_int) (nomark _))))))
theorem fg__law_ahead (T : Hx fa fn csX K mg) : FnG P w (gK K) mg base 2 "_law_ahead" s__law_ahead ["d", "e"] [] f__law_ahead := fg_of (T.glo 37) (fd__law_ahead T) sc__law_ahead (fb__law_ahead T)
theorem sc__law_round : FnScope ["some", "found", "d", "e"] ["some"] (defScope s__law_round) := ⟨rfl, rfl, rfl, by decide +kernel, rfl, by decide +kernel, by decide +kernel⟩
def b__law_round : DS :=
  (sSeq (sAsg (eLstC aNil) (gN 1))
    (sSeq (sFor (iSeq (eVar 0)) (gN 2) (sIf (tB' (eBin vNotIn (eVar 2) (eVar 1))) (sExpr (eBm "list" mInsert (eVar 1) (aCons (eFn vLen (aCons (eLc (iSeq (eVar 1)) (gN 3) (tB' (eCall f__law_ahead (aCons (eVar 3) (aCons (eVar 2) aNil)))) (eVar 3) [3]) aNil)) (aCons (eVar 2) aNil)))) sNop))
    (sRet (eVar 1))))
def f__law_round : Fn := runF .fz 1 4 b__law_round
theorem ar__law_round : Ar f__law_round 1 := ar_run
theorem fd__law_round (T : Hx fa fn csX K mg) : ∃ fd, FunD (gK K).K "_law_round" "_law_round" (defArgs s__law_round) (defBody s__law_round) (defScope s__law_round) [] [] (He.ga K "_law_round") fd := T.def_ 27
theorem fb__law_round (T : Hx fa fn csX K mg) (cdv : Value) (A : Around) (outer : List Env) (s : Shared) (H : Hp) (E : XK) (hr : Room 2 (A.deeper (envOfC "_law_round" (defScope s__law_round) s.heap.objs.size (He.ga K "_law_round") cdv))) : GSs (gK K) (WF E) (cxOf (L2.CX P w) P w (gK K).K mg base ["some", "found", "d", "e"] "_law_round" (defScope s__law_round) (He.ga K "_law_round") cdv A outer s H E) (defBody s__law_round) b__law_round := by
  have nd := sc__law_round.nd
  have tk := tk_of (P := P) (w := w) (K := (gK K).K) (mg := mg) (base := base) (N := ["some", "found", "d", "e"]) (qual := "_law_round") (scope := defScope s__law_round) (f := He.ga K "_law_round") (cdv := cdv) (A := A) (outer := outer) (s := s) (H := H) (E := E)
  have hu := hu64 hr
  have hu5 := hu65 hr
  exact (gss_cons (gs_asg (ge_lstC ga_nil) (gg_name (pg_name (i := 1) nd rfl (Or.inl rfl))))
    (gss_cons (gs_for po_of rfl (gi_seq ⟨rfl⟩ (ge_var (pv 0))) (gg_name (pg_name (i := 2) nd rfl (Or.inr rfl))) (gss_one (gs_if (gt_cmp (opNotIn ⟨rfl⟩ hu5) (ge_var (pv 2)) (ge_var (pv 1)) (by rfl)) (gss_one (gs_expr (ge_bm (name' := "") ⟨rfl⟩ PySem.F.plainAttrs_list PySem.F.slot_list_insert PySem.F.type_list_insert mtInsert (ge_var (pv 1)) (ga_cons (ge_callB (cLen ⟨rfl⟩) rfl (T.free 7) (by decide +kernel) (ga_cons (ge_lc (own := [("e", 3)]) (N := ["some", "found", "d", "e"]) (sc := defScope s__law_round) rfl nd (gi_seq ⟨rfl⟩ (ge_var (pv 1))) rfl rfl (by decide +kernel) (fun _ _ _ _ _ => (gg_name (pg_name (i := 3) nd rfl (Or.inl rfl)))) (fun _ _ _ _ _ => (gts_one (gt_val (ge_call (fg__law_ahead T) rfl ar__law_ahead (hr.mono (by decide)) rfl takes0 (ga_cons (ge_var (pv 3)) (ga_cons (ge_var (pv 2)) ga_nil)) rfl (fun _ _ _ _ _ _ us hl => match us, hl with | [_, _], _ => rfl))))) (fun _ _ _ _ _ => (ge_var (pv 3)))) ga_nil)) (ga_cons (ge_var (pv 2)) ga_nil))))) gss_nil)))
    (gss_one (gs_ret (ge_var (pv 1))))))
theorem fg__law_round (T : Hx fa fn csX K mg) : FnG P w (gK K) mg base 3 "_law_round" s__law_round ["some"] [] f__law_round := fg_of (T.glo 38) (fd__law_round T) sc__law_round (fb__law_round T)
theorem sc__law_reduced_due : FnScope ["x", "by", "c"] ["x"] (defScope s__law_reduced_due) := ⟨rfl, rfl, rfl, by decide +kernel, rfl, by decide +kernel, by decide +kernel⟩
def b__law_reduced_due : DS :=
  (sSeq (sIf (tAnd' (tB' (eFn vIsi (aCons (eVar 0) (aCons (eC (.ty .tup)) aNil)))) (tAnd' (tB' (eBin vEq (eFn vLen (aCons (eVar 0) aNil)) (eC (.int 2)))) (tB' (eFn vAll (aCons (eLc (iSeq (eVar 0)) (gN 2) tYes' (eCall f__law_is_whole (aCons (eVar 2) aNil)) [2]) aNil))))) (sSeq (sAsg (eCall f__law_gcd (aCons (eBin vIx (eVar 0) (eC (.int 0))) (aCons (eBin vIx (eVar 0) (eC (.int 1))) aNil))) (gN 1))
    (sIf (tAnd' (tB' (eBin vGt (eVar 1) (eC (.int 0)))) (tB' (eCall f__law_is_dir (aCons (eTup (aCons (eBin vDiv (eBin vIx (eVar 0) (eC (.int 0))) (eVar 1)) (aCons (eBin vDiv (eBin vIx (eVar 0) (eC (.int 1))) (eVar 1)) aNil))) aNil)))) (sRet (eTup (aCons (eC (.str "told")) (aCons (eTup (aCons (eBin vDiv (eBin vIx (eVar 0) (eC (.int 0))) (eVar 1)) (aCons (eBin vDiv (eBin vIx (eVar 0) (eC (.int 1))) (eVar 1)) aNil))) aNil)))) sNop)) sNop)
    (sRet (eTup (aCons (eC (.str "no")) (aCons (eC (.str "InvalidDirection")) (aCons (eVar 0) aNil))))))
def f__law_reduced_due : Fn := runF .fz 1 3 b__law_reduced_due
theorem ar__law_reduced_due : Ar f__law_reduced_due 1 := ar_run
theorem fd__law_reduced_due (T : Hx fa fn csX K mg) : ∃ fd, FunD (gK K).K "_law_reduced_due" "_law_reduced_due" (defArgs s__law_reduced_due) (defBody s__law_reduced_due) (defScope s__law_reduced_due) [] [] (He.ga K "_law_reduced_due") fd := T.def_ 28
theorem fb__law_reduced_due (T : Hx fa fn csX K mg) (cdv : Value) (A : Around) (outer : List Env) (s : Shared) (H : Hp) (E : XK) (hr : Room 2 (A.deeper (envOfC "_law_reduced_due" (defScope s__law_reduced_due) s.heap.objs.size (He.ga K "_law_reduced_due") cdv))) : GSs (gK K) (WF E) (cxOf (L2.CX P w) P w (gK K).K mg base ["x", "by", "c"] "_law_reduced_due" (defScope s__law_reduced_due) (He.ga K "_law_reduced_due") cdv A outer s H E) (defBody s__law_reduced_due) b__law_reduced_due := by
  have nd := sc__law_reduced_due.nd
  have tk := tk_of (P := P) (w := w) (K := (gK K).K) (mg := mg) (base := base) (N := ["x", "by", "c"]) (qual := "_law_reduced_due") (scope := defScope s__law_reduced_due) (f := He.ga K "_law_reduced_due") (cdv := cdv) (A := A) (outer := outer) (s := s) (H := H) (E := E)
  have hu := hu64 hr
  have hu5 := hu65 hr
  exact (gss_cons (gs_if (PW.pt (gw_and (gt_val (ge_callB (cIsi ⟨rfl⟩) rfl (T.free 2) (by decide +kernel) (ga_cons (ge_var (pv 0)) (ga_cons (ge_ty .tup (T.free 6) rfl (by decide +kernel)) ga_nil)))) (gw_and (gt_cmp (opEq ⟨rfl⟩ hu) (ge_callB (cLen ⟨rfl⟩) rfl (T.free 7) (by decide +kernel) (ga_cons (ge_var (pv 0)) ga_nil)) (ge_c pe_int) (nomark _)) (gw_and1 (gt_val (ge_callB (cAll ⟨rfl⟩ rfl) rfl (T.free 26) (by decide +kernel) (ga_cons (ge_lc (own := [("c", 2)]) (N := ["x", "by", "c"]) (sc := defScope s__law_reduced_due) rfl nd (gi_seq ⟨rfl⟩ (ge_var (pv 0))) rfl rfl (by decide +kernel) (fun _ _ _ _ _ => (gg_name (pg_name (i := 2) nd rfl (Or.inl rfl)))) (fun _ _ _ _ _ => gts_nil) (fun _ _ _ _ _ => (ge_call (fg__law_is_whole T) rfl ar__law_is_whole (hr.mono (by decide)) rfl takes0 (ga_cons (ge_var (pv 2)) ga_nil) rfl (fun _ _ _ _ _ _ us hl => match us, hl with | [_], _ => rfl)))) ga_nil))))))) (gss_cons (gs_asg (ge_call (fg__law_gcd T) rfl ar__law_gcd (hr.mono (by decide)) rfl tk (ga_cons (ge_ix (ixAny ⟨rfl⟩) (ge_var (pv 0)) (ge_c pe_int)) (ga_cons (ge_ix (ixAny ⟨rfl⟩) (ge_var (pv 0)) (ge_c pe_int)) ga_nil)) rfl (fun _ _ _ _ _ _ us hl => match us, hl with | [_, _], _ => rfl)) (gg_name (pg_name (i := 1) nd rfl (Or.inl rfl))))
    (gss_one (gs_if (PW.pt (gw_and (gt_cmp opGt (ge_var (pv 1)) (ge_c pe_int) (nomark _)) (gw_and1 (gt_val (ge_call (fg__law_is_dir T) rfl ar__law_is_dir (hr.mono (by decide)) rfl tk (ga_cons (ge_tup (ga_cons (ge_bin opDiv (ge_ix (ixAny ⟨rfl⟩) (ge_var (pv 0)) (ge_c pe_int)) (ge_var (pv 1))) (ga_cons (ge_bin opDiv (ge_ix (ixAny ⟨rfl⟩) (ge_var (pv 0)) (ge_c pe_int)) (ge_var (pv 1))) ga_nil))) ga_nil) rfl (fun _ _ _ _ _ _ us hl => match us, hl with | [_], _ => rfl)))))) (gss_one (gs_ret (ge_tup (ga_cons (ge_c pe_str) (ga_cons (ge_tup (ga_cons (ge_bin opDiv (ge_ix (ixAny ⟨rfl⟩) (ge_var (pv 0)) (ge_c pe_int)) (ge_var (pv 1))) (ga_cons (ge_bin opDiv (ge_ix (ixAny ⟨rfl⟩) (ge_var (pv 0)) (ge_c pe_int)) (ge_var (pv 1))) ga_nil))) ga_nil))))) gss_nil))) gss_nil)
    (gss_one (gs_ret (ge_tup (ga_cons (ge_c pe_str) (ga_cons (ge_c pe_str) (ga_cons (ge_var (pv 0)) ga_nil)))))))
theorem fg__law_reduced_due (T : Hx fa fn csX K mg) : FnG P w (gK K) mg base 3 "_law_reduced_due" s__law_reduced_due ["x"] [] f__law_reduced_due := fg_of (T.glo 39) (fd__law_reduced_due T) sc__law_reduced_due (fb__law_reduced_due T)
theorem sc__law_pair : FnScope ["box", "d", "by", "great"] ["box"] (defScope s__law_pair) := ⟨rfl, rfl, rfl, by decide +kernel, rfl, by decide +kernel, by decide +kernel⟩
def b__law_pair : DS :=
  (sSeq (sPar 1 2 (aCons (eCall f__law_dir (aCons (eVar 0) aNil)) (aCons (eCall f__law_pick (aCons (eVar 0) (aCons (eLst (aCons (eC (.int 1)) (aCons (eC (.int 2)) (aCons (eC (.int 3)) (aCons (eC (.int 12)) (aCons (eBin vAdd (eC (.int 1)) (eCall f__law_take (aCons (eVar 0) (aCons (eBin vPow (eC (.int 10)) (eC (.int 5))) aNil)))) (aCons (eC (.int 0)) aNil))))))) aNil))) aNil)))
    (sSeq (sAsg (eTup (aCons (eBin vSub (eCall f__law_take (aCons (eVar 0) (aCons (eBin vPow (eC (.int 10)) (eC (.int 9))) aNil))) (eBin vPow (eC (.int 10)) (eC (.int 8)))) (aCons (eBin vSub (eBin vSub (eBin vPow (eC (.int 10)) (eC (.int 9))) (eC (.int 1))) (eCall f__law_take (aCons (eVar 0) (aCons (eBin vPow (eC (.int 10)) (eC (.int 9))) aNil)))) aNil))) (gN 3))
    (sRet (eCall f__law_pick (aCons (eVar 0) (aCons (eLst (aCons (eTup (aCons (eBin vMul (eBin vIx (eVar 1) (eC (.int 0))) (eVar 2)) (aCons (eBin vMul (eBin vIx (eVar 1) (eC (.int 1))) (eVar 2)) aNil))) (aCons (eTup (aCons (eBin vMul (eBin vIx (eVar 1) (eC (.int 0))) (eVar 2)) (aCons (eBin vMul (eBin vIx (eVar 1) (eC (.int 1))) (eVar 2)) aNil))) (aCons (eVar 3) (aCons (eTup (aCons (eC (.int 0)) (aCons (eC (.int 0)) aNil))) (aCons (eTup (aCons (eC (.int 0)) (aCons (eBin vSub (eC (.int 0)) (eVar 2)) aNil))) (aCons (eTup (aCons (eBin vMul (eC (.int 999)) (eVar 2)) (aCons (eVar 2) aNil))) (aCons (eTup (aCons (eBin vMul (eC (.int 1000)) (eVar 2)) (aCons (eVar 2) aNil))) aNil)))))))) aNil))))))
def f__law_pair : Fn := runF .fz 1 4 b__law_pair
theorem ar__law_pair : Ar f__law_pair 1 := ar_run
theorem fd__law_pair (T : Hx fa fn csX K mg) : ∃ fd, FunD (gK K).K "_law_pair" "_law_pair" (defArgs s__law_pair) (defBody s__law_pair) (defScope s__law_pair) [] [] (He.ga K "_law_pair") fd := T.def_ 29
theorem fb__law_pair (T : Hx fa fn csX K mg) (cdv : Value) (A : Around) (outer : List Env) (s : Shared) (H : Hp) (E : XK) (hr : Room 3 (A.deeper (envOfC "_law_pair" (defScope s__law_pair) s.heap.objs.size (He.ga K "_law_pair") cdv))) : GSs (gK K) (WF E) (cxOf (L2.CX P w) P w (gK K).K mg base ["box", "d", "by", "great"] "_law_pair" (defScope s__law_pair) (He.ga K "_law_pair") cdv A outer s H E) (defBody s__law_pair) b__law_pair := by
  have nd := sc__law_pair.nd
  have tk := tk_of (P := P) (w := w) (K := (gK K).K) (mg := mg) (base := base) (N := ["box", "d", "by", "great"]) (qual := "_law_pair") (scope := defScope s__law_pair) (f := He.ga K "_law_pair") (cdv := cdv) (A := A) (outer := outer) (s := s) (H := H) (E := E)
  have hu := hu64 hr
  have hu5 := hu65 hr
  exact (gss_cons (gs_par (i := 1) (j := 2) rfl nd rfl rfl (by decide) rfl rfl (ga_cons (ge_call (fg__law_dir T) rfl ar__law_dir (hr.mono (by decide)) rfl tk (ga_cons (ge_var (pv 0)) ga_nil) rfl (fun _ _ _ _ _ _ us hl => match us, hl with | [_], _ => rfl)) (ga_cons (ge_call (fg__law_pick T) rfl ar__law_pick (hr.mono (by decide)) rfl tk (ga_cons (ge_var (pv 0)) (ga_cons (ge_lst (ga_cons (ge_c pe_int) (ga_cons (ge_c pe_int) (ga_cons (ge_c pe_int) (ga_cons (ge_c pe_int) (ga_cons (ge_bin (opAdd ⟨rfl⟩) (ge_c pe_int) (ge_call (fg__law_take T) rfl ar__law_take (hr.mono (by decide)) rfl tk (ga_cons (ge_var (pv 0)) (ga_cons (ge_bin opPow (ge_c pe_int) (ge_c pe_int)) ga_nil)) rfl (fun _ _ _ _ _ _ us hl => match us, hl with | [_, _], _ => rfl))) (ga_cons (ge_c pe_int) ga_nil))))))) ga_nil)) rfl (fun _ _ _ _ _ _ us hl => match us, hl with | [_, _], _ => rfl)) ga_nil)))
    (gss_cons (gs_asg (ge_tup (ga_cons (ge_bin opSub (ge_call (fg__law_take T) rfl ar__law_take (hr.mono (by decide)) rfl tk (ga_cons (ge_var (pv 0)) (ga_cons (ge_bin opPow (ge_c pe_int) (ge_c pe_int)) ga_nil)) rfl (fun _ _ _ _ _ _ us hl => match us, hl with | [_, _], _ => rfl)) (ge_bin opPow (ge_c pe_int) (ge_c pe_int))) (ga_cons (ge_bin opSub (ge_bin opSub (ge_bin opPow (ge_c pe_int) (ge_c pe_int)) (ge_c pe_int)) (ge_call (fg__law_take T) rfl ar__law_take (hr.mono (by decide)) rfl tk (ga_cons (ge_var (pv 0)) (ga_cons (ge_bin opPow (ge_c pe_int) (ge_c pe_int)) ga_nil)) rfl (fun _ _ _ _ _ _ us hl => match us, hl with | [_, _], _ => rfl))) ga_nil))) (gg_name (pg_name (i := 3) nd rfl (Or.inl rfl))))
    (gss_one (gs_ret (ge_call (fg__law_pick T) rfl ar__law_pick (hr.mono (by decide)) rfl tk (ga_cons (ge_var (pv 0)) (ga_cons (ge_lst (ga_cons (ge_tup (ga_cons (ge_bin opMul (ge_ix (ixAny ⟨rfl⟩) (ge_var (pv 1)) (ge_c pe_int)) (ge_var (pv 2))) (ga_cons (ge_bin opMul (ge_ix (ixAny ⟨rfl⟩) (ge_var (pv 1)) (ge_c pe_int)) (ge_var (pv 2))) ga_nil))) (ga_cons (ge_tup (ga_cons (ge_bin opMul (ge_ix (ixAny ⟨rfl⟩) (ge_var (pv 1)) (ge_c pe_int)) (ge_var (pv 2))) (ga_cons (ge_bin opMul (ge_ix (ixAny ⟨rfl⟩) (ge_var (pv 1)) (ge_c pe_int)) (ge_var (pv 2))) ga_nil))) (ga_cons (ge_var (pv 3)) (ga_cons (ge_tup (ga_cons (ge_c pe_int) (ga_cons (ge_c pe_int) ga_nil))) (ga_cons (ge_tup (ga_cons (ge_c pe_int) (ga_cons (ge_bin opSub (ge_c pe_int) (ge_var (pv 2))) ga_nil))) (ga_cons (ge_tup (ga_cons (ge_bin opMul (ge_c pe_int) (ge_var (pv 2))) (ga_cons (ge_var (pv 2)) ga_nil))) (ga_cons (ge_tup (ga_cons (ge_bin opMul (ge_c pe_int) (ge_var (pv 2))) (ga_cons (ge_var (pv 2)) ga_nil))) ga_nil)))))))) ga_nil)) rfl (fun _ _ _ _ _ _ us hl => match us, hl with | [_, _], _ => rfl))))))
theorem fg__law_pair (T : Hx fa fn csX K mg) : FnG P w (gK K) mg base 4 "_law_pair" s__law_pair ["box"] [] f__law_pair := fg_of (T.glo 40) (fd__law_pair T) sc__law_pair (fb__law_pair T)
theorem sc_law : FnScope ["script", "box", "some", "handed", "due", "first", "turn", "d", "wanted", "x", "a", "b", "e", "k"] ["script"] (defScope s_law) := ⟨rfl, rfl, rfl, by decide +kernel, rfl, by decide +kernel, by decide +kernel⟩
def b_law : DS :=
  (sSeq (sAsg (eCall f__law_box (aCons (eVar 0) (aCons (eC (.int 120320203)) aNil))) (gN 1))
    (sSeq (sAsg (eLc (iRng1' (aCons (eCall f__law_take (aCons (eVar 1) (aCons (eC (.int 9)) aNil))) aNil)) (gN 13) tYes' (eCall f__law_dir (aCons (eVar 1) aNil)) [13]) (gN 2))
    (sSeq (sAsg (eBin vAdd (eVar 2) (eLc (iRng1' (aCons (eCall f__law_take (aCons (eVar 1) (aCons (eC (.int 3)) aNil))) aNil)) (gN 13) (tB' (eBin vNe (eVar 2) (eLst aNil))) (eCall f__law_pick (aCons (eVar 1) (aCons (eVar 2) aNil))) [13])) (gN 2))
    (sSeq (sAsg (eBin vAdd (eVar 2) (eLc (iSeq (eSl vSlc (eVar 2) oNone (oSome (eCall f__law_take (aCons (eVar 1) (aCons (eC (.int 4)) aNil)))))) (gN 7) tYes' (eTup (aCons (eBin vSub (eC (.int 0)) (eBin vIx (eVar 7) (eC (.int 0)))) (aCons (eBin vSub (eC (.int 0)) (eBin vIx (eVar 7) (eC (.int 1)))) aNil))) [7])) (gN 2))
    (sSeq (sAsg (eTup (aCons (eFn vList (aCons (eVar 2) aNil)) (aCons (eCall f__law_round (aCons (eVar 2) aNil)) aNil))) (gTup' (gCons' (gN 3) (gCons' (gN 4) gNil')) 2))
    (sSeq (sAsg (eCall f_in_round (aCons (eVar 3) aNil)) (gN 5))
    (sSeq (sIf (tNot' (tB' (eCall (f__law_same 6) (aCons (eLst (aCons (eVar 5) (aCons (eCallK f_in_round [0] 0 1 aNil (aCons (eFn vTuple (aCons (eVar 2) aNil)) aNil)) (aCons (eVar 3) aNil)))) (aCons (eLst (aCons (eVar 4) (aCons (eVar 4) (aCons (eVar 2) aNil)))) aNil))))) (sRet (eC (.bl false))) sNop)
    (sSeq (sExpr (eBm "list" mAppend (eVar 5) (aCons (eTup (aCons (eC (.int 1)) (aCons (eC (.int 0)) aNil))) aNil)))
    (sSeq (sIf (tNot' (tB' (eCall (f__law_same 6) (aCons (eCall f_in_round (aCons (eVar 3) aNil)) (aCons (eVar 4) aNil))))) (sRet (eC (.bl false))) sNop)
    (sSeq (sForT (iRng1' (aCons (eC (.int 8)) aNil)) (gN 6) (sSeq (sAsg (eCall f__law_pick (aCons (eVar 1) (aCons (eBin vAdd (eVar 2) (eLst (aCons (eCall f__law_dir (aCons (eVar 1) aNil)) (aCons (eCall f__law_dir (aCons (eVar 1) aNil)) (aCons (eTup (aCons (eC (.int 1)) (aCons (eC (.int 0)) aNil))) (aCons (eTup (aCons (eUn vNeg (eC (.int 1))) (aCons (eC (.int 0)) aNil))) aNil)))))) aNil))) (gN 7))
    (sSeq (sAsg (eCall f__law_pick (aCons (eVar 1) (aCons (eBin vAdd (eBin vMul (eLst (aCons (eVar 7) aNil)) (eC (.int 5))) (eLst (aCons (eCall f__law_odd (aCons (eVar 1) aNil)) (aCons (eTup (aCons (eC (.int 2)) (aCons (eC (.int 4)) aNil))) (aCons (eTup (aCons (eC (.int 0)) (aCons (eC (.int 0)) aNil))) (aCons (eTup (aCons (eC (.int 1000)) (aCons (eC (.int 1)) aNil))) (aCons (eTup (aCons (eC (.bl true)) (aCons (eC (.int 1)) aNil))) aNil))))))) aNil))) (gN 7))
    (sSeq (sAsg (eTup (aCons (eC (.str "no")) (aCons (eC (.str "InvalidDirection")) (aCons (eVar 7) aNil)))) (gN 8))
    (sSeq (sIf (tAnd' (tB' (eBin vNe (eVar 4) (eLst aNil))) (tB' (eCall f__law_is_dir (aCons (eVar 7) aNil)))) (sAsg (eTup (aCons (eC (.str "told")) (aCons (eIf (tB' (eBin vIn (eVar 7) (eVar 4))) (eVar 7) (eBin vIx (eBin vAdd (eLc (iSeq (eVar 4)) (gN 12) (tB' (eCall f__law_ahead (aCons (eVar 7) (aCons (eVar 12) aNil)))) (eVar 12) [12]) (eVar 4)) (eC (.int 0)))) aNil))) (gN 8)) sNop)
    (sSeq (sIf (tNot' (tB' (eCall (f__law_same 6) (aCons (eGot csL fs__law_got (eCall f_next_in_round (aCons (eVar 3) (aCons (eVar 7) aNil)))) (aCons (eVar 8) aNil))))) (sRet (eC (.bl false))) sNop)
    (sSeq (sIf (tNot' (tB' (eCall (f__law_same 6) (aCons (eGot csL fs__law_got (eCallK f_next_in_round [1, 0] 0 2 aNil (aCons (eVar 7) (aCons (eFn vTuple (aCons (eRev (eVar 4)) aNil)) aNil)))) (aCons (eVar 8) aNil))))) (sRet (eC (.bl false))) sNop)
    (sSeq (sAsg (eCall f__law_pick (aCons (eVar 1) (aCons (eBin vAdd (eBin vMul (eLst (aCons (eCall f__law_pair (aCons (eVar 1) aNil)) aNil)) (eC (.int 5))) (eLst (aCons (eCall f__law_pick (aCons (eVar 1) (aCons (eLst (aCons (eC .non) (aCons (eC (.int 7)) (aCons (eC (.str "ab")) (aCons (eTup (aCons (eC (.int 1)) aNil)) (aCons (eTup (aCons (eC (.int 1)) (aCons (eC (.int 2)) (aCons (eC (.int 3)) aNil)))) (aCons (eTup (aCons (eC (.bl true)) (aCons (eC (.int 2)) aNil))) (aCons (eTup (aCons (eC (.str "1")) (aCons (eC (.int 2)) aNil))) (aCons (eLst aNil) (aCons (eTup (aCons (eC (.int 2)) (aCons (eC .non) aNil))) (aCons (eLst (aCons (eC (.int 2)) (aCons (eC (.int 4)) aNil))) (aCons (eLst (aCons (eC (.int 1)) (aCons (eC (.int 0)) aNil))) aNil)))))))))))) aNil))) aNil))) aNil))) (gN 9))
    (sSeq (sIf (tNot' (tB' (eCall (f__law_same 6) (aCons (eLst (aCons (eGot csL fs__law_got (eCall f_reduced (aCons (eVar 9) aNil))) (aCons (eGot csL fs__law_got (eCallK f_reduced [0] 0 1 aNil (aCons (eVar 9) aNil))) aNil))) (aCons (eBin vMul (eLst (aCons (eCall f__law_reduced_due (aCons (eVar 9) aNil)) aNil)) (eC (.int 2))) aNil))))) (sRet (eC (.bl false))) sNop)
    (sSeq (sPar3 10 11 12 (aCons (eCall f__law_pair (aCons (eVar 1) aNil)) (aCons (eCall f__law_pair (aCons (eVar 1) aNil)) (aCons (eCall f__law_dir (aCons (eVar 1) aNil)) aNil))))
    (sSeq (sIf (tNot' (tB' (eCall (f__law_same 6) (aCons (eLst (aCons (eCall f_cross (aCons (eVar 10) (aCons (eVar 11) aNil))) (aCons (eCallK f_cross [1, 0] 0 2 aNil (aCons (eVar 10) (aCons (eVar 11) aNil))) aNil))) (aCons (eLst (aCons (eBin vSub (eBin vMul (eBin vIx (eVar 10) (eC (.int 0))) (eBin vIx (eVar 11) (eC (.int 1)))) (eBin vMul (eBin vIx (eVar 10) (eC (.int 1))) (eBin vIx (eVar 11) (eC (.int 0))))) (aCons (eBin vSub (eBin vMul (eBin vIx (eVar 11) (eC (.int 0))) (eBin vIx (eVar 10) (eC (.int 1)))) (eBin vMul (eBin vIx (eVar 11) (eC (.int 1))) (eBin vIx (eVar 10) (eC (.int 0))))) aNil))) aNil))))) (sRet (eC (.bl false))) sNop)
    (sIf (tNot' (tB' (eCall (f__law_same 6) (aCons (eLst (aCons (eCall f_turned_half (aCons (eVar 12) aNil)) (aCons (eCallK f_turned_half [0] 0 1 aNil (aCons (eCall f_turned_half (aCons (eVar 12) aNil)) aNil)) aNil))) (aCons (eLst (aCons (eTup (aCons (eBin vSub (eC (.int 0)) (eBin vIx (eVar 12) (eC (.int 0)))) (aCons (eBin vSub (eC (.int 0)) (eBin vIx (eVar 12) (eC (.int 1)))) aNil))) (aCons (eVar 12) aNil))) aNil))))) (sRet (eC (.bl false))) sNop))))))))))))
    (sRet (eBin vEq (eVar 3) (eVar 2)))))))))))))
def f_law : Fn := runF .fz 1 14 b_law
theorem ar_law : Ar f_law 1 := ar_run
theorem fd_law (T : Hx fa fn csX K mg) : ∃ fd, FunD (gK K).K "law" "law" (defArgs s_law) (defBody s_law) (defScope s_law) [] [] (He.ga K "law") fd := T.def_ 30
theorem fb_law (T : Hx fa fn csX K mg) (TBs : ∀ p ∈ tfX, LamX.TabB base mg (He.cT K p).1 (He.cT K p).2) (A : Around) (outer : List Env) (s : Shared) (H : Hp) (E : XK) (hr : Room 7 (A.deeper (envOfC "law" (defScope s_law) s.heap.objs.size (He.ga K "law") (.ref (He.codeOf K ("law", none)))))) : GSs (gK K) (WF E) (cxOf (L2.CX P w) P w (gK K).K mg base ["script", "box", "some", "handed", "due", "first", "turn", "d", "wanted", "x", "a", "b", "e", "k"] "law" (defScope s_law) (He.ga K "law") (.ref (He.codeOf K ("law", none))) A outer s H E) (defBody s_law) b_law := by
  obtain ⟨fd__law_got', F__law_got⟩ := fd__law_got T
  have bn__law_got := bn1 (a := "ask") F__law_got (fun _ _ _ _ _ _ us hl => match us, hl with | [_], _ => rfl)
  have nd := sc_law.nd
  have tk := tk_of (P := P) (w := w) (K := (gK K).K) (mg := mg) (base := base) (N := ["script", "box", "some", "handed", "due", "first", "turn", "d", "wanted", "x", "a", "b", "e", "k"]) (qual := "law") (scope := defScope s_law) (f := He.ga K "law") (cdv := (.ref (He.codeOf K ("law", none)))) (A := A) (outer := outer) (s := s) (H := H) (E := E)
  have hu := hu64 hr
  have hu5 := hu65 hr
  exact (gss_cons (gs_asg (ge_call (fg__law_box T) rfl ar__law_box (hr.mono (by decide)) rfl tk (ga_cons (ge_var (pv 0)) (ga_cons (ge_c pe_int) ga_nil)) rfl (fun _ _ _ _ _ _ us hl => match us, hl with | [_, _], _ => rfl)) (gg_name (pg_name (i := 1) nd rfl (Or.inr rfl))))
    (gss_cons (gs_asg (ge_lc (own := [("k", 13)]) (N := ["script", "box", "some", "handed", "due", "first", "turn", "d", "wanted", "x", "a", "b", "e", "k"]) (sc := defScope s_law) rfl nd (gi_rng1 rfl (T.free 19) (ga_cons (ge_call (fg__law_take T) rfl ar__law_take (hr.mono (by decide)) rfl tk (ga_cons (ge_var (pv 1)) (ga_cons (ge_c pe_int) ga_nil)) rfl (fun _ _ _ _ _ _ us hl => match us, hl with | [_, _], _ => rfl)) ga_nil)) rfl rfl (by decide +kernel) (fun _ _ _ _ _ => (gg_name (pg_name (i := 13) nd rfl (Or.inl rfl)))) (fun _ _ _ _ _ => gts_nil) (fun _ _ _ _ _ => (ge_call (fg__law_dir T) rfl ar__law_dir (hr.mono (by decide)) rfl takes0 (ga_cons (ge_var (pv 1)) ga_nil) rfl (fun _ _ _ _ _ _ us hl => match us, hl with | [_], _ => rfl)))) (gg_name (pg_name (i := 2) nd rfl (Or.inr rfl))))
    (gss_cons (gs_asg (ge_bin (opAdd ⟨rfl⟩) (ge_var (pv 2)) (ge_lc (own := [("k", 13)]) (N := ["script", "box", "some", "handed", "due", "first", "turn", "d", "wanted", "x", "a", "b", "e", "k"]) (sc := defScope s_law) rfl nd (gi_rng1 rfl (T.free 19) (ga_cons (ge_call (fg__law_take T) rfl ar__law_take (hr.mono (by decide)) rfl tk (ga_cons (ge_var (pv 1)) (ga_cons (ge_c pe_int) ga_nil)) rfl (fun _ _ _ _ _ _ us hl => match us, hl with | [_, _], _ => rfl)) ga_nil)) rfl rfl (by decide +kernel) (fun _ _ _ _ _ => (gg_name (pg_name (i := 13) nd rfl (Or.inl rfl)))) (fun _ _ _ _ _ => (gts_one (gt_cmp (opNe ⟨rfl⟩ hu) (ge_var (pv 2)) (ge_lst ga_nil) (nomark _)))) (fun _ _ _ _ _ => (ge_call (fg__law_pick T) rfl ar__law_pick (hr.mono (by decide)) rfl takes0 (ga_cons (ge_var (pv 1)) (ga_cons (ge_var (pv 2)) ga_nil)) rfl (fun _ _ _ _ _ _ us hl => match us, hl with | [_, _], _ => rfl))))) (gg_name (pg_name (i := 2) nd rfl (Or.inr rfl))))
    (gss_cons (gs_asg (ge_bin (opAdd ⟨rfl⟩) (ge_var (pv 2)) (ge_lc (own := [("d", 7)]) (N := ["script", "box", "some", "handed", "due", "first", "turn", "d", "wanted", "x", "a", "b", "e", "k"]) (sc := defScope s_law) rfl nd (gi_seq ⟨rfl⟩ (ge_slice (slAny ⟨rfl⟩) (ge_var (pv 2)) go_none (go_some (ge_call (fg__law_take T) rfl ar__law_take (hr.mono (by decide)) rfl tk (ga_cons (ge_var (pv 1)) (ga_cons (ge_c pe_int) ga_nil)) rfl (fun _ _ _ _ _ _ us hl => match us, hl with | [_, _], _ => rfl))))) rfl rfl (by decide +kernel) (fun _ _ _ _ _ => (gg_name (pg_name (i := 7) nd rfl (Or.inl rfl)))) (fun _ _ _ _ _ => gts_nil) (fun _ _ _ _ _ => (ge_tup (ga_cons (ge_bin opSub (ge_c pe_int) (ge_ix (ixAny ⟨rfl⟩) (ge_var (pv 7)) (ge_c pe_int))) (ga_cons (ge_bin opSub (ge_c pe_int) (ge_ix (ixAny ⟨rfl⟩) (ge_var (pv 7)) (ge_c pe_int))) ga_nil)))))) (gg_name (pg_name (i := 2) nd rfl (Or.inr rfl))))
    (gss_cons (gs_asg (ge_tup (ga_cons (ge_callTy (cList ⟨rfl⟩ rfl) rfl (T.free 25) (by decide +kernel) (ga_cons (ge_var (pv 2)) ga_nil)) (ga_cons (ge_call (fg__law_round T) rfl ar__law_round (hr.mono (by decide)) rfl tk (ga_cons (ge_var (pv 2)) ga_nil) rfl (fun _ _ _ _ _ _ us hl => match us, hl with | [_], _ => rfl)) ga_nil))) (gg_tup ⟨rfl⟩ rfl (ggs_cons (gg_name (pg_name (i := 3) nd rfl (Or.inr rfl))) (ggs_cons (gg_name (pg_name (i := 4) nd rfl (Or.inr rfl))) ggs_nil))))
    (gss_cons (gs_asg (ge_call (fg_in_round T) rfl ar_in_round (hr.mono (by decide)) rfl tk (ga_cons (ge_var (pv 3)) ga_nil) rfl (fun _ _ _ _ _ _ us hl => match us, hl with | [_], _ => rfl)) (gg_name (pg_name (i := 5) nd rfl (Or.inl rfl))))
    (gss_cons (gs_if (gt_not (gt_val (ge_call (fg__law_same T 6) rfl (ar__law_same 6) (hr.mono (by decide)) rfl tk (ga_cons (ge_lst (ga_cons (ge_var (pv 5)) (ga_cons (ge_callK0 (ix := [0]) (ks := ["directions"]) (fg_in_round T) rfl ar_in_round (hr.mono (by decide)) rfl tk (gk_cons (ge_callTy (cTuple ⟨rfl⟩) rfl (T.free 6) (by decide +kernel) (ga_cons (ge_var (pv 2)) ga_nil)) gk_nil) rfl (fun _ _ _ _ _ _ ws hl => match ws, hl with | [_], _ => rfl)) (ga_cons (ge_var (pv 3)) ga_nil)))) (ga_cons (ge_lst (ga_cons (ge_var (pv 4)) (ga_cons (ge_var (pv 4)) (ga_cons (ge_var (pv 2)) ga_nil)))) ga_nil)) rfl (fun _ _ _ _ _ _ us hl => match us, hl with | [_, _], _ => rfl)))) (gss_one (gs_ret (ge_c pe_bl))) gss_nil)
    (gss_cons (gs_expr (ge_bm (name' := "") ⟨rfl⟩ PySem.F.plainAttrs_list PySem.F.slot_list_append PySem.F.type_list_append mtAppend (ge_var (pv 5)) (ga_cons (ge_tup (ga_cons (ge_c pe_int) (ga_cons (ge_c pe_int) ga_nil))) ga_nil)))
    (gss_cons (gs_if (gt_not (gt_val (ge_call (fg__law_same T 6) rfl (ar__law_same 6) (hr.mono (by decide)) rfl tk (ga_cons (ge_call (fg_in_round T) rfl ar_in_round (hr.mono (by decide)) rfl tk (ga_cons (ge_var (pv 3)) ga_nil) rfl (fun _ _ _ _ _ _ us hl => match us, hl with | [_], _ => rfl)) (ga_cons (ge_var (pv 4)) ga_nil)) rfl (fun _ _ _ _ _ _ us hl => match us, hl with | [_, _], _ => rfl)))) (gss_one (gs_ret (ge_c pe_bl))) gss_nil)
    (gss_cons (gs_forT po_of rfl (gi_rng1 rfl (T.free 19) (ga_cons (ge_c pe_int) ga_nil)) (gg_name (pg_name (i := 6) nd rfl (Or.inl rfl))) (gss_cons (gs_asg (ge_call (fg__law_pick T) rfl ar__law_pick (hr.mono (by decide)) rfl tk (ga_cons (ge_var (pv 1)) (ga_cons (ge_bin (opAdd ⟨rfl⟩) (ge_var (pv 2)) (ge_lst (ga_cons (ge_call (fg__law_dir T) rfl ar__law_dir (hr.mono (by decide)) rfl tk (ga_cons (ge_var (pv 1)) ga_nil) rfl (fun _ _ _ _ _ _ us hl => match us, hl with | [_], _ => rfl)) (ga_cons (ge_call (fg__law_dir T) rfl ar__law_dir (hr.mono (by decide)) rfl tk (ga_cons (ge_var (pv 1)) ga_nil) rfl (fun _ _ _ _ _ _ us hl => match us, hl with | [_], _ => rfl)) (ga_cons (ge_tup (ga_cons (ge_c pe_int) (ga_cons (ge_c pe_int) ga_nil))) (ga_cons (ge_tup (ga_cons (ge_un unNeg (ge_c pe_int)) (ga_cons (ge_c pe_int) ga_nil))) ga_nil)))))) ga_nil)) rfl (fun _ _ _ _ _ _ us hl => match us, hl with | [_, _], _ => rfl)) (gg_name (pg_name (i := 7) nd rfl (Or.inr rfl))))
    (gss_cons (gs_asg (ge_call (fg__law_pick T) rfl ar__law_pick (hr.mono (by decide)) rfl tk (ga_cons (ge_var (pv 1)) (ga_cons (ge_bin (opAdd ⟨rfl⟩) (ge_bin opMul (ge_lst (ga_cons (ge_var (pv 7)) ga_nil)) (ge_c pe_int)) (ge_lst (ga_cons (ge_call (fg__law_odd T) rfl ar__law_odd (hr.mono (by decide)) rfl tk (ga_cons (ge_var (pv 1)) ga_nil) rfl (fun _ _ _ _ _ _ us hl => match us, hl with | [_], _ => rfl)) (ga_cons (ge_tup (ga_cons (ge_c pe_int) (ga_cons (ge_c pe_int) ga_nil))) (ga_cons (ge_tup (ga_cons (ge_c pe_int) (ga_cons (ge_c pe_int) ga_nil))) (ga_cons (ge_tup (ga_cons (ge_c pe_int) (ga_cons (ge_c pe_int) ga_nil))) (ga_cons (ge_tup (ga_cons (ge_c pe_bl) (ga_cons (ge_c pe_int) ga_nil))) ga_nil))))))) ga_nil)) rfl (fun _ _ _ _ _ _ us hl => match us, hl with | [_, _], _ => rfl)) (gg_name (pg_name (i := 7) nd rfl (Or.inr rfl))))
    (gss_cons (gs_asg (ge_tup (ga_cons (ge_c pe_str) (ga_cons (ge_c pe_str) (ga_cons (ge_var (pv 7)) ga_nil)))) (gg_name (pg_name (i := 8) nd rfl (Or.inl rfl))))
    (gss_cons (gs_if (PW.pt (gw_and (gt_cmp (opNe ⟨rfl⟩ hu) (ge_var (pv 4)) (ge_lst ga_nil) (nomark _)) (gw_and1 (gt_val (ge_call (fg__law_is_dir T) rfl ar__law_is_dir (hr.mono (by decide)) rfl tk (ga_cons (ge_var (pv 7)) ga_nil) rfl (fun _ _ _ _ _ _ us hl => match us, hl with | [_], _ => rfl)))))) (gss_one (gs_asg (ge_tup (ga_cons (ge_c pe_str) (ga_cons (ge_ifExp (gt_cmp (opIn ⟨rfl⟩ hu5) (ge_var (pv 7)) (ge_var (pv 4)) (by rfl)) (ge_var (pv 7)) (ge_ix (ixAny ⟨rfl⟩) (ge_bin (opAdd ⟨rfl⟩) (ge_lc (own := [("e", 12)]) (N := ["script", "box", "some", "handed", "due", "first", "turn", "d", "wanted", "x", "a", "b", "e", "k"]) (sc := defScope s_law) rfl nd (gi_seq ⟨rfl⟩ (ge_var (pv 4))) rfl rfl (by decide +kernel) (fun _ _ _ _ _ => (gg_name (pg_name (i := 12) nd rfl (Or.inl rfl)))) (fun _ _ _ _ _ => (gts_one (gt_val (ge_call (fg__law_ahead T) rfl ar__law_ahead (hr.mono (by decide)) rfl takes0 (ga_cons (ge_var (pv 7)) (ga_cons (ge_var (pv 12)) ga_nil)) rfl (fun _ _ _ _ _ _ us hl => match us, hl with | [_, _], _ => rfl))))) (fun _ _ _ _ _ => (ge_var (pv 12)))) (ge_var (pv 4))) (ge_c pe_int))) ga_nil))) (gg_name (pg_name (i := 8) nd rfl (Or.inl rfl))))) gss_nil)
    (gss_cons (gs_if (gt_not (gt_val (ge_call (fg__law_same T 6) rfl (ar__law_same 6) (hr.mono (by decide)) rfl tk (ga_cons (ge_got (k := 5) ⟨rfl⟩ rfl rfl (T.glo 41) F__law_got sc__law_got (by first | exact Or.inl rfl | exact Or.inr (Or.inl rfl)) rfl bn__law_got rfl rfl (T.glo 42) (T.glo 43) (T.xm rfl rfl rfl) (hs__law_got T (by decide)) (TBs ("law", none) (by decide)) rfl (List.mem_cons_self ..) (fun p hp _ => by cases List.mem_singleton.mp hp; rfl) (hr.mono (by decide)) (LamX.lamS_by (sc := defScope s_law) (by decide +kernel)) rfl (fun _ _ _ _ _ => rfl) (fun A outer s H E f c' hr => have hu := hu64 hr; have hu5 := hu65 hr; have tk := tk_lam; (ge_call (fg_next_in_round T) rfl ar_next_in_round (hr.mono (by decide)) rfl tk (ga_cons (ge_var (pv 3)) (ga_cons (ge_var (pv 7)) ga_nil)) rfl (fun _ _ _ _ _ _ us hl => match us, hl with | [_, _], _ => rfl)))) (ga_cons (ge_var (pv 8)) ga_nil)) rfl (fun _ _ _ _ _ _ us hl => match us, hl with | [_, _], _ => rfl)))) (gss_one (gs_ret (ge_c pe_bl))) gss_nil)
    (gss_cons (gs_if (gt_not (gt_val (ge_call (fg__law_same T 6) rfl (ar__law_same 6) (hr.mono (by decide)) rfl tk (ga_cons (ge_got (k := 5) ⟨rfl⟩ rfl rfl (T.glo 41) F__law_got sc__law_got (by first | exact Or.inl rfl | exact Or.inr (Or.inl rfl)) rfl bn__law_got rfl rfl (T.glo 42) (T.glo 43) (T.xm rfl rfl rfl) (hs__law_got T (by decide)) (TBs ("law", none) (by decide)) rfl (List.mem_cons_self ..) (fun p hp _ => by cases List.mem_singleton.mp hp; rfl) (hr.mono (by decide)) (LamX.lamS_by (sc := defScope s_law) (by decide +kernel)) rfl (fun _ _ _ _ _ => rfl) (fun A outer s H E f c' hr => have hu := hu64 hr; have hu5 := hu65 hr; have tk := tk_lam; (ge_callK0 (ix := [1, 0]) (ks := ["direction", "directions"]) (fg_next_in_round T) rfl ar_next_in_round (hr.mono (by decide)) rfl tk (gk_cons (ge_var (pv 7)) (gk_cons (ge_callTy (cTuple ⟨rfl⟩) rfl (T.free 6) (by decide +kernel) (ga_cons (ge_rev ⟨rfl⟩ (ge_var (pv 4))) ga_nil)) gk_nil)) rfl (fun _ _ _ _ _ _ ws hl => match ws, hl with | [_, _], _ => rfl)))) (ga_cons (ge_var (pv 8)) ga_nil)) rfl (fun _ _ _ _ _ _ us hl => match us, hl with | [_, _], _ => rfl)))) (gss_one (gs_ret (ge_c pe_bl))) gss_nil)
    (gss_cons (gs_asg (ge_call (fg__law_pick T) rfl ar__law_pick (hr.mono (by decide)) rfl tk (ga_cons (ge_var (pv 1)) (ga_cons (ge_bin (opAdd ⟨rfl⟩) (ge_bin opMul (ge_lst (ga_cons (ge_call (fg__law_pair T) rfl ar__law_pair (hr.mono (by decide)) rfl tk (ga_cons (ge_var (pv 1)) ga_nil) rfl (fun _ _ _ _ _ _ us hl => match us, hl with | [_], _ => rfl)) ga_nil)) (ge_c pe_int)) (ge_lst (ga_cons (ge_call (fg__law_pick T) rfl ar__law_pick (hr.mono (by decide)) rfl tk (ga_cons (ge_var (pv 1)) (ga_cons (ge_lst (ga_cons (ge_c pe_non) (ga_cons (ge_c pe_int) (ga_cons (ge_c pe_str) (ga_cons (ge_tup (ga_cons (ge_c pe_int) ga_nil)) (ga_cons (ge_tup (ga_cons (ge_c pe_int) (ga_cons (ge_c pe_int) (ga_cons (ge_c pe_int) ga_nil)))) (ga_cons (ge_tup (ga_cons (ge_c pe_bl) (ga_cons (ge_c pe_int) ga_nil))) (ga_cons (ge_tup (ga_cons (ge_c pe_str) (ga_cons (ge_c pe_int) ga_nil))) (ga_cons (ge_lst ga_nil) (ga_cons (ge_tup (ga_cons (ge_c pe_int) (ga_cons (ge_c pe_non) ga_nil))) (ga_cons (ge_lst (ga_cons (ge_c pe_int) (ga_cons (ge_c pe_int) ga_nil))) (ga_cons (ge_lst (ga_cons (ge_c pe_int) (ga_cons (ge_c pe_int) ga_nil))) ga_nil)))))))))))) ga_nil)) rfl (fun _ _ _ _ _ _ us hl => match us, hl with | [_, _], _ => rfl)) ga_nil))) ga_nil)) rfl (fun _ _ _ _ _ _ us hl => match us, hl with | [_, _], _ => rfl)) (gg_name (pg_name (i := 9) nd rfl (Or.inr rfl))))
    (gss_cons (gs_if (gt_not (gt_val (ge_call (fg__law_same T 6) rfl (ar__law_same 6) (hr.mono (by decide)) rfl tk (ga_cons (ge_lst (ga_cons (ge_got (k := 5) ⟨rfl⟩ rfl rfl (T.glo 41) F__law_got sc__law_got (by first | exact Or.inl rfl | exact Or.inr (Or.inl rfl)) rfl bn__law_got rfl rfl (T.glo 42) (T.glo 43) (T.xm rfl rfl rfl) (hs__law_got T (by decide)) (TBs ("law", none) (by decide)) rfl (List.mem_cons_self ..) (fun p hp _ => by cases List.mem_singleton.mp hp; rfl) (hr.mono (by decide)) (LamX.lamS_by (sc := defScope s_law) (by decide +kernel)) rfl (fun _ _ _ _ _ => rfl) (fun A outer s H E f c' hr => have hu := hu64 hr; have hu5 := hu65 hr; have tk := tk_lam; (ge_call (fg_reduced T) rfl ar_reduced (hr.mono (by decide)) rfl tk (ga_cons (ge_var (pv 9)) ga_nil) rfl (fun _ _ _ _ _ _ us hl => match us, hl with | [_], _ => rfl)))) (ga_cons (ge_got (k := 5) ⟨rfl⟩ rfl rfl (T.glo 41) F__law_got sc__law_got (by first | exact Or.inl rfl | exact Or.inr (Or.inl rfl)) rfl bn__law_got rfl rfl (T.glo 42) (T.glo 43) (T.xm rfl rfl rfl) (hs__law_got T (by decide)) (TBs ("law", none) (by decide)) rfl (List.mem_cons_self ..) (fun p hp _ => by cases List.mem_singleton.mp hp; rfl) (hr.mono (by decide)) (LamX.lamS_by (sc := defScope s_law) (by decide +kernel)) rfl (fun _ _ _ _ _ => rfl) (fun A outer s H E f c' hr => have hu := hu64 hr; have hu5 := hu65 hr; have tk := tk_lam; (ge_callK0 (ix := [0]) (ks := ["pair"]) (fg_reduced T) rfl ar_reduced (hr.mono (by decide)) rfl tk (gk_cons (ge_var (pv 9)) gk_nil) rfl (fun _ _ _ _ _ _ ws hl => match ws, hl with | [_], _ => rfl)))) ga_nil))) (ga_cons (ge_bin opMul (ge_lst (ga_cons (ge_call (fg__law_reduced_due T) rfl ar__law_reduced_due (hr.mono (by decide)) rfl tk (ga_cons (ge_var (pv 9)) ga_nil) rfl (fun _ _ _ _ _ _ us hl => match us, hl with | [_], _ => rfl)) ga_nil)) (ge_c pe_int)) ga_nil)) rfl (fun _ _ _ _ _ _ us hl => match us, hl with | [_, _], _ => rfl)))) (gss_one (gs_ret (ge_c pe_bl))) gss_nil)
    (gss_cons (gs_par3 (i := 10) (j := 11) (l := 12) rfl nd rfl rfl rfl (by decide) (by decide) (by decide) rfl rfl rfl (ga_cons (ge_call (fg__law_pair T) rfl ar__law_pair (hr.mono (by decide)) rfl tk (ga_cons (ge_var (pv 1)) ga_nil) rfl (fun _ _ _ _ _ _ us hl => match us, hl with | [_], _ => rfl)) (ga_cons (ge_call (fg__law_pair T) rfl ar__law_pair (hr.mono (by decide)) rfl tk (ga_cons (ge_var (pv 1)) ga_nil) rfl (fun _ _ _ _ _ _ us hl => match us, hl with | [_], _ => rfl)) (ga_cons (ge_call (fg__law_dir T) rfl ar__law_dir (hr.mono (by decide)) rfl tk (ga_cons (ge_var (pv 1)) ga_nil) rfl (fun _ _ _ _ _ _ us hl => match us, hl with | [_], _ => rfl)) ga_nil))))
    (gss_cons (gs_if (gt_not (gt_val (ge_call (fg__law_same T 6) rfl (ar__law_same 6) (hr.mono (by decide)) rfl tk (ga_cons (ge_lst (ga_cons (ge_call (fg_cross T) rfl ar_cross (hr.mono (by decide)) rfl tk (ga_cons (ge_var (pv 10)) (ga_cons (ge_var (pv 11)) ga_nil)) rfl (fun _ _ _ _ _ _ us hl => match us, hl with | [_, _], _ => rfl)) (ga_cons (ge_callK0 (ix := [1, 0]) (ks := ["other", "one"]) (fg_cross T) rfl ar_cross (hr.mono (by decide)) rfl tk (gk_cons (ge_var (pv 10)) (gk_cons (ge_var (pv 11)) gk_nil)) rfl (fun _ _ _ _ _ _ ws hl => match ws, hl with | [_, _], _ => rfl)) ga_nil))) (ga_cons (ge_lst (ga_cons (ge_bin opSub (ge_bin opMul (ge_ix (ixAny ⟨rfl⟩) (ge_var (pv 10)) (ge_c pe_int)) (ge_ix (ixAny ⟨rfl⟩) (ge_var (pv 11)) (ge_c pe_int))) (ge_bin opMul (ge_ix (ixAny ⟨rfl⟩) (ge_var (pv 10)) (ge_c pe_int)) (ge_ix (ixAny ⟨rfl⟩) (ge_var (pv 11)) (ge_c pe_int)))) (ga_cons (ge_bin opSub (ge_bin opMul (ge_ix (ixAny ⟨rfl⟩) (ge_var (pv 11)) (ge_c pe_int)) (ge_ix (ixAny ⟨rfl⟩) (ge_var (pv 10)) (ge_c pe_int))) (ge_bin opMul (ge_ix (ixAny ⟨rfl⟩) (ge_var (pv 11)) (ge_c pe_int)) (ge_ix (ixAny ⟨rfl⟩) (ge_var (pv 10)) (ge_c pe_int)))) ga_nil))) ga_nil)) rfl (fun _ _ _ _ _ _ us hl => match us, hl with | [_, _], _ => rfl)))) (gss_one (gs_ret (ge_c pe_bl))) gss_nil)
    (gss_one (gs_if (gt_not (gt_val (ge_call (fg__law_same T 6) rfl (ar__law_same 6) (hr.mono (by decide)) rfl tk (ga_cons (ge_lst (ga_cons (ge_call (fg_turned_half T) rfl ar_turned_half (hr.mono (by decide)) rfl tk (ga_cons (ge_var (pv 12)) ga_nil) rfl (fun _ _ _ _ _ _ us hl => match us, hl with | [_], _ => rfl)) (ga_cons (ge_callK0 (ix := [0]) (ks := ["direction"]) (fg_turned_half T) rfl ar_turned_half (hr.mono (by decide)) rfl tk (gk_cons (ge_call (fg_turned_half T) rfl ar_turned_half (hr.mono (by decide)) rfl tk (ga_cons (ge_var (pv 12)) ga_nil) rfl (fun _ _ _ _ _ _ us hl => match us, hl with | [_], _ => rfl)) gk_nil) rfl (fun _ _ _ _ _ _ ws hl => match ws, hl with | [_], _ => rfl)) ga_nil))) (ga_cons (ge_lst (ga_cons (ge_tup (ga_cons (ge_bin opSub (ge_c pe_int) (ge_ix (ixAny ⟨rfl⟩) (ge_var (pv 12)) (ge_c pe_int))) (ga_cons (ge_bin opSub (ge_c pe_int) (ge_ix (ixAny ⟨rfl⟩) (ge_var (pv 12)) (ge_c pe_int))) ga_nil))) (ga_cons (ge_var (pv 12)) ga_nil))) ga_nil)) rfl (fun _ _ _ _ _ _ us hl => match us, hl with | [_, _], _ => rfl)))) (gss_one (gs_ret (ge_c pe_bl))) gss_nil)))))))))))))
    (gss_one (gs_ret (ge_cmp (opEq ⟨rfl⟩ hu) (ge_var (pv 3)) (ge_var (pv 2)) (nomark _))))))))))))))
theorem fo_law (T : Hx fa fn csX K mg) (TBs : ∀ p ∈ tfX, LamX.TabB base mg (He.cT K p).1 (He.cT K p).2) : ∃ fd, FunD (gK K).K "law" "law" (defArgs s_law) (defBody s_law) (defScope s_law) [] [] (He.ga K "law") fd ∧ FnOk P w (gK K).K mg base (L2.CX P w) 8 (He.ga K "law") fd ["script"] (spF (gK K) f_law 1) := by
  obtain ⟨fd, F⟩ := fd_law T
  exact ⟨fd, F, gf_okC (p := ("law", none)) F sc_law (fb_law T TBs)⟩
end
end Lw

set_option Elab.async false
set_option linter.all false
set_option maxRecDepth 100000
set_option maxHeartbeats 4000000
/-! SD, the plain side: how the shallow functions are reckoned (by simp), step by step, no continuation is opened before its turn. -/
namespace SD
open PySem PySem.Spec PyProof.Rows L2

section
variable {α β : Type} {ρ : En} {μ μ1 : Sto} {d : DV}
@[simp] theorem of_some {a : α} : R.of (some a) μ = .ok a μ := rfl
@[simp] theorem of_none : (R.of none μ : R α) = .stuck := rfl
@[simp] theorem ofS_some {a : α} : R.ofS (some (a, μ)) = .ok a μ := rfl
@[simp] theorem ofS_none : (R.ofS none : R α) = .stuck := rfl
@[simp] theorem eC_ap : eC d ρ μ = .ok d μ := rfl
@[simp] theorem eVar_ap {i : Nat} : eVar i ρ μ = match ρ[i]? with
  | some (some d) => .ok d μ
  | _ => .stuck := rfl
/-! defunctionalised continuations -/
def R.un (f : V1) (r : R DV) : R DV := match r with
  | .ok x μ => R.of (f x μ) μ
  | .ex c ns xs μ => .ex c ns xs μ
  | .stuck => .stuck
def R.bin1 (f : V2) (r : R DV) (b : DE) (ρ : En) : R DV := r.bind fun x μ1 => (b ρ μ1).bind fun y μ2 => R.of (f x y μ2) μ2
def R.bin2 (f : V2) (x : DV) (r : R DV) : R DV := r.bind fun y μ2 => R.of (f x y μ2) μ2
@[simp] theorem eUn_ap {f : V1} {a : DE} : eUn f a ρ μ = R.un f (a ρ μ) := by unfold eUn R.un R.bind; cases a ρ μ <;> rfl
@[simp] theorem un_ok {f : V1} {x : DV} : R.un f (.ok x μ) = R.of (f x μ) μ := rfl
@[simp] theorem eBin_ap {f : V2} {a b : DE} : eBin f a b ρ μ = R.bin1 f (a ρ μ) b ρ := rfl
@[simp] theorem bin1_ok {f : V2} {x : DV} {b : DE} : R.bin1 f (.ok x μ) b ρ = R.bin2 f x (b ρ μ) := rfl
@[simp] theorem bin2_ok {f : V2} {x y : DV} : R.bin2 f x (.ok y μ) = R.of (f x y μ) μ := rfl
def R.tb (r : R DV) : R Bool := r.bind fun d μ1 => R.of (asB d) μ1
@[simp] theorem tB_ap {f : DE} : tB' f ρ μ = (f ρ μ).tb := rfl
@[simp] theorem tb_ok {b : Bool} : (R.ok (.bl b) μ).tb = .ok b μ := rfl
def R.ch1 (f f' : V2) (r : R DV) (b c : DE) (ρ : En) : R DV := r.bind fun x μ1 => (b ρ μ1).bind fun y μ2 => (R.of ((f x y μ2).bind asB) μ2).bind fun k μ3 =>
  if k = true then (c ρ μ3).bind fun z μ4 => R.of (f' y z μ4) μ4 else .ok (.bl false) μ3
def R.ch2 (f f' : V2) (x : DV) (r : R DV) (c : DE) (ρ : En) : R DV := r.bind fun y μ2 => (R.of ((f x y μ2).bind asB) μ2).bind fun k μ3 =>
  if k = true then (c ρ μ3).bind fun z μ4 => R.of (f' y z μ4) μ4 else .ok (.bl false) μ3
def R.ch3 (f' : V2) (y : DV) (r : R Bool) (c : DE) (ρ : En) : R DV := r.bind fun k μ3 => if k = true then (c ρ μ3).bind fun z μ4 => R.of (f' y z μ4) μ4 else .ok (.bl false) μ3
@[simp] theorem eChain_ap {f f' : V2} {a b c : DE} : eChain f f' a b c ρ μ = R.ch1 f f' (a ρ μ) b c ρ := rfl
@[simp] theorem ch1_ok {f f' : V2} {x : DV} {b c : DE} : R.ch1 f f' (.ok x μ) b c ρ = R.ch2 f f' x (b ρ μ) c ρ := rfl
@[simp] theorem ch2_ok {f f' : V2} {x y : DV} {c : DE} : R.ch2 f f' x (.ok y μ) c ρ = R.ch3 f' y (R.of ((f x y μ).bind asB) μ) c ρ := rfl
@[simp] theorem ch3_t {f' : V2} {y : DV} {c : DE} : R.ch3 f' y (.ok true μ) c ρ = R.bin2 f' y (c ρ μ) := rfl
@[simp] theorem ch3_f {f' : V2} {y : DV} {c : DE} : R.ch3 f' y (.ok false μ) c ρ = .ok (.bl false) μ := rfl
@[simp] theorem asB_bl {b : Bool} : asB (.bl b) = some b := rfl
def R.tand (r : R Bool) (u : DT) (ρ : En) : R Bool := r.bind fun b μ1 => if b = true then u ρ μ1 else .ok false μ1
def R.tor (r : R Bool) (u : DT) (ρ : En) : R Bool := r.bind fun b μ1 => if b = true then .ok true μ1 else u ρ μ1
def R.tnot (r : R Bool) : R Bool := r.bind fun b μ1 => .ok (!b) μ1
@[simp] theorem tAnd_ap {t u : DT} : tAnd' t u ρ μ = R.tand (t ρ μ) u ρ := rfl
@[simp] theorem tOr_ap {t u : DT} : tOr' t u ρ μ = R.tor (t ρ μ) u ρ := rfl
@[simp] theorem tNot_ap {t : DT} : tNot' t ρ μ = R.tnot (t ρ μ) := rfl
@[simp] theorem tand_t {u : DT} : R.tand (.ok true μ) u ρ = u ρ μ := rfl
@[simp] theorem tand_f {u : DT} : R.tand (.ok false μ) u ρ = .ok false μ := rfl
@[simp] theorem tor_t {u : DT} : R.tor (.ok true μ) u ρ = .ok true μ := rfl
@[simp] theorem tor_f {u : DT} : R.tor (.ok false μ) u ρ = u ρ μ := rfl
@[simp] theorem tnot_ok {b : Bool} : R.tnot (.ok b μ) = .ok (!b) μ := rfl
def R.eand (r : R DV) (b : DE) (ρ : En) : R DV := r.bind fun x μ1 => (R.of (asB x) μ1).bind fun k μ2 => if k = true then b ρ μ2 else .ok (.bl false) μ2
def R.eor (r : R DV) (b : DE) (ρ : En) : R DV := r.bind fun x μ1 => (R.of (asB x) μ1).bind fun k μ2 => if k = true then .ok (.bl true) μ2 else b ρ μ2
def R.enot (r : R DV) : R DV := r.bind fun x μ1 => (R.of (asB x) μ1).bind fun k μ2 => .ok (.bl (!k)) μ2
@[simp] theorem eAnd_ap {a b : DE} : eAnd a b ρ μ = R.eand (a ρ μ) b ρ := rfl
@[simp] theorem eOr_ap {a b : DE} : eOr a b ρ μ = R.eor (a ρ μ) b ρ := rfl
@[simp] theorem eNot_ap {a : DE} : eNot a ρ μ = R.enot (a ρ μ) := rfl
@[simp] theorem eand_t {b : DE} : R.eand (.ok (.bl true) μ) b ρ = b ρ μ := rfl
@[simp] theorem eand_f {b : DE} : R.eand (.ok (.bl false) μ) b ρ = .ok (.bl false) μ := rfl
@[simp] theorem eor_t {b : DE} : R.eor (.ok (.bl true) μ) b ρ = .ok (.bl true) μ := rfl
@[simp] theorem eor_f {b : DE} : R.eor (.ok (.bl false) μ) b ρ = b ρ μ := rfl
@[simp] theorem enot_ok {b : Bool} : R.enot (.ok (.bl b) μ) = .ok (.bl (!b)) μ := rfl
def R.eif (r : R Bool) (a b : DE) (ρ : En) : R DV := r.bind fun k μ1 => if k = true then a ρ μ1 else b ρ μ1
@[simp] theorem eIf_ap {t : DT} {a b : DE} : eIf t a b ρ μ = R.eif (t ρ μ) a b ρ := rfl
@[simp] theorem eif_t {a b : DE} : R.eif (.ok true μ) a b ρ = a ρ μ := rfl
@[simp] theorem eif_f {a b : DE} : R.eif (.ok false μ) a b ρ = b ρ μ := rfl
def R.ac1 (r : R DV) (q : DA) (ρ : En) : R (List DV) := r.bind fun x μ1 => (q ρ μ1).bind fun xs μ2 => .ok (x :: xs) μ2
def R.ac2 (x : DV) (r : R (List DV)) : R (List DV) := r.bind fun xs μ2 => .ok (x :: xs) μ2
@[simp] theorem aNil_ap : aNil ρ μ = .ok [] μ := rfl
@[simp] theorem aCons_ap {a : DE} {r : DA} : aCons a r ρ μ = R.ac1 (a ρ μ) r ρ := rfl
@[simp] theorem ac1_ok {x : DV} {r : DA} : R.ac1 (.ok x μ) r ρ = R.ac2 x (r ρ μ) := rfl
@[simp] theorem ac2_ok {x : DV} {xs : List DV} : R.ac2 x (.ok xs μ) = .ok (x :: xs) μ := rfl
def R.mk (f : List DV → Sto → R DV) (r : R (List DV)) : R DV := r.bind f
@[simp] theorem mk_ok {f : List DV → Sto → R DV} {xs : List DV} : R.mk f (.ok xs μ) = f xs μ := rfl
def mkT : List DV → Sto → R DV := fun xs μ1 => if okLen xs.length = true then .ok (.tup xs) μ1 else .stuck
def mkL : List DV → Sto → R DV := fun xs μ1 => if okLen xs.length = true then .ok (.lst xs) μ1 else .stuck
def mkC : List DV → Sto → R DV := fun xs μ1 => if okLen xs.length = true then .ok (.cell μ1.length) (μ1 ++ [.lst xs]) else .stuck
@[simp] theorem eTup_ap {r : DA} : eTup r ρ μ = R.mk mkT (r ρ μ) := rfl
@[simp] theorem eLst_ap {r : DA} : eLst r ρ μ = R.mk mkL (r ρ μ) := rfl
@[simp] theorem eLstC_ap {r : DA} : eLstC r ρ μ = R.mk mkC (r ρ μ) := rfl
theorem okLen_small {n : Nat} (h : n ≤ 16777216) : okLen n = true := okLen_iff.mpr (by rw [sizeLine_eq]; exact h)
theorem mkT_small {xs : List DV} (h : xs.length ≤ 16777216) : mkT xs μ = .ok (.tup xs) μ := if_pos (okLen_small h)
theorem mkL_small {xs : List DV} (h : xs.length ≤ 16777216) : mkL xs μ = .ok (.lst xs) μ := if_pos (okLen_small h)
theorem mkC_small {xs : List DV} (h : xs.length ≤ 16777216) : mkC xs μ = .ok (.cell μ.length) (μ ++ [.lst xs]) := if_pos (okLen_small h)
@[simp] theorem mkT0 : mkT [] μ = .ok (.tup []) μ := mkT_small (by decide)
@[simp] theorem mkL0 : mkL [] μ = .ok (.lst []) μ := mkL_small (by decide)
@[simp] theorem mkC0 : mkC [] μ = .ok (.cell μ.length) (μ ++ [.lst []]) := mkC_small (by decide)
@[simp] theorem mkT1 {a : DV} : mkT [a] μ = .ok (.tup [a]) μ := mkT_small (by show 1 ≤ _; decide)
@[simp] theorem mkT2 {a b : DV} : mkT [a, b] μ = .ok (.tup [a, b]) μ := mkT_small (by show 2 ≤ _; decide)
@[simp] theorem mkT3 {a b c : DV} : mkT [a, b, c] μ = .ok (.tup [a, b, c]) μ := mkT_small (by show 3 ≤ _; decide)
@[simp] theorem mkL1 {a : DV} : mkL [a] μ = .ok (.lst [a]) μ := mkL_small (by show 1 ≤ _; decide)
@[simp] theorem mkL2 {a b : DV} : mkL [a, b] μ = .ok (.lst [a, b]) μ := mkL_small (by show 2 ≤ _; decide)
@[simp] theorem mkL3 {a b c : DV} : mkL [a, b, c] μ = .ok (.lst [a, b, c]) μ := mkL_small (by show 3 ≤ _; decide)
@[simp] theorem eFn_ap {f : VN} {r : DA} : eFn f r ρ μ = R.mk (fun xs μ1 => R.of (f xs μ1) μ1) (r ρ μ) := rfl
@[simp] theorem eCall_ap {F : Fn} {r : DA} : eCall F r ρ μ = R.mk F (r ρ μ) := rfl
@[simp] theorem eCallD_ap {F : Fn} {ds : List DV} {r : DA} : eCallD F ds r ρ μ = R.mk (fun xs μ1 => F (xs ++ ds) μ1) (r ρ μ) := rfl
def R.ck1 (F : Fn) (ix : List Nat) (n m : Nat) (r : R (List DV)) (k : DA) (ρ : En) : R DV := r.bind fun xs μ1 => (k ρ μ1).bind fun ys μ2 => if xs.length = n ∧ ys.length = m then F (permL ix (xs ++ ys)) μ2 else .stuck
def R.ck2 (F : Fn) (ix : List Nat) (n m : Nat) (xs : List DV) (r : R (List DV)) : R DV := r.bind fun ys μ2 => if xs.length = n ∧ ys.length = m then F (permL ix (xs ++ ys)) μ2 else .stuck
@[simp] theorem eCallK_ap {F : Fn} {ix : List Nat} {n m : Nat} {r k : DA} : eCallK F ix n m r k ρ μ = R.ck1 F ix n m (r ρ μ) k ρ := rfl
@[simp] theorem ck1_ok {F : Fn} {ix : List Nat} {n m : Nat} {xs : List DV} {k : DA} : R.ck1 F ix n m (.ok xs μ) k ρ = R.ck2 F ix n m xs (k ρ μ) := rfl
@[simp] theorem ck2_ok {F : Fn} {ix : List Nat} {n m : Nat} {xs ys : List DV} : R.ck2 F ix n m xs (.ok ys μ) = if xs.length = n ∧ ys.length = m then F (permL ix (xs ++ ys)) μ else .stuck := rfl
def R.o1 (r : R DV) : R (Option Int) := r.bind fun x μ1 => (R.of (asI x) μ1).bind fun i μ2 => .ok (some i) μ2
@[simp] theorem oNone_ap : oNone ρ μ = .ok none μ := rfl
@[simp] theorem oSome_ap {a : DE} : oSome a ρ μ = R.o1 (a ρ μ) := rfl
@[simp] theorem o1_ok {i : Int} : R.o1 (.ok (.int i) μ) = .ok (some i) μ := rfl
def R.sl1 (f : VSl) (r : R DV) (lo hi : DO) (ρ : En) : R DV := r.bind fun x μ1 => (lo ρ μ1).bind fun l μ2 => (hi ρ μ2).bind fun u μ3 => R.of (f x l u μ3) μ3
def R.sl2 (f : VSl) (x : DV) (r : R (Option Int)) (hi : DO) (ρ : En) : R DV := r.bind fun l μ2 => (hi ρ μ2).bind fun u μ3 => R.of (f x l u μ3) μ3
def R.sl3 (f : VSl) (x : DV) (l : Option Int) (r : R (Option Int)) : R DV := r.bind fun u μ3 => R.of (f x l u μ3) μ3
@[simp] theorem eSl_ap {f : VSl} {a : DE} {lo hi : DO} : eSl f a lo hi ρ μ = R.sl1 f (a ρ μ) lo hi ρ := rfl
@[simp] theorem sl1_ok {f : VSl} {x : DV} {lo hi : DO} : R.sl1 f (.ok x μ) lo hi ρ = R.sl2 f x (lo ρ μ) hi ρ := rfl
@[simp] theorem sl2_ok {f : VSl} {x : DV} {l : Option Int} {hi : DO} : R.sl2 f x (.ok l μ) hi ρ = R.sl3 f x l (hi ρ μ) := rfl
@[simp] theorem sl3_ok {f : VSl} {x : DV} {l u : Option Int} : R.sl3 f x l (.ok u μ) = R.of (f x l u μ) μ := rfl
def R.bm1 (T : String) (f : VM) (r : R DV) (q : DA) (ρ : En) : R DV := r.bind fun x μ1 => if recv T x μ1 = true then (q ρ μ1).bind fun xs μ2 => R.ofS (f x xs μ2) else .stuck
def R.bm2 (f : VM) (x : DV) (r : R (List DV)) : R DV := r.bind fun xs μ2 => R.ofS (f x xs μ2)
@[simp] theorem eBm_ap {T : String} {f : VM} {o : DE} {r : DA} : eBm T f o r ρ μ = R.bm1 T f (o ρ μ) r ρ := rfl
@[simp] theorem bm1_ok {T : String} {f : VM} {x : DV} {q : DA} : R.bm1 T f (.ok x μ) q ρ = if recv T x μ = true then R.bm2 f x (q ρ μ) else .stuck := rfl
@[simp] theorem bm2_ok {f : VM} {x : DV} {xs : List DV} : R.bm2 f x (.ok xs μ) = R.ofS (f x xs μ) := rfl
def R.bm0 (T : String) (f : VM) (r : R DV) : R DV := r.bind fun x μ1 => if recv T x μ1 = true then R.ofS (f x [] μ1) else .stuck
@[simp] theorem eBm0_ap {T : String} {f : VM} {o : DE} : eBm0 T f o ρ μ = R.bm0 T f (o ρ μ) := rfl
@[simp] theorem bm0_ok {T : String} {f : VM} {x : DV} : R.bm0 T f (.ok x μ) = if recv T x μ = true then R.ofS (f x [] μ) else .stuck := rfl
@[simp] theorem recv_str {x : Str} : recv "str" (.str x) μ = true := rfl
@[simp] theorem recv_cell {i : Nat} {xs : List DV} (h : μ[i]? = some (.lst xs)) : recv "list" (.cell i) μ = true := by simp only [recv, h]; rfl

/-! statements -/
@[simp] theorem sNop_ap : sNop ρ μ = .nx ρ μ := rfl
@[simp] theorem sBrk_ap : sBrk ρ μ = .bk ρ μ := rfl
@[simp] theorem sCnt_ap : sCnt ρ μ = .ct ρ μ := rfl
@[simp] theorem sRetN_ap : sRetN ρ μ = .rt .non μ := rfl
def SR.seq (r : SR) (h : DS) : SR := match r with
  | .nx ρ' μ' => h ρ' μ'
  | r => r
@[simp] theorem sSeq_ap {f h : DS} : sSeq f h ρ μ = SR.seq (f ρ μ) h := rfl
@[simp] theorem seq_nx {h : DS} : SR.seq (.nx ρ μ) h = h ρ μ := rfl
@[simp] theorem seq_rt {h : DS} : SR.seq (.rt d μ) h = .rt d μ := rfl
@[simp] theorem seq_bk {h : DS} : SR.seq (.bk ρ μ) h = .bk ρ μ := rfl
@[simp] theorem seq_ct {h : DS} : SR.seq (.ct ρ μ) h = .ct ρ μ := rfl
@[simp] theorem seq_ex {h : DS} {c : Nat} {ns : List Str} {xs : List DV} : SR.seq (.ex c ns xs ρ μ) h = .ex c ns xs ρ μ := rfl
def R.ret (r : R DV) (ρ : En) : SR := r.toS ρ fun d μ1 => .rt d μ1
def R.xpr (r : R DV) (ρ : En) : SR := r.toS ρ fun _ μ1 => .nx ρ μ1
def R.sif (r : R Bool) (f h : DS) (ρ : En) : SR := r.toS ρ fun k μ1 => if k = true then f ρ μ1 else h ρ μ1
def R.asg (r : R DV) (t : DG) (ρ : En) : SR := r.toS ρ fun d μ1 => match t d ρ μ1 with
  | some ρ' => .nx ρ' μ1
  | none => .stuck
def R.par (i j : Nat) (r : R (List DV)) (ρ : En) : SR := r.toS ρ fun ds μ1 => match ds with
  | [d, e] => .nx ((ρ.set i (some d)).set j (some e)) μ1
  | _ => .stuck
@[simp] theorem sRet_ap {a : DE} : sRet a ρ μ = R.ret (a ρ μ) ρ := rfl
@[simp] theorem ret_ok : R.ret (.ok d μ) ρ = .rt d μ := rfl
@[simp] theorem ret_ex {c : Nat} {ns : List Str} {xs : List DV} : R.ret (.ex c ns xs μ) ρ = .ex c ns xs ρ μ := rfl
@[simp] theorem sExpr_ap {a : DE} : sExpr a ρ μ = R.xpr (a ρ μ) ρ := rfl
@[simp] theorem xpr_ok : R.xpr (.ok d μ) ρ = .nx ρ μ := rfl
@[simp] theorem sIf_ap {t : DT} {f h : DS} : sIf t f h ρ μ = R.sif (t ρ μ) f h ρ := rfl
@[simp] theorem sif_t {f h : DS} : R.sif (.ok true μ) f h ρ = f ρ μ := rfl
@[simp] theorem sif_f {f h : DS} : R.sif (.ok false μ) f h ρ = h ρ μ := rfl
@[simp] theorem sAsg_ap {a : DE} {t : DG} : sAsg a t ρ μ = R.asg (a ρ μ) t ρ := rfl
@[simp] theorem asg_ok {t : DG} : R.asg (.ok d μ) t ρ = match t d ρ μ with
  | some ρ' => .nx ρ' μ
  | none => .stuck := rfl
@[simp] theorem sPar_ap {i j : Nat} {r : DA} : sPar i j r ρ μ = R.par i j (r ρ μ) ρ := rfl
@[simp] theorem par_ok {i j : Nat} {d e : DV} : R.par i j (.ok [d, e] μ) ρ = .nx ((ρ.set i (some d)).set j (some e)) μ := rfl
def R.par3 (i j l : Nat) (r : R (List DV)) (ρ : En) : SR := r.toS ρ fun ds μ1 => match ds with
  | [d, e, f] => .nx (((ρ.set i (some d)).set j (some e)).set l (some f)) μ1
  | _ => .stuck
@[simp] theorem sPar3_ap {i j l : Nat} {r : DA} : sPar3 i j l r ρ μ = R.par3 i j l (r ρ μ) ρ := rfl
@[simp] theorem par3_ok {i j l : Nat} {d e f : DV} : R.par3 i j l (.ok [d, e, f] μ) ρ = .nx (((ρ.set i (some d)).set j (some e)).set l (some f)) μ := rfl
@[simp] theorem gUnl_ap {f : DGs} {n : Nat} {xs : List DV} : gUnl' f n (.lst xs) ρ μ = if xs.length = n then f xs ρ μ else none := rfl
@[simp] theorem gN_ap {i : Nat} : gN i d ρ μ = some (ρ.set i (some d)) := rfl
@[simp] theorem gNil_ap : gNil' [] ρ μ = some ρ := rfl
@[simp] theorem gCons_ap {f : DG} {fs : DGs} {ds : List DV} : gCons' f fs (d :: ds) ρ μ = (f d ρ μ).bind fun ρ' => fs ds ρ' μ := rfl
@[simp] theorem gTup_ap {f : DGs} {n : Nat} {xs : List DV} : gTup' f n (.tup xs) ρ μ = if xs.length = n then f xs ρ μ else none := rfl
def R.st1 (r : R DV) (o i : DE) (ρ : En) : SR := r.toS ρ fun y μ1 => (o ρ μ1).toS ρ fun d μ2 => (i ρ μ2).toS ρ fun k μ3 => match d, k with
  | .cell c, .int k => match μ3[c]? with
    | some (.lst xs) => match ixN xs.length k with
      | some j => .nx ρ (μ3.set c (.lst (xs.set j y)))
      | none => .stuck
    | _ => .stuck
  | _, _ => .stuck
def R.st2 (y : DV) (r : R DV) (i : DE) (ρ : En) : SR := r.toS ρ fun d μ2 => (i ρ μ2).toS ρ fun k μ3 => match d, k with
  | .cell c, .int k => match μ3[c]? with
    | some (.lst xs) => match ixN xs.length k with
      | some j => .nx ρ (μ3.set c (.lst (xs.set j y)))
      | none => .stuck
    | _ => .stuck
  | _, _ => .stuck
def setAt (c : Nat) (k : Int) (y : DV) (ρ : En) (μ3 : Sto) : SR := match μ3[c]? with
    | some (.lst xs) => match ixN xs.length k with
      | some j => .nx ρ (μ3.set c (.lst (xs.set j y)))
      | none => .stuck
    | _ => .stuck
def R.st3 (y d : DV) (r : R DV) (ρ : En) : SR := r.toS ρ fun k μ3 => match d, k with
  | .cell c, .int k => setAt c k y ρ μ3
  | _, _ => .stuck
@[simp] theorem sSetIx_ap {e o i : DE} : sSetIx e o i ρ μ = R.st1 (e ρ μ) o i ρ := rfl
@[simp] theorem st1_ok {y : DV} {o i : DE} : R.st1 (.ok y μ) o i ρ = R.st2 y (o ρ μ) i ρ := rfl
@[simp] theorem st2_ok {y : DV} {i : DE} : R.st2 y (.ok d μ) i ρ = R.st3 y d (i ρ μ) ρ := rfl
@[simp] theorem st3_ok {y : DV} {c : Nat} {k : Int} : R.st3 y (.cell c) (.ok (.int k) μ) ρ = setAt c k y ρ μ := rfl

/-! defs -/
theorem finF_same : finF μ.length d μ = .ok d μ := if_pos rfl
@[simp] theorem fin_same : fin .fz μ.length d μ = .ok d μ := finF_same
def SR.fin (md : Md) (n : Nat) (r : SR) : R DV := match r with
  | .nx _ μ' => SD.fin md n .non μ'
  | .rt d μ' => SD.fin md n d μ'
  | .ex c ns xs _ μ' => finX n c ns xs μ'
  | _ => .stuck
theorem runF_ap {md : Md} {np n : Nat} {b : DS} {ds : List DV} (h : ds.length = np) : runF md np n b ds μ = SR.fin md μ.length (b (ds.map some ++ List.replicate (n - ds.length) none) μ) := by
  unfold runF SR.fin
  rw [if_pos h]
  try (cases b (ds.map some ++ List.replicate (n - ds.length) none) μ <;> rfl)
@[simp] theorem sfin_rt {md : Md} {n : Nat} : SR.fin md n (.rt d μ) = fin md n d μ := rfl
@[simp] theorem sfin_nx {md : Md} {n : Nat} : SR.fin md n (.nx ρ μ) = fin md n .non μ := rfl
theorem fin_len {n : Nat} (h : μ.length = n) : fin .fz n d μ = .ok d μ := by subst h; exact finF_same

/-! loops over what stays -/
def loopD (t : DG) (f : DS) : List DV → DS
  | [] => fun ρ μ => .nx ρ μ
  | d :: ds => fun ρ μ => match t d ρ μ with
    | none => .stuck
    | some ρ1 => match f ρ1 μ with
      | .nx ρ' μ' => loopD t f ds ρ' μ'
      | .ct ρ' μ' => loopD t f ds ρ' μ'
      | .bk ρ' μ' => .nx ρ' μ'
      | r => r
theorem loopF_fix {t : DG} {f : DS} : ∀ (n k : Nat) (ds : List DV) (ρ : En) (μ : Sto), ds.length + 1 = n + k → k ≤ ds.length → loopF (.fix ds) t f n k ρ μ = loopD t f (ds.drop k) ρ μ
  | 0, k, ds, ρ, μ, h, hk => by omega
  | n + 1, k, ds, ρ, μ, h, hk => by
    unfold loopF
    show (match (some ds[k]? : Option (Option DV)) with
      | none => SR.stuck
      | some none => .nx ρ μ
      | some (some d) => match t d ρ μ with
        | none => .stuck
        | some ρ1 => match f ρ1 μ with
          | .nx ρ' μ' => loopF (.fix ds) t f n (k + 1) ρ' μ'
          | .ct ρ' μ' => loopF (.fix ds) t f n (k + 1) ρ' μ'
          | .bk ρ' μ' => .nx ρ' μ'
          | r => r) = _
    by_cases hl : k < ds.length
    · have e : ds[k]? = some ds[k] := List.getElem?_eq_getElem hl
      rw [List.drop_eq_getElem_cons hl, e]
      unfold loopD
      simp only
      cases t ds[k] ρ μ with
      | none => rfl
      | some ρ1 =>
        simp only
        cases f ρ1 μ with
        | nx ρ' μ' => exact loopF_fix n (k + 1) ds ρ' μ' (by omega) hl
        | ct ρ' μ' => exact loopF_fix n (k + 1) ds ρ' μ' (by omega) hl
        | _ => rfl
    · have e : ds[k]? = none := List.getElem?_eq_none_iff.mpr (by omega)
      rw [e, List.drop_eq_nil_of_le (by omega)]
      rfl
def R.for1 (r : R Wk) (t : DG) (f : DS) (ρ : En) : SR := r.toS ρ fun w μ1 => loopF w t f (wkLen w μ1 + 1) 0 ρ μ1
@[simp] theorem sFor_ap {it : DI} {t : DG} {f : DS} : sFor it t f ρ μ = R.for1 (it ρ μ) t f ρ := rfl
@[simp] theorem for1_fix {t : DG} {f : DS} {ds : List DV} : R.for1 (.ok (.fix ds) μ) t f ρ = loopD t f ds ρ μ := by
  show loopF (.fix ds) t f (ds.length + 1) 0 ρ μ = _
  rw [loopF_fix (ds.length + 1) 0 ds ρ μ rfl (Nat.zero_le _), List.drop_zero]
def R.seqi (r : R DV) : R Wk := r.bind fun d μ1 => R.of (wkOf d μ1) μ1
@[simp] theorem iSeq_ap {a : DE} : iSeq a ρ μ = R.seqi (a ρ μ) := rfl
@[simp] theorem seqi_ok : R.seqi (.ok d μ) = R.of (wkOf d μ) μ := rfl
def R.rg1 (r : R (List DV)) : R Wk := r.bind fun ds μ1 => R.of (rngOf1 ds) μ1
def R.rg2 (r : R (List DV)) : R Wk := r.bind fun ds μ1 => R.of (rngOf2 ds) μ1
@[simp] theorem iRng1_ap {r : DA} : iRng1' r ρ μ = R.rg1 (r ρ μ) := rfl
@[simp] theorem iRng2_ap {r : DA} : iRng2' r ρ μ = R.rg2 (r ρ μ) := rfl
@[simp] theorem rg1_ok {ds : List DV} : R.rg1 (.ok ds μ) = R.of (rngOf1 ds) μ := rfl
@[simp] theorem rg2_ok {ds : List DV} : R.rg2 (.ok ds μ) = R.of (rngOf2 ds) μ := rfl
/-- turn by turn, an invariant -/
theorem loopD_inv {t : DG} {f : DS} (I : En → Sto → Prop) : ∀ (ds : List DV) (ρ : En) (μ : Sto), I ρ μ → (∀ d ∈ ds, ∀ ρ μ, I ρ μ → ∃ ρ1, t d ρ μ = some ρ1 ∧ ∃ ρ' μ', (f ρ1 μ = .nx ρ' μ' ∨ f ρ1 μ = .ct ρ' μ') ∧ I ρ' μ') →
    ∃ ρ' μ', loopD t f ds ρ μ = .nx ρ' μ' ∧ I ρ' μ'
  | [], ρ, μ, h, _ => ⟨ρ, μ, rfl, h⟩
  | d :: ds, ρ, μ, h, ht => by
    obtain ⟨ρ1, e1, ρ', μ', e2, h2⟩ := ht d (by simp) ρ μ h
    obtain ⟨ρ2, μ2, e3, h3⟩ := loopD_inv I ds ρ' μ' h2 fun d hd => ht d (List.mem_cons_of_mem _ hd)
    refine ⟨ρ2, μ2, ?_, h3⟩
    unfold loopD
    rw [e1]
    simp only
    rcases e2 with e2 | e2 <;> rw [e2] <;> exact e3

/-! comprehensions over what stays -/
def compD (t : DG) (tt : DT) (te : DE) (ρ : En) : List DV → Sto → R (List DV)
  | [], μ => .ok [] μ
  | d :: ds, μ => match t d ρ μ with
    | none => .stuck
    | some ρ1 => (tt ρ1 μ).nox.bind fun b μ1 => if b = true then (te ρ1 μ1).nox.bind fun y μ2 => (compD t tt te ρ ds μ2).bind fun ys μ3 => .ok (y :: ys) μ3 else compD t tt te ρ ds μ1
theorem loopL_fix {t : DG} {tt : DT} {te : DE} {ρ : En} : ∀ (n k : Nat) (ds : List DV) (μ : Sto), ds.length + 1 = n + k → k ≤ ds.length → loopL (.fix ds) t tt te ρ n k μ = compD t tt te ρ (ds.drop k) μ
  | 0, k, ds, μ, h, hk => by omega
  | n + 1, k, ds, μ, h, hk => by
    unfold loopL
    show (match (some ds[k]? : Option (Option DV)) with
      | none => R.stuck
      | some none => .ok [] μ
      | some (some d) => match t d ρ μ with
        | none => .stuck
        | some ρ1 => (tt ρ1 μ).nox.bind fun b μ1 => if b = true then (te ρ1 μ1).nox.bind fun y μ2 => (loopL (.fix ds) t tt te ρ n (k + 1) μ2).bind fun ys μ3 => .ok (y :: ys) μ3 else loopL (.fix ds) t tt te ρ n (k + 1) μ1) = _
    by_cases hl : k < ds.length
    · have e : ds[k]? = some ds[k] := List.getElem?_eq_getElem hl
      rw [List.drop_eq_getElem_cons hl, e]
      unfold compD
      simp only
      have ih : ∀ μ, loopL (.fix ds) t tt te ρ n (k + 1) μ = compD t tt te ρ (ds.drop (k + 1)) μ := fun μ => loopL_fix n (k + 1) ds μ (by omega) hl
      simp only [ih]
    · have e : ds[k]? = none := List.getElem?_eq_none_iff.mpr (by omega)
      rw [e, List.drop_eq_nil_of_le (by omega)]
      rfl
def R.lc1 (r : R Wk) (t : DG) (tt : DT) (te : DE) (ρ : En) : R (List DV) := r.bind fun w μ1 => if okLen (wkLen w μ1 + 1) = true then loopL w t tt te ρ (wkLen w μ1 + 1) 0 μ1 else .stuck
@[simp] theorem eLc_ap {it : DI} {t : DG} {tt : DT} {te : DE} {vs : List Nat} : eLc it t tt te vs ρ μ = R.mk (fun ys μ1 => .ok (.lst ys) μ1) (R.lc1 (it ρ μ) t tt te (wipeE ρ vs)) := rfl
@[simp] theorem eLcC_ap {it : DI} {t : DG} {tt : DT} {te : DE} {vs : List Nat} : eLcC it t tt te vs ρ μ = R.mk (fun ys μ1 => .ok (.cell μ1.length) (μ1 ++ [.lst ys])) (R.lc1 (it ρ μ) t tt te (wipeE ρ vs)) := rfl
theorem lc1_fix {t : DG} {tt : DT} {te : DE} {ds : List DV} (h : ds.length < 16777216) : R.lc1 (.ok (.fix ds) μ) t tt te ρ = compD t tt te ρ ds μ := by
  show (if okLen (ds.length + 1) = true then loopL (.fix ds) t tt te ρ (ds.length + 1) 0 μ else .stuck) = _
  rw [if_pos (okLen_small h), loopL_fix (ds.length + 1) 0 ds μ rfl (Nat.zero_le _), List.drop_zero]
/-- elements that leave the store as it is -/
theorem compD_map {t : DG} {te : DE} (g : DV → DV) : ∀ (ds : List DV), (∀ d ∈ ds, ∃ ρ1, t d ρ μ = some ρ1 ∧ te ρ1 μ = .ok (g d) μ) → compD t tYes' te ρ ds μ = .ok (ds.map g) μ
  | [], _ => rfl
  | d :: ds, h => by
    obtain ⟨ρ1, e1, e2⟩ := h d (by simp)
    unfold compD
    rw [e1]
    show (te ρ1 μ).nox.bind _ = _
    rw [e2]
    show (compD t tYes' te ρ ds μ).bind _ = _
    rw [compD_map g ds fun d hd => h d (List.mem_cons_of_mem _ hd)]
    rfl
theorem compD_filter {t : DG} {tt : DT} {te : DE} (p : DV → Bool) (g : DV → DV) : ∀ (ds : List DV), (∀ d ∈ ds, ∃ ρ1, t d ρ μ = some ρ1 ∧ tt ρ1 μ = .ok (p d) μ ∧ (p d = true → te ρ1 μ = .ok (g d) μ)) → compD t tt te ρ ds μ = .ok ((ds.filter p).map g) μ
  | [], _ => rfl
  | d :: ds, h => by
    obtain ⟨ρ1, e1, e2, e3⟩ := h d (by simp)
    unfold compD
    rw [e1]
    simp only
    rw [e2]
    have ih := compD_filter (t := t) (tt := tt) (te := te) p g ds fun d hd => h d (List.mem_cons_of_mem _ hd)
    cases hp : p d with
    | false =>
      rw [List.filter_cons_of_neg (by simp [hp])]
      exact ih
    | true =>
      rw [List.filter_cons_of_pos hp]
      show (te ρ1 μ).nox.bind _ = _
      rw [e3 hp]
      show (compD t tt te ρ ds μ).bind _ = _
      rw [ih]
      rfl
/-- elements that turn the store: an invariant -/
theorem compD_inv {t : DG} {te : DE} (I : Sto → Prop) (p : DV → Prop) : ∀ (ds : List DV) (μ : Sto), I μ → (∀ d ∈ ds, ∀ μ, I μ → ∃ ρ1, t d ρ μ = some ρ1 ∧ ∃ y μ', te ρ1 μ = .ok y μ' ∧ I μ' ∧ p y) →
    ∃ ys μ', compD t tYes' te ρ ds μ = .ok ys μ' ∧ I μ' ∧ ys.length = ds.length ∧ ∀ y ∈ ys, p y
  | [], μ, hI, _ => ⟨[], μ, rfl, hI, rfl, fun _ h => nomatch h⟩
  | d :: ds, μ, hI, h => by
    obtain ⟨ρ1, e1, y, μ1, e2, h2, hp⟩ := h d (by simp) μ hI
    obtain ⟨ys, μ2, e3, h3, hl, hq⟩ := compD_inv I p ds μ1 h2 fun d hd => h d (List.mem_cons_of_mem _ hd)
    refine ⟨y :: ys, μ2, ?_, h3, by simp [hl], fun z hz => ?_⟩
    · unfold compD
      rw [e1]
      show (te ρ1 μ).nox.bind _ = _
      rw [e2]
      show (compD t tYes' te ρ ds μ1).bind _ = _
      rw [e3]
      rfl
    · rcases List.mem_cons.mp hz with rfl | hz
      · exact hp
      · exact hq z hz
@[simp] theorem tYes_ap : tYes' ρ μ = .ok true μ := rfl
end
end SD

set_option Elab.async false
set_option linter.all false
set_option maxRecDepth 100000
set_option maxHeartbeats 4000000
/-! The box of a law, plain side. -/
namespace Lw
open PySem PySem.Spec PyProof.Rows L2 SD
section
variable {μ : Sto} {a b : Int}
@[simp] theorem vAdd_i : vAdd (.int a) (.int b) μ = some (.int (a + b)) := rfl
@[simp] theorem vSub_i : vSub (.int a) (.int b) μ = some (.int (a - b)) := rfl
@[simp] theorem vNeg_i : vNeg (.int a) μ = some (.int (-a)) := rfl
theorem vMul_r (h : b.natAbs < 18446744073709551616) : vMul (.int a) (.int b) μ = some (.int (a * b)) := by
  have : mulOk a b = true := by unfold mulOk; simp [h]
  show (if mulOk a b = true then some (DV.int (a * b)) else none) = _
  rw [if_pos this]
theorem vMul_l (h : a.natAbs < 18446744073709551616) : vMul (.int a) (.int b) μ = some (.int (a * b)) := by
  have : mulOk a b = true := by unfold mulOk; simp [h]
  show (if mulOk a b = true then some (DV.int (a * b)) else none) = _
  rw [if_pos this]
theorem vMod_i (h : 0 < b) : vMod (.int a) (.int b) μ = some (.int (a % b)) := by
  show (if decide (0 < b) = true then some (DV.int (a % b)) else none) = _
  rw [if_pos (decide_eq_true h)]
theorem vDiv_i (h : 0 < b) (h' : b < 1073741824) : vDiv (.int a) (.int b) μ = some (.int (a / b)) := by
  unfold vDiv
  simp [h, h']
theorem vPow_i {n : Nat} (h : n ≤ 1000000) (h' : a.natAbs < 18446744073709551616) : vPow (.int a) (.int (n : Int)) μ = some (.int (a ^ n)) := by
  show (if (decide ((0 : Int) ≤ n) && decide ((n : Int) ≤ 1000000) && decide (a.natAbs < 2 ^ 64)) = true then some (DV.int (a ^ (n : Int).toNat)) else none) = _
  rw [if_pos (by simp [h']; omega)]
  rfl
@[simp] theorem vEq_i : vEq (.int a) (.int b) μ = some (.bl (decide (a = b))) := by
  show some (DV.bl (PyData.eqv (.int a) (.int b))) = _
  simp [PyData.eqv]; rfl
@[simp] theorem vNe_i : vNe (.int a) (.int b) μ = some (.bl (!decide (a = b))) := by
  show some (DV.bl (!PyData.eqv (.int a) (.int b))) = _
  simp [PyData.eqv]; rfl
@[simp] theorem vLt_i : vLt (.int a) (.int b) μ = some (.bl (decide (a < b))) := rfl
@[simp] theorem vLe_i : vLe (.int a) (.int b) μ = some (.bl (decide (a ≤ b))) := rfl
@[simp] theorem vGt_i : vGt (.int a) (.int b) μ = some (.bl (decide (b < a))) := rfl
@[simp] theorem vGe_i : vGe (.int a) (.int b) μ = some (.bl (decide (b ≤ a))) := rfl
@[simp] theorem vInt_i : vInt [.int a] μ = some (.int a) := rfl
@[simp] theorem vAbs_i : vAbs [.int a] μ = some (.int (if a < 0 then -a else a)) := rfl
@[simp] theorem vLen_l {xs : List DV} : vLen [.lst xs] μ = some (.int xs.length) := rfl
@[simp] theorem vLen_t {xs : List DV} : vLen [.tup xs] μ = some (.int xs.length) := rfl
@[simp] theorem runF0 {md : Md} {n : Nat} {b : DS} : runF md 0 n b [] μ = SR.fin md μ.length (b ([] ++ List.replicate n none) μ) := runF_ap rfl
@[simp] theorem runF1 {md : Md} {n : Nat} {b : DS} {x : DV} : runF md 1 n b [x] μ = SR.fin md μ.length (b ([some x] ++ List.replicate (n - 1) none) μ) := runF_ap rfl
@[simp] theorem runF2 {md : Md} {n : Nat} {b : DS} {x y : DV} : runF md 2 n b [x, y] μ = SR.fin md μ.length (b ([some x, some y] ++ List.replicate (n - 2) none) μ) := runF_ap rfl
@[simp] theorem runF3 {md : Md} {n : Nat} {b : DS} {x y z : DV} : runF md 3 n b [x, y, z] μ = SR.fin md μ.length (b ([some x, some y, some z] ++ List.replicate (n - 3) none) μ) := runF_ap rfl
@[simp] theorem fin_cons {d : DV} {x : CO} : fin .fz (μ.length + 1) d (x :: μ) = .ok d (x :: μ) := fin_len rfl
@[simp] theorem fin_cons1 {d : DV} {x : CO} : fin .fz 1 d [x] = .ok d [x] := fin_len rfl
theorem atI_nat {α : Type} {xs : List α} {k : Nat} (h : k < xs.length) : atI xs (k : Int) = xs[k]? := by
  unfold atI ixN
  rw [if_pos (by omega), if_pos (by omega)]
  rfl
end
structure Bx where
  cs : List Int
  i : Nat
  r : Int
  m : Int
  c : Int
def enc (b : Bx) : CO := .lst [.lst (b.cs.map .int), .int b.i, .int b.r, .int b.m, .int b.c]
section
variable {μ : Sto} {b : Bx} {ρ : En}
@[simp] theorem bx0 : vIx (.cell 0) (.int 0) (enc b :: μ) = some (.lst (b.cs.map .int)) := rfl
@[simp] theorem bx1 : vIx (.cell 0) (.int 1) (enc b :: μ) = some (.int b.i) := rfl
@[simp] theorem bx2 : vIx (.cell 0) (.int 2) (enc b :: μ) = some (.int b.r) := rfl
@[simp] theorem bx3 : vIx (.cell 0) (.int 3) (enc b :: μ) = some (.int b.m) := rfl
@[simp] theorem bx4 : vIx (.cell 0) (.int 4) (enc b :: μ) = some (.int b.c) := rfl
@[simp] theorem sb1 {k : Nat} : setAt 0 1 (.int ((k : Int) + 1)) ρ (enc b :: μ) = .nx ρ (enc { b with i := k + 1 } :: μ) := rfl
@[simp] theorem sb2 {k : Int} : setAt 0 2 (.int k) ρ (enc b :: μ) = .nx ρ (enc { b with r := k } :: μ) := rfl
@[simp] theorem sb3 {k : Int} : setAt 0 3 (.int k) ρ (enc b :: μ) = .nx ρ (enc { b with m := k } :: μ) := rfl
@[simp] theorem sb4 {k : Int} : setAt 0 4 (.int k) ρ (enc b :: μ) = .nx ρ (enc { b with c := k } :: μ) := rfl
theorem bxAt {k : Nat} (h : k < b.cs.length) : vIx (.lst (b.cs.map .int)) (.int (k : Int)) μ = some (.int b.cs[k]) := by
  show atI (b.cs.map DV.int) (k : Int) = _
  rw [atI_nat (by simpa using h)]
  simp [h]
theorem step_pos (x : Int) : (x % 2147483587).natAbs < 18446744073709551616 := by
  have h1 := Int.emod_nonneg x (b := 2147483587) (by decide)
  have h2 := Int.emod_lt_of_pos x (b := 2147483587) (by decide)
  omega
theorem take_ok (many : Int) (h0 : 0 < many) (h1 : many < 1073741824) : ∃ n b', f__law_take [.cell 0, .int many] (enc b :: μ) = .ok (.int n) (enc b' :: μ) ∧ 0 ≤ n ∧ n < many := by
  have pw3 : ∀ (a : Int) (μ : Sto), a.natAbs < 18446744073709551616 → vPow (.int a) (.int 3) μ = some (.int (a ^ 3)) := fun a μ h => vPow_i (n := 3) (by decide) h
  have pw18 : ∀ (μ : Sto), vPow (.int 10) (.int 18) μ = some (.int 1000000000000000000) := fun μ => vPow_i (n := 18) (by decide) (by decide)
  have m1 : ∀ x : Int, 0 ≤ x % many := fun x => Int.emod_nonneg x (by omega)
  have m2 : ∀ x : Int, x % many < many := fun x => Int.emod_lt_of_pos x h0
  have cut : ∃ t1 t2, b__law_take = sSeq t1 t2 ∧ (∀ b : Bx, ∃ ρ' b', t1 [some (.cell 0), some (.int many), none, none, none] (enc b :: μ) = .nx ρ' (enc b' :: μ) ∧ ∃ x y z, ρ' = [some (.cell 0), some (.int many), x, y, z]) ∧
      ∀ (b : Bx) (x y z : Option DV), ∃ n b', SR.fin .fz (μ.length + 1) (t2 [some (.cell 0), some (.int many), x, y, z] (enc b :: μ)) = .ok (.int n) (enc b' :: μ) ∧ 0 ≤ n ∧ n < many := by
    refine ⟨_, _, rfl, ?_, ?_⟩
    · intro b
      by_cases h1 : b.r = 0
      · by_cases h2 : b.i < b.cs.length
        · by_cases h3 : 1000000000000000000 ≤ (if b.cs[b.i] < 0 then -b.cs[b.i] else b.cs[b.i])
          · exact ⟨[some (.cell 0), some (.int many), some (.int b.cs[b.i]), none, none], ⟨b.cs, b.i + 1, if b.cs[b.i] < 0 then -b.cs[b.i] else b.cs[b.i], (b.m * 48271 + b.cs[b.i] % 2147483399 * 7 + 13) % 2147483587, b.c⟩, by simp [h1, h2, h3, bxAt, vMod_i, vMul_r, pw18], _, _, _, rfl⟩
          · exact ⟨[some (.cell 0), some (.int many), some (.int b.cs[b.i]), none, none], ⟨b.cs, b.i + 1, b.r, (b.m * 48271 + b.cs[b.i] % 2147483399 * 7 + 13) % 2147483587, b.c⟩, by simp [h1, h2, h3, bxAt, vMod_i, vMul_r, pw18], _, _, _, rfl⟩
        · exact ⟨[some (.cell 0), some (.int many), none, none, none], b, by simp [h1, h2], _, _, _, rfl⟩
      · exact ⟨[some (.cell 0), some (.int many), none, none, none], b, by simp [h1], _, _, _, rfl⟩
    · intro b x y z
      by_cases hr : 0 < b.r
      · refine ⟨b.r % many, { b with r := b.r / many }, ?_, m1 _, m2 _⟩
        simp [hr, vMod_i h0, vDiv_i h0 h1]
      · refine ⟨((((b.m + (b.c + 1) * 6007) % 2147483587) ^ 3 + 30011 * ((b.m + (b.c + 1) * 6007) % 2147483587) + 977) % 2147483587 / 59 + (((b.m + (b.c + 1) * 6007) % 2147483587) ^ 3 + 30011 * ((b.m + (b.c + 1) * 6007) % 2147483587) + 977) % 2147483587 % 7919 * 37) % many,
          ⟨b.cs, b.i, b.r, (((b.m + (b.c + 1) * 6007) % 2147483587) ^ 3 + 30011 * ((b.m + (b.c + 1) * 6007) % 2147483587) + 977) % 2147483587, b.c + 1⟩, ?_, m1 _, m2 _⟩
        simp [hr, vMod_i, vDiv_i, vMul_r, vMul_l, pw3, step_pos, h0, h1]
  obtain ⟨t1, t2, e, p1, p2⟩ := cut
  obtain ⟨ρ', b1, q1, x, y, z, q2⟩ := p1 b
  subst q2
  obtain ⟨n, b', q5, q6⟩ := p2 b1 x y z
  refine ⟨n, b', ?_, q6⟩
  unfold f__law_take
  rw [runF2, e, sSeq_ap]
  show SR.fin .fz (μ.length + 1) (SR.seq (t1 [some (.cell 0), some (.int many), none, none, none] (enc b :: μ)) t2) = _
  rw [q1]
  exact q5
end
end Lw

set_option Elab.async false
set_option linter.all false
set_option maxRecDepth 100000
set_option maxHeartbeats 4000000
namespace Lw
open PySem PySem.Spec PyProof.Rows L2 SD
section
variable {μ : Sto} {b : Bx}
theorem low_ints : ∀ (ns : List Int), lowL 0 (ns.map .int) = true
  | [] => rfl
  | n :: ns => by simp [lowL, DV.low, low_ints ns]
theorem cut_ints {ns : List Int} {lo hi : Option Int} : ∃ ms : List Int, SD.cutD (ns.map .int) lo hi = ms.map .int := by
  unfold SD.cutD
  rw [← List.map_drop, ← List.map_take]
  exact ⟨_, rfl⟩
theorem box_ok (ns : List Int) (own : Int) : ∃ b, f__law_box [.scr (ns.map .int), .int own] [] = .ok (.cell 0) [enc b] := by
  obtain ⟨ms, hm⟩ := cut_ints (ns := ns) (lo := none) (hi := some 63)
  have hs : vSlc (.scr (ns.map .int)) none (some 63) [] = some (.lst (ms.map .int)) := by
    show some (DV.lst (SD.cutD (ns.map .int) none (some 63))) = _
    rw [hm]
  have hlen : (ms.map DV.int).length < 16777216 := by
    rw [← hm]
    unfold SD.cutD
    refine Nat.lt_of_le_of_lt (List.length_take_le _ _) ?_
    have : HT.sIx (ns.map DV.int).length (ns.map DV.int).length (some 63) ≤ 63 := by
      show (if (63 : Int) < 0 then ((63 : Int) + ((ns.map DV.int).length : Int)).toNat else min (63 : Int).toNat (ns.map DV.int).length) ≤ 63
      rw [if_neg (by decide)]
      exact Nat.min_le_left _ _
    omega
  have lp : ∃ m x, loopD (gN 3) (sAsg (eBin vMod (eFn vInt (aCons (eBin vAdd (eBin vAdd (eBin vMul (eVar 2) (eC (.int 40503))) (eBin vMod (eFn vInt (aCons (eVar 3) aNil)) (eC (.int 2147483423)))) (eC (.int 11))) aNil)) (eC (.int 2147483587))) (gN 2)) (ms.map .int) [some (.scr (ns.map .int)), some (.int own), some (.int own), none] [] = .nx [some (.scr (ns.map .int)), some (.int own), some (.int m), x] [] := by
    obtain ⟨ρ', μ', e, ⟨m, x, h1⟩, h2⟩ := loopD_inv (t := gN 3) (f := sAsg (eBin vMod (eFn vInt (aCons (eBin vAdd (eBin vAdd (eBin vMul (eVar 2) (eC (.int 40503))) (eBin vMod (eFn vInt (aCons (eVar 3) aNil)) (eC (.int 2147483423)))) (eC (.int 11))) aNil)) (eC (.int 2147483587))) (gN 2))
      (fun ρ μ => (∃ m x, ρ = [some (.scr (ns.map .int)), some (.int own), some (.int m), x]) ∧ μ = []) (ms.map .int) [some (.scr (ns.map .int)), some (.int own), some (.int own), none] [] ⟨⟨own, none, rfl⟩, rfl⟩ (by
        rintro d hd ρ μ ⟨⟨m, x, rfl⟩, rfl⟩
        obtain ⟨n, hn, rfl⟩ := List.mem_map.mp hd
        exact ⟨[some (.scr (ns.map .int)), some (.int own), some (.int m), some (.int n)], rfl, [some (.scr (ns.map .int)), some (.int own), some (.int ((m * 40503 + n % 2147483423 + 11) % 2147483587)), some (.int n)], [], .inl (by simp [vMod_i, vMul_r]), ⟨_, _, rfl⟩, rfl⟩)
    subst h1 h2
    exact ⟨m, x, e⟩
  obtain ⟨m, x, e⟩ := lp
  refine ⟨⟨ms, 0, 0, m, 0⟩, ?_⟩
  have ec : compD (gN 3) tYes' (eFn vInt (aCons (eVar 3) aNil)) [some (.scr (ns.map .int)), some (.int own), some (.int m), none] (ms.map .int) [] = .ok (ms.map .int) [] := by

    have := compD_map (μ := []) (ρ := [some (.scr (ns.map .int)), some (.int own), some (.int m), none]) (t := gN 3) (te := eFn vInt (aCons (eVar 3) aNil)) id (ms.map .int) (by
      intro d hd
      obtain ⟨n, hn, rfl⟩ := List.mem_map.mp hd
      exact ⟨_, rfl, by simp⟩)
    rw [List.map_id] at this
    exact this
  unfold f__law_box
  rw [runF2]
  unfold b__law_box
  have hk : ∀ (ρ : En) (t : DG) (tt : DT) (te : DE), R.lc1 (.ok (.fix (ms.map DV.int)) []) t tt te ρ = compD t tt te ρ (ms.map .int) [] := fun ρ t tt te => lc1_fix hlen
  have hw : wkOf (.lst (ms.map DV.int)) [] = some (.fix (ms.map DV.int)) := rfl
  have wp : wipeE [some (.scr (ns.map .int)), some (.int own), some (.int m), x] [3] = [some (.scr (ns.map .int)), some (.int own), some (.int m), none] := rfl
  have h5 : ∀ (x1 x2 x3 x4 x5 : DV), mkC [x1, x2, x3, x4, x5] [] = .ok (.cell 0) [.lst [x1, x2, x3, x4, x5]] := fun _ _ _ _ _ => mkC_small (by show 5 ≤ _; decide)
  have hf : fin .cl 0 (.cell 0) [CO.lst [.lst (ms.map .int), .int 0, .int 0, .int m, .int 0]] = .ok (.cell 0) [CO.lst [.lst (ms.map .int), .int 0, .int 0, .int m, .int 0]] := by
    unfold fin finC
    simp [lowL, DV.low, low_ints]
  simp [hs, hw, e, wp, hk, ec, h5]
  exact hf
theorem pick_ok (xs : List DV) (h0 : 0 < xs.length) (h1 : xs.length < 1073741824) : ∃ d b', f__law_pick [.cell 0, .lst xs] (enc b :: μ) = .ok d (enc b' :: μ) ∧ d ∈ xs := by
  obtain ⟨n, b', e, p0, p1⟩ := take_ok (μ := μ) (b := b) xs.length (by omega) (by omega)
  obtain ⟨k, rfl⟩ := Int.eq_ofNat_of_zero_le p0
  have hk : k < xs.length := by omega
  refine ⟨xs[k], b', ?_, List.getElem_mem hk⟩
  have hx : vIx (.lst xs) (.int (k : Int)) (enc b' :: μ) = some xs[k] := by
    show atI xs (k : Int) = _
    rw [atI_nat hk, List.getElem?_eq_getElem hk]
  unfold f__law_pick
  rw [runF2]
  unfold b__law_pick
  simp [e, hx]
end
end Lw

set_option Elab.async false
set_option linter.all false
set_option maxRecDepth 100000
set_option maxHeartbeats 4000000
/-! What the plain sides of several laws share: built-ins, `_law_same`, `_law_gcd`, the box as functions. -/
namespace Lw
open PySem PySem.Spec PyProof.Rows L2 SD
section
variable {μ : Sto}
@[simp] theorem vIsi_ty {d : DV} {t : T7} : vIsi [d, .ty t] μ = (tyOf μ d).map fun a => .bl (a.sub t) := rfl
@[simp] theorem ty_non : tyOf μ .non = some .non := rfl
@[simp] theorem ty_bl {b : Bool} : tyOf μ (.bl b) = some .bl := rfl
@[simp] theorem ty_int {b : Int} : tyOf μ (.int b) = some .int := rfl
@[simp] theorem ty_str {b : Str} : tyOf μ (.str b) = some .str := rfl
@[simp] theorem ty_tup {b : List DV} : tyOf μ (.tup b) = some .tup := rfl
@[simp] theorem ty_lst {b : List DV} : tyOf μ (.lst b) = some .lst := rfl
@[simp] theorem ty_dct {b : List Key} {c : List DV} : tyOf μ (.dct b c) = some .dct := rfl
@[simp] theorem tup0 {xs : List DV} {x : DV} : vIx (.tup (x :: xs)) (.int 0) μ = some x := by
  show atI (x :: xs) ((0 : Nat) : Int) = _
  rw [atI_nat (by simp)] <;> rfl
@[simp] theorem tup1 {xs : List DV} {x y : DV} : vIx (.tup (x :: y :: xs)) (.int 1) μ = some y := by
  show atI (x :: y :: xs) ((1 : Nat) : Int) = _
  rw [atI_nat (by simp)] <;> rfl
theorem vAll_map {α : Type} (l : List α) (p : α → Bool) : vAll [.lst (l.map fun x => .bl (p x))] μ = some (.bl (l.all p)) := by
  have : ∀ l : List α, asBs (l.map fun x => .bl (p x)) = some (l.map p) := by
    intro l
    induction l with
    | nil => rfl
    | cons a l ih => simp [asBs, ih]
  show (asBs (l.map fun x => .bl (p x))).map (fun bs => DV.bl (bs.all id)) = _
  rw [this]
  simp
theorem all2 {a b : Bool} : vAll [.lst [.bl a, .bl b]] μ = some (.bl (a && b)) := by
  have := vAll_map (μ := μ) [a, b] id
  simpa using this
theorem lc_two {t : DG} {tt : DT} {te : DE} {ρ : En} {x y : DV} : R.lc1 (.ok (.fix [x, y]) μ) t tt te ρ = compD t tt te ρ [x, y] μ := lc1_fix (by show 2 < _; decide)
theorem wk_two {x y : DV} : wkOf (.tup [x, y]) μ = some (.fix [x, y]) := rfl
theorem wipe1 {a b : Option DV} : wipeE [a, b] [1] = [a, none] := rfl
theorem gcd_step (x y : Int) (hx : 0 ≤ x) (hy : 0 < y) : Int.gcd x y = Int.gcd y (x % y) := by
  obtain ⟨a, rfl⟩ := Int.eq_ofNat_of_zero_le hx
  obtain ⟨b, rfl⟩ := Int.eq_ofNat_of_zero_le (by omega : 0 ≤ y)
  have : ((a : Int) % (b : Int)) = ((a % b : Nat) : Int) := by simp
  rw [this]
  simp only [Int.gcd_natCast_natCast]
  rw [Nat.gcd_comm, Nat.gcd_rec, Nat.gcd_comm]
theorem abs_eq (a : Int) : (if a < 0 then -a else a) = (a.natAbs : Int) := by split <;> omega
def leaf : DV → Bool
  | .non | .bl _ | .int _ => true
  | _ => false
@[simp] theorem vIsi_lt {d : DV} : vIsi [d, .tup [.ty .lst, .ty .tup]] μ = (tyOf μ d).map fun a => .bl (a.sub .lst || a.sub .tup) := by
  show (match tyOf μ d, asTys [.ty .lst, .ty .tup] with
    | some a, some ts => some (DV.bl (ts.any fun t => a.sub t))
    | _, _ => none) = _
  have : asTys [.ty .lst, .ty .tup] = some [.lst, .tup] := rfl
  rw [this]
  cases tyOf μ d with
  | none => rfl
  | some a => simp
@[simp] theorem vEq_b {a b : Bool} : vEq (.bl a) (.bl b) μ = some (.bl (a == b)) := rfl
@[simp] theorem vNe_b {a b : Bool} : vNe (.bl a) (.bl b) μ = some (.bl (!(a == b))) := rfl
theorem vEq_n : vEq .non .non μ = some (.bl true) := rfl
theorem eq5 {a b c d e : Bool} : vEq (.lst [.bl a, .bl b, .bl c, .bl d, .bl e]) (.lst [.bl a, .bl b, .bl c, .bl d, .bl e]) μ = some (.bl true) := by
  cases a <;> cases b <;> cases c <;> cases d <;> cases e <;> rfl
@[simp] theorem lst0 {xs : List DV} {x : DV} : vIx (.lst (x :: xs)) (.int 0) μ = some x := by
  show atI (x :: xs) ((0 : Nat) : Int) = _
  rw [atI_nat (by simp)] <;> rfl
@[simp] theorem lst1 {xs : List DV} {x y : DV} : vIx (.lst (x :: y :: xs)) (.int 1) μ = some y := by
  show atI (x :: y :: xs) ((1 : Nat) : Int) = _
  rw [atI_nat (by simp)] <;> rfl
theorem mkL5 {a b c d e : DV} : mkL [a, b, c, d, e] μ = .ok (.lst [a, b, c, d, e]) μ := mkL_small (by show 5 ≤ _; decide)
theorem vIs_n {d : DV} (h : leaf d = true) : vIs d .non μ = some (.bl (isNon d)) := by
  cases d <;> first | (simp [leaf] at h; done) | rfl
def kindD (d : DV) : DV := .lst [.bl (match d with | .bl _ => true | _ => false), .bl (match d with | .bl _ => true | .int _ => true | _ => false), .bl false, .bl false, .bl (isNon d)]
theorem kinds {d : DV} (h : leaf d = true) (ρ : En) (hρ : 4 < ρ.length) : compD (gN 4) tYes' (eLst (aCons (eFn vIsi (aCons (eVar 4) (aCons (eC (.ty .bl)) aNil))) (aCons (eFn vIsi (aCons (eVar 4) (aCons (eC (.ty .int)) aNil))) (aCons (eFn vIsi (aCons (eVar 4) (aCons (eC (.ty .str)) aNil))) (aCons (eFn vIsi (aCons (eVar 4) (aCons (eC (.ty .dct)) aNil))) (aCons (eBin vIs (eVar 4) (eC .non)) aNil)))))) ρ [d, d] μ = .ok [kindD d, kindD d] μ := by
  have := compD_map (μ := μ) (ρ := ρ) (t := gN 4) (te := eLst (aCons (eFn vIsi (aCons (eVar 4) (aCons (eC (.ty .bl)) aNil))) (aCons (eFn vIsi (aCons (eVar 4) (aCons (eC (.ty .int)) aNil))) (aCons (eFn vIsi (aCons (eVar 4) (aCons (eC (.ty .str)) aNil))) (aCons (eFn vIsi (aCons (eVar 4) (aCons (eC (.ty .dct)) aNil))) (aCons (eBin vIs (eVar 4) (eC .non)) aNil)))))) kindD [d, d] (fun z hz => ⟨ρ.set 4 (some z), rfl, by
    have e : z = d := by simpa using hz
    subst e
    have hg : (ρ.set 4 (some z))[4]? = some (some z) := by rw [List.getElem?_set_self hρ]
    cases z <;> first | (simp [leaf] at h; done) | simp [hρ, T7.sub, vIs_n h, mkL5, kindD]⟩)
  simpa using this
theorem kind_eq {d : DV} : vEq (kindD d) (kindD d) μ = some (.bl true) := eq5
theorem leaf_eq {d : DV} (h : leaf d = true) : vEq d d μ = some (.bl true) := by
  cases d <;> first | (simp [leaf] at h; done) | simp [vEq_n]
theorem same_leaf (k : Nat) {d : DV} (h : leaf d = true) : f__law_same (k + 1) [d, d] μ = .ok (.bl true) μ := by
  unfold f__law_same
  rw [runF2]
  unfold b__law_same
  have wp : wipeE [some d, some d, none, none, none] [4] = [some d, some d, none, none, none] := rfl
  have hk := kinds (μ := μ) h [some d, some d, none, none, none] (by show 4 < 5; decide)
  cases d <;> first | (simp [leaf] at h; done) | simp [T7.sub, wk_two, lc_two, wp, hk, kind_eq, leaf_eq h]
theorem same_succ (k : Nat) : f__law_same (k + 1) = runF .fz 2 5 (b__law_same (f__law_same k)) := rfl
theorem rng_n {n : Nat} (h : n ≤ 1000) : rngOf1 [.int (n : Int)] = some (.fix ((List.range n).map fun (i : Nat) => DV.int (i : Int))) := by
  have hb : inB (n : Int) = true := by
    exact Nat.ble_eq_true_of_le (by show n ≤ _; omega)
  simp only [rngOf1, hb, if_true, Int.toNat_natCast, Int.zero_add]
theorem lc_rng {n : Nat} (h : n ≤ 1000) {t : DG} {tt : DT} {te : DE} {ρ : En} : R.lc1 (.ok (.fix ((List.range n).map fun (i : Nat) => DV.int (i : Int))) μ) t tt te ρ = compD t tt te ρ ((List.range n).map fun (i : Nat) => DV.int (i : Int)) μ := lc1_fix (by rw [List.length_map, List.length_range]; omega)
theorem same_list (k : Nat) {ds : List DV} (h : ds.all leaf = true) (hl : ds.length ≤ 1000) : f__law_same (k + 2) [.lst ds, .lst ds] μ = .ok (.bl true) μ := by
  rw [same_succ, runF2]
  unfold b__law_same
  have wp : wipeE [some (.lst ds), some (.lst ds), none, none, none] [3] = [some (.lst ds), some (.lst ds), none, none, none] := rfl
  have hc : compD (gN 3) tYes' (eCall (f__law_same (k + 1)) (aCons (eBin vIx (eVar 0) (eVar 3)) (aCons (eBin vIx (eVar 1) (eVar 3)) aNil))) [some (.lst ds), some (.lst ds), none, none, none] ((List.range ds.length).map fun (i : Nat) => DV.int (i : Int)) μ = .ok ((List.range ds.length).map fun i => .bl true) μ := by
    have := compD_map (μ := μ) (ρ := [some (.lst ds), some (.lst ds), none, none, none]) (t := gN 3) (te := eCall (f__law_same (k + 1)) (aCons (eBin vIx (eVar 0) (eVar 3)) (aCons (eBin vIx (eVar 1) (eVar 3)) aNil))) (fun _ => .bl true) ((List.range ds.length).map fun (i : Nat) => DV.int (i : Int)) (fun z hz => by
      obtain ⟨i, hi, rfl⟩ := List.mem_map.mp hz
      have hi' : i < ds.length := List.mem_range.mp hi
      have hx : vIx (.lst ds) (.int (i : Int)) μ = some ds[i] := by
        show atI ds (i : Int) = _
        rw [atI_nat hi', List.getElem?_eq_getElem hi']
      have hlf : leaf ds[i] = true := List.all_eq_true.mp h _ (List.getElem_mem hi')
      exact ⟨_, rfl, by simp [hx, same_leaf k hlf]⟩)
    rw [this, List.map_map]
    rfl
  have hv : vAll [.lst ((List.range ds.length).map fun _ => DV.bl true)] μ = some (.bl true) := by
    rw [vAll_map (μ := μ) (List.range ds.length) fun _ => true]
    simp
  have hrg : ∀ ρ : En, ρ[1]? = some (some (.lst ds)) → iRng1' (aCons (eFn vLen (aCons (eVar 1) aNil)) aNil) ρ μ = .ok (.fix ((List.range ds.length).map fun (i : Nat) => DV.int (i : Int))) μ := by
    intro ρ hρ
    rw [iRng1_ap]
    simp only [eFn_ap, aCons_ap, aNil_ap, eVar_ap, hρ, ac1_ok, ac2_ok, mk_ok, vLen_l, of_some, rg1_ok]
    rw [rng_n hl, of_some]
  have hlc : eLc (iRng1' (aCons (eFn vLen (aCons (eVar 1) aNil)) aNil)) (gN 3) tYes' (eCall (f__law_same (k + 1)) (aCons (eBin vIx (eVar 0) (eVar 3)) (aCons (eBin vIx (eVar 1) (eVar 3)) aNil))) [3] [some (.lst ds), some (.lst ds), none, none, none] μ = .ok (.lst ((List.range ds.length).map fun _ => DV.bl true)) μ := by
    rw [eLc_ap, wp, hrg _ rfl, lc_rng hl, hc, mk_ok]
  have hall : eFn vAll (aCons (eLc (iRng1' (aCons (eFn vLen (aCons (eVar 1) aNil)) aNil)) (gN 3) tYes' (eCall (f__law_same (k + 1)) (aCons (eBin vIx (eVar 0) (eVar 3)) (aCons (eBin vIx (eVar 1) (eVar 3)) aNil))) [3]) aNil) [some (.lst ds), some (.lst ds), none, none, none] μ = .ok (.bl true) μ := by
    rw [eFn_ap, aCons_ap, hlc, ac1_ok, aNil_ap, ac2_ok, mk_ok, hv, of_some]
  show SR.fin .fz μ.length (_ : SR) = _
  generalize eFn vAll (aCons (eLc (iRng1' (aCons (eFn vLen (aCons (eVar 1) aNil)) aNil)) (gN 3) tYes' (eCall (f__law_same (k + 1)) (aCons (eBin vIx (eVar 0) (eVar 3)) (aCons (eBin vIx (eVar 1) (eVar 3)) aNil))) [3]) aNil) = E at hall ⊢
  simp [T7.sub, hall]
theorem gcd_loop2 (p q : Option DV) : ∀ (n : Nat) (x y : Int), 0 ≤ x → 0 ≤ y → y.toNat < n →
    loopW (tB' (eBin vNe (eVar 2) (eC (.int 0)))) (sPar 2 3 (aCons (eBin vMod (eFn vInt (aCons (eVar 3) aNil)) (eFn vInt (aCons (eVar 2) aNil))) (aCons (eVar 2) aNil))) n [p, q, some (.int y), some (.int x)] μ = .nx [p, q, some (.int 0), some (.int (Int.gcd x y))] μ
  | 0, x, y, hx, hy, h => by omega
  | n + 1, x, y, hx, hy, h => by
    unfold loopW
    by_cases h0 : y = 0
    · subst h0
      have : ((Int.gcd x 0 : Nat) : Int) = x := by simp; omega
      simp [this, R.toS]
      omega
    · have hp : 0 < y := by omega
      have h1 := Int.emod_nonneg x (b := y) h0
      have h2 := Int.emod_lt_of_pos x hp
      have := gcd_loop2 p q n y (x % y) hy h1 (by omega)
      simp only [tB_ap, eBin_ap, eVar_ap, eC_ap, List.getElem?_cons_succ, List.getElem?_cons_zero, bin1_ok, bin2_ok, vNe_i, of_some, tb_ok, h0, decide_false, Bool.not_false]
      show (match R.par 2 3 _ _ with
        | .nx ρ' μ' => _
        | .ct ρ' μ' => _
        | .bk ρ' μ' => _
        | r => _) = _
      simp [vMod_i hp, this]
      rw [gcd_step x y hx hp]
theorem gcd2 {a b : Int} (h : a.natAbs < 4096) : f__law_gcd [.int a, .int b] μ = .ok (.int (Int.gcd a b)) μ := by
  unfold f__law_gcd
  rw [runF2]
  unfold b__law_gcd
  have := gcd_loop2 (μ := μ) (some (.int a)) (some (.int b)) 4096 b.natAbs a.natAbs (by omega) (by omega) (by omega)
  simp only [Int.gcd_natCast_natCast] at this
  rw [Nat.gcd_comm] at this
  simp [abs_eq, sWhile, this, Int.gcd]
end
theorem tk_ex (b : Bx) (many : Int) : ∃ r : Int × Bx, 0 < many → many < 1073741824 → f__law_take [.cell 0, .int many] [enc b] = .ok (.int r.1) [enc r.2] ∧ 0 ≤ r.1 ∧ r.1 < many := by
  by_cases h0 : 0 < many
  · by_cases h1 : many < 1073741824
    · obtain ⟨n, b', h⟩ := take_ok (μ := []) (b := b) many h0 h1
      exact ⟨(n, b'), fun _ _ => h⟩
    · exact ⟨(0, b), fun _ h => absurd h h1⟩
  · exact ⟨(0, b), fun h _ => absurd h h0⟩
noncomputable def tkN (b : Bx) (many : Int) : Int := (Classical.choose (tk_ex b many)).1
noncomputable def tkB (b : Bx) (many : Int) : Bx := (Classical.choose (tk_ex b many)).2
theorem take_s {b : Bx} {many : Int} (h0 : 0 < many) (h1 : many < 1073741824) : f__law_take [.cell 0, .int many] [enc b] = .ok (.int (tkN b many)) [enc (tkB b many)] := (Classical.choose_spec (tk_ex b many) h0 h1).1
theorem tk_lo {b : Bx} {many : Int} (h0 : 0 < many) (h1 : many < 1073741824) : 0 ≤ tkN b many := (Classical.choose_spec (tk_ex b many) h0 h1).2.1
theorem tk_hi {b : Bx} {many : Int} (h0 : 0 < many) (h1 : many < 1073741824) : tkN b many < many := (Classical.choose_spec (tk_ex b many) h0 h1).2.2
theorem pk_ex (b : Bx) (xs : List DV) : ∃ r : DV × Bx, 0 < xs.length → xs.length < 1073741824 → f__law_pick [.cell 0, .lst xs] [enc b] = .ok r.1 [enc r.2] ∧ r.1 ∈ xs := by
  by_cases h0 : 0 < xs.length
  · by_cases h1 : xs.length < 1073741824
    · obtain ⟨n, b', h⟩ := pick_ok (μ := []) (b := b) xs h0 h1
      exact ⟨(n, b'), fun _ _ => h⟩
    · exact ⟨(.non, b), fun _ h => absurd h h1⟩
  · exact ⟨(.non, b), fun h _ => absurd h h0⟩
noncomputable def pkD (b : Bx) (xs : List DV) : DV := (Classical.choose (pk_ex b xs)).1
noncomputable def pkB (b : Bx) (xs : List DV) : Bx := (Classical.choose (pk_ex b xs)).2
theorem pick_s {b : Bx} {xs : List DV} (h0 : 0 < xs.length) (h1 : xs.length < 1073741824) : f__law_pick [.cell 0, .lst xs] [enc b] = .ok (pkD b xs) [enc (pkB b xs)] := (Classical.choose_spec (pk_ex b xs) h0 h1).1
theorem pk_mem {b : Bx} {xs : List DV} (h0 : 0 < xs.length) (h1 : xs.length < 1073741824) : pkD b xs ∈ xs := (Classical.choose_spec (pk_ex b xs) h0 h1).2
theorem pk_all {b : Bx} {xs : List DV} {p : DV → Bool} (h0 : 0 < xs.length) (h1 : xs.length < 1073741824) (h : xs.all p = true) : p (pkD b xs) = true := List.all_eq_true.mp h _ (pk_mem h0 h1)
def Ex (p : DV → Bool) (r : R DV) : Prop := ∃ d b', r = .ok d [enc b'] ∧ p d = true
theorem Ex_ok {p : DV → Bool} {d : DV} {b : Bx} : Ex p (.ok d [enc b]) ↔ p d = true := by
  constructor
  · rintro ⟨d', b', e, h⟩
    injection e with e1 e2
    rw [e1]; exact h
  · exact fun h => ⟨d, b, rfl, h⟩
end Lw

set_option Elab.async false
set_option linter.all false
set_option maxRecDepth 100000
set_option maxHeartbeats 4000000
/-! k02: the order of directions in the round, insertion, merging; no program. -/
namespace Lw
abbrev Dr2 := Int × Int
def crs (a b : Dr2) : Int := a.1 * b.2 - a.2 * b.1
/-- in the first half of the round -/
def up (d : Dr2) : Bool := decide (0 < d.2) || (decide (d.2 = 0) && decide (0 < d.1))
def hlf (d : Dr2) : Int := if up d = true then 0 else 1
def ahd (a b : Dr2) : Bool := decide (hlf a < hlf b) || (decide (hlf a = hlf b) && decide (0 < crs a b))
/-- told in least numbers -/
def Prm (d : Dr2) : Prop := Int.gcd d.1 d.2 = 1
theorem up_iff {d : Dr2} : up d = true ↔ 0 < d.2 ∨ (d.2 = 0 ∧ 0 < d.1) := by unfold up; simp
theorem hlf_up {d : Dr2} (h : up d = true) : hlf d = 0 := if_pos h
theorem hlf_dn {d : Dr2} (h : ¬ up d = true) : hlf d = 1 := if_neg h
theorem ahd_iff {a b : Dr2} : ahd a b = true ↔ hlf a < hlf b ∨ (hlf a = hlf b ∧ 0 < crs a b) := by unfold ahd; simp
theorem crs_self {a : Dr2} : crs a a = 0 := by unfold crs; rw [Int.mul_comm a.2 a.1]; omega
theorem crs_anti {a b : Dr2} : crs b a = - crs a b := by unfold crs; grind
theorem ahd_irr {a : Dr2} : ahd a a = false := by
  cases h : ahd a a with
  | false => rfl
  | true =>
    rcases ahd_iff.mp h with h | h
    · omega
    · rw [crs_self] at h; omega
theorem ahd_anti {a b : Dr2} (h : ahd a b = true) : ahd b a = false := by
  cases h' : ahd b a with
  | false => rfl
  | true =>
    rcases ahd_iff.mp h with h | h <;> rcases ahd_iff.mp h' with h' | h'
    · omega
    · omega
    · omega
    · have := @crs_anti a b; omega
/-- those of one half, of a cross that is not above 0 either way, are told alike -/
theorem prm_nz {d : Dr2} (h : Prm d) : d ≠ (0, 0) := by
  rintro rfl
  unfold Prm at h
  simp at h
theorem cop {x y z : Int} (h : x ∣ y * z) (g : Int.gcd x y = 1) : x ∣ z := by
  have h1 : x.natAbs ∣ y.natAbs * z.natAbs := by rw [← Int.natAbs_mul]; exact Int.natAbs_dvd_natAbs.mpr h
  exact Int.natAbs_dvd_natAbs.mp (Nat.Coprime.dvd_of_dvd_mul_left (show Nat.Coprime x.natAbs y.natAbs from g) h1)
theorem par_eq {a b : Dr2} (ha : Prm a) (hb : Prm b) (hh : hlf a = hlf b) (hc : crs a b = 0) : a = b := by
  have ha' : Int.gcd a.1 a.2 = 1 := ha
  have hb' : Int.gcd b.1 b.2 = 1 := hb
  have e : a.1 * b.2 = a.2 * b.1 := by unfold crs at hc; omega
  have d1 : a.1 ∣ b.1 := by
    have : a.1 ∣ a.2 * b.1 := ⟨b.2, e.symm⟩
    exact cop this ha'
  have d2 : b.1 ∣ a.1 := by
    have : b.1 ∣ b.2 * a.1 := ⟨a.2, by rw [Int.mul_comm b.2 a.1, e, Int.mul_comm]⟩
    exact cop this hb'
  have d3 : a.2 ∣ b.2 := by
    have : a.2 ∣ a.1 * b.2 := ⟨b.1, e⟩
    exact cop this (by rw [Int.gcd_comm]; exact ha')
  have d4 : b.2 ∣ a.2 := by
    have : b.2 ∣ b.1 * a.2 := ⟨a.1, by rw [Int.mul_comm b.1 a.2, ← e, Int.mul_comm]⟩
    exact cop this (by rw [Int.gcd_comm]; exact hb')
  have n1 : a.1.natAbs = b.1.natAbs := Nat.dvd_antisymm (Int.natAbs_dvd_natAbs.mpr d1) (Int.natAbs_dvd_natAbs.mpr d2)
  have n2 : a.2.natAbs = b.2.natAbs := Nat.dvd_antisymm (Int.natAbs_dvd_natAbs.mpr d3) (Int.natAbs_dvd_natAbs.mpr d4)
  have za := prm_nz ha
  have sgn : (up a = true ↔ up b = true) := by
    constructor <;> intro h
    · cases hb : up b with
      | true => rfl
      | false => rw [hlf_up h, hlf_dn (by rw [hb]; decide)] at hh; omega
    · cases hb : up a with
      | true => rfl
      | false => rw [hlf_up h, hlf_dn (by rw [hb]; decide)] at hh; omega
  rw [up_iff, up_iff] at sgn
  have z : a.1 ≠ 0 ∨ a.2 ≠ 0 := by
    by_cases h : a.1 = 0
    · exact .inr fun h2 => za (Prod.ext h h2)
    · exact .inl h
  rcases Int.natAbs_eq_natAbs_iff.mp n1 with c1 | c1 <;> rcases Int.natAbs_eq_natAbs_iff.mp n2 with c2 | c2
  · exact Prod.ext c1 c2
  · by_cases h2 : b.2 = 0
    · exact Prod.ext c1 (by rw [c2, h2]; rfl)
    · by_cases h1 : b.1 = 0
      · rw [h1] at c1
        exfalso
        omega
      · exfalso
        rw [c1, c2] at e
        have : b.1 * b.2 = 0 := by
          have e2 : -(b.1 * b.2) = b.1 * b.2 := by have := e; grind
          omega
        rcases Int.mul_eq_zero.mp this with h | h
        · exact h1 h
        · exact h2 h
  · by_cases h1 : b.1 = 0
    · exact Prod.ext (by rw [c1, h1]; rfl) c2
    · by_cases h2 : b.2 = 0
      · exfalso
        omega
      · exfalso
        rw [c1, c2] at e
        have : b.1 * b.2 = 0 := by
          have e2 : -(b.1 * b.2) = b.1 * b.2 := by have := e; grind
          omega
        rcases Int.mul_eq_zero.mp this with h | h
        · exact h1 h
        · exact h2 h
  · exfalso
    omega
theorem ahd_tot {a b : Dr2} (ha : Prm a) (hb : Prm b) (hne : a ≠ b) (h : ahd a b = false) : ahd b a = true := by
  rw [ahd_iff]
  have n : ¬ (hlf a < hlf b ∨ (hlf a = hlf b ∧ 0 < crs a b)) := fun z => by rw [ahd_iff.mpr z] at h; cases h
  by_cases e : hlf a = hlf b
  · refine .inr ⟨e.symm, ?_⟩
    have c := @crs_anti a b
    have : crs a b ≠ 0 := fun z => hne (par_eq ha hb e z)
    omega
  · left; omega
theorem crs_id (a b c : Dr2) : crs a c * b.2 = crs a b * c.2 + crs b c * a.2 := by unfold crs; grind
theorem crs_id1 (a b c : Dr2) : crs a c * b.1 = crs a b * c.1 + crs b c * a.1 := by unfold crs; grind
theorem crs_trans {a b c : Dr2} (h1 : hlf a = hlf b) (h2 : hlf b = hlf c) (p : 0 < crs a b) (q : 0 < crs b c) : 0 < crs a c := by
  have pos : ∀ {x y : Int}, 0 < x → 0 ≤ y → 0 ≤ x * y := fun hx hy => Int.mul_nonneg (by omega) hy
  have up3 : ∀ {a b c : Dr2}, up a = true → up b = true → up c = true → 0 < crs a b → 0 < crs b c → 0 < crs a c := by
    intro a b c ua ub uc p q
    rw [up_iff] at ua ub uc
    have i2 := crs_id a b c
    by_cases hb : 0 < b.2
    · have hc : c.2 > 0 ∨ a.2 > 0 := by
        by_cases ha : 0 < a.2
        · exact .inr ha
        · left
          have ha0 : a.2 = 0 := by omega
          by_cases hc : 0 < c.2
          · exact hc
          · exfalso
            have hc0 : c.2 = 0 := by omega
            have : crs b c = - (b.2 * c.1) := by unfold crs; rw [hc0]; grind
            have : 0 < b.2 * c.1 := Int.mul_pos hb (by omega)
            omega
      have : 0 < crs a c * b.2 := by
        rw [i2]
        rcases hc with hc | hc
        · have := Int.mul_pos p hc
          have := pos q (show 0 ≤ a.2 by omega)
          omega
        · have := Int.mul_pos q hc
          have := pos p (show 0 ≤ c.2 by omega)
          omega
      rcases Int.lt_trichotomy (crs a c) 0 with h | h | h
      · exfalso
        have := Int.mul_neg_of_neg_of_pos h hb
        omega
      · rw [h, Int.zero_mul] at this; omega
      · exact h
    · have hb0 : b.2 = 0 := by omega
      have hb1 : 0 < b.1 := by omega
      have : crs a b = - (a.2 * b.1) := by unfold crs; rw [hb0]; grind
      have ha : 0 ≤ a.2 * b.1 := Int.mul_nonneg (by omega) (by omega)
      omega
  cases ua : up a with
  | true =>
    have ub : up b = true := by
      cases u : up b with
      | true => rfl
      | false => rw [hlf_up ua, hlf_dn (by rw [u]; decide)] at h1; omega
    have uc : up c = true := by
      cases u : up c with
      | true => rfl
      | false => rw [hlf_up ub, hlf_dn (by rw [u]; decide)] at h2; omega
    exact up3 ua ub uc p q
  | false =>
    have da : ¬ up a = true := by rw [ua]; decide
    have db : ¬ up b = true := fun u => by rw [hlf_up u, hlf_dn da] at h1; omega
    have dc : ¬ up c = true := fun u => by rw [hlf_up u, hlf_dn db] at h2; omega
    have na : a ≠ (0, 0) := by rintro rfl; unfold crs at p; simp at p
    have nb : b ≠ (0, 0) := by rintro rfl; unfold crs at q; simp at q
    have nc : c ≠ (0, 0) := by rintro rfl; unfold crs at q; simp at q
    have upn : ∀ {d : Dr2}, d ≠ (0, 0) → ¬ up d = true → up (-d.1, -d.2) = true := fun {d} hn h => by
      rw [up_iff] at h ⊢
      simp only
      have : d.1 ≠ 0 ∨ d.2 ≠ 0 := by
        by_cases h1 : d.1 = 0
        · exact .inr fun h2 => hn (Prod.ext h1 h2)
        · exact .inl h1
      omega
    have cn : ∀ x y : Dr2, crs (-x.1, -x.2) (-y.1, -y.2) = crs x y := fun x y => by unfold crs; simp only; grind
    have := up3 (upn na da) (upn nb db) (upn nc dc) (by rw [cn]; exact p) (by rw [cn]; exact q)
    rw [cn] at this
    exact this
theorem ahd_trans {a b c : Dr2} (h1 : ahd a b = true) (h2 : ahd b c = true) : ahd a c = true := by
  rw [ahd_iff] at *
  rcases h1 with h1 | ⟨e1, p⟩ <;> rcases h2 with h2 | ⟨e2, q⟩
  · left; omega
  · left; omega
  · left; omega
  · exact .inr ⟨e1.trans e2, crs_trans e1 e2 p q⟩
/-! sorted lists -/
abbrev Srt (l : List Dr2) : Prop := l.Pairwise fun a b => ahd a b = true
theorem srt_uniq : ∀ {l m : List Dr2}, l.Perm m → Srt l → Srt m → l = m
  | [], m, h, _, _ => (h.symm.eq_nil).symm
  | a :: l, [], h, _, _ => nomatch h.eq_nil
  | a :: l, b :: m, h, h1, h2 => by
    obtain ⟨p1, p2⟩ := List.pairwise_cons.mp h1
    obtain ⟨q1, q2⟩ := List.pairwise_cons.mp h2
    have e : a = b := by
      rcases List.mem_cons.mp (h.mem_iff.mp (List.mem_cons_self (a := a) (l := l))) with e | e
      · exact e
      · rcases List.mem_cons.mp (h.mem_iff.mpr (List.mem_cons_self (a := b) (l := m))) with e' | e'
        · exact e'.symm
        · have := p1 b e'
          rw [ahd_anti (q1 a e)] at this
          cases this
    subst e
    rw [srt_uniq h.cons_inv p2 q2]
/-- merging as the program does: behind each of the first list those of the second that are ahead of it -/
def mrg : List Dr2 → List Dr2 → List Dr2
  | [], ys => ys
  | x :: xs, ys => ys.takeWhile (fun y => ahd y x) ++ x :: mrg xs (ys.dropWhile fun y => ahd y x)
theorem mrg_perm : ∀ (xs ys : List Dr2), (mrg xs ys).Perm (xs ++ ys)
  | [], ys => .refl _
  | x :: xs, ys => by
    unfold mrg
    have ih := mrg_perm xs (ys.dropWhile fun y => ahd y x)
    refine (List.perm_middle).trans ?_
    refine (List.Perm.cons x ?_)
    refine (List.Perm.append_left _ ih).trans ?_
    have : (ys.takeWhile (fun y => ahd y x) ++ (xs ++ ys.dropWhile fun y => ahd y x)).Perm (xs ++ (ys.takeWhile (fun y => ahd y x) ++ ys.dropWhile fun y => ahd y x)) := by
      rw [← List.append_assoc, ← List.append_assoc]
      exact List.Perm.append_right _ List.perm_append_comm
    rw [List.takeWhile_append_dropWhile] at this
    exact this
theorem dropWhile_srt {x : Dr2} : ∀ {ys : List Dr2}, Srt ys → (∀ y ∈ ys, Prm y) → Prm x → x ∉ ys → ∀ y ∈ ys.dropWhile (fun y => ahd y x), ahd x y = true
  | [], _, _, _, _, y, hy => by cases hy
  | z :: ys, hs, hp, px, hn, y, hy => by
    obtain ⟨s1, s2⟩ := List.pairwise_cons.mp hs
    by_cases h : ahd z x = true
    · rw [List.dropWhile_cons_of_pos (p := fun y => ahd y x) h] at hy
      exact dropWhile_srt s2 (fun w hw => hp w (List.mem_cons_of_mem _ hw)) px (fun w => hn (List.mem_cons_of_mem _ w)) y hy
    · rw [List.dropWhile_cons_of_neg (p := fun y => ahd y x) h] at hy
      have hz : ahd x z = true := ahd_tot (hp z List.mem_cons_self) px (fun e => hn (by rw [e]; exact List.mem_cons_self)) (by simpa using h)
      rcases List.mem_cons.mp hy with e | e
      · rw [e]; exact hz
      · exact ahd_trans hz (s1 y e)
theorem mrg_srt : ∀ {xs ys : List Dr2}, Srt xs → Srt ys → (∀ x ∈ xs, Prm x) → (∀ y ∈ ys, Prm y) → (∀ x ∈ xs, x ∉ ys) → Srt (mrg xs ys)
  | [], ys, _, h, _, _, _ => h
  | x :: xs, ys, h1, h2, p1, p2, hd => by
    unfold mrg
    obtain ⟨s1, s2⟩ := List.pairwise_cons.mp h1
    have px := p1 x List.mem_cons_self
    have hsub : ∀ y ∈ ys.dropWhile (fun y => ahd y x), y ∈ ys := fun y hy => (List.dropWhile_sublist _).subset hy
    have ih := mrg_srt s2 (h2.sublist (List.dropWhile_sublist fun y => ahd y x)) (fun w hw => p1 w (List.mem_cons_of_mem _ hw)) (fun y hy => p2 y (hsub y hy)) (fun w hw hy => hd w (List.mem_cons_of_mem _ hw) (hsub w hy))
    have hdr := dropWhile_srt h2 p2 px (hd x List.mem_cons_self)
    have hm : ∀ y, y ∈ mrg xs (ys.dropWhile fun y => ahd y x) → ahd x y = true := fun y hy => by
      rcases List.mem_append.mp ((mrg_perm _ _).mem_iff.mp hy) with e | e
      · exact s1 y e
      · exact hdr y e
    have ht : ∀ y ∈ ys.takeWhile (fun y => ahd y x), ahd y x = true := fun y hy => by
      have : ∀ (l : List Dr2), y ∈ l.takeWhile (fun y => ahd y x) → ahd y x = true := fun l => by
        induction l with
        | nil => intro h; cases h
        | cons z l ih =>
          intro h
          by_cases hz : ahd z x = true
          · rw [List.takeWhile_cons_of_pos (p := fun y => ahd y x) hz] at h
            rcases List.mem_cons.mp h with e | e
            · rw [e]; exact hz
            · exact ih e
          · rw [List.takeWhile_cons_of_neg (p := fun y => ahd y x) hz] at h; cases h
      exact this ys hy
    refine List.pairwise_append.mpr ⟨h2.sublist (List.takeWhile_sublist _), List.pairwise_cons.mpr ⟨hm, ih⟩, fun a ha b hb => ?_⟩
    rcases List.mem_cons.mp hb with e | e
    · rw [e]; exact ht a ha
    · exact ahd_trans (ht a ha) (hm b e)
/-- one round of merging neighbours -/
def rnd : List (List Dr2) → List (List Dr2)
  | a :: b :: r => mrg a b :: rnd r
  | l => l
theorem rnd_perm : ∀ (L : List (List Dr2)), (rnd L).flatten.Perm L.flatten
  | [] => .refl _
  | [a] => .refl _
  | a :: b :: r => by
    show (mrg a b ++ (rnd r).flatten).Perm (a ++ (b ++ r.flatten))
    rw [← List.append_assoc]
    exact List.Perm.append (mrg_perm a b) (rnd_perm r)
theorem rnd_srt : ∀ {L : List (List Dr2)}, (∀ l ∈ L, Srt l) → (∀ d ∈ L.flatten, Prm d) → L.flatten.Nodup → ∀ l ∈ rnd L, Srt l
  | [], h, _, _, l, hl => by cases hl
  | [a], h, _, _, l, hl => h l hl
  | a :: b :: r, h, hp, hn, l, hl => by
    have hn' : (a ++ (b ++ r.flatten)).Nodup := hn
    rw [List.nodup_append] at hn'
    obtain ⟨n1, n2, n3⟩ := hn'
    rw [List.nodup_append] at n2
    have hp' : ∀ d ∈ a ++ (b ++ r.flatten), Prm d := hp
    rcases List.mem_cons.mp hl with e | e
    · subst e
      exact mrg_srt (h a (by simp)) (h b (by simp)) (fun x hx => hp' x (by simp [hx])) (fun x hx => hp' x (by simp [hx])) fun x hx hy => n3 x hx x (by simp [hy]) rfl
    · exact rnd_srt (fun l hl => h l (by simp [hl])) (fun d hd => hp' d (List.mem_append_right _ (List.mem_append_right _ hd))) n2.2.1 l e
theorem rnd_len : ∀ (L : List (List Dr2)), (rnd L).length = (L.length + 1) / 2
  | [] => rfl
  | [a] => by show 1 = (1 + 1) / 2; decide
  | a :: b :: r => by
    show (rnd r).length + 1 = (r.length + 2 + 1) / 2
    rw [rnd_len r]; omega
/-- the law's: each put behind those that are ahead of it -/
def ins (l : List Dr2) (d : Dr2) : List Dr2 := if d ∈ l then l else l.take (l.filter fun e => ahd e d).length ++ d :: l.drop (l.filter fun e => ahd e d).length
theorem filter_take {d : Dr2} : ∀ {l : List Dr2}, Srt l → (∀ e ∈ l, Prm e) → Prm d → d ∉ l → (∀ e ∈ l.take (l.filter fun e => ahd e d).length, ahd e d = true) ∧ ∀ e ∈ l.drop (l.filter fun e => ahd e d).length, ahd d e = true
  | [], _, _, _, _ => by simp
  | z :: l, hs, hp, pd, hn => by
    obtain ⟨s1, s2⟩ := List.pairwise_cons.mp hs
    by_cases h : ahd z d = true
    · rw [List.filter_cons_of_pos (p := fun e => ahd e d) h, List.length_cons, List.take_succ_cons, List.drop_succ_cons]
      obtain ⟨i1, i2⟩ := filter_take s2 (fun e he => hp e (List.mem_cons_of_mem _ he)) pd fun w => hn (List.mem_cons_of_mem _ w)
      refine ⟨fun e he => ?_, i2⟩
      rcases List.mem_cons.mp he with c | c
      · rw [c]; exact h
      · exact i1 e c
    · have hz : ahd d z = true := ahd_tot (hp z List.mem_cons_self) pd (fun e => hn (by rw [e]; exact List.mem_cons_self)) (by simpa using h)
      have hall : ∀ e ∈ z :: l, ahd d e = true := fun e he => by
        rcases List.mem_cons.mp he with c | c
        · rw [c]; exact hz
        · exact ahd_trans hz (s1 e c)
      have hf : (z :: l).filter (fun e => ahd e d) = [] := List.filter_eq_nil_iff.mpr fun e he hc => by
        rw [ahd_anti (hall e he)] at hc; cases hc
      rw [hf]
      exact ⟨fun e he => by simp at he, fun e he => hall e (by simpa using he)⟩
theorem ins_srt {l : List Dr2} {d : Dr2} (hs : Srt l) (hp : ∀ e ∈ l, Prm e) (pd : Prm d) : Srt (ins l d) := by
  unfold ins
  split
  · exact hs
  · rename_i hn
    obtain ⟨h1, h2⟩ := filter_take hs hp pd hn
    refine List.pairwise_append.mpr ⟨hs.sublist (List.take_sublist _ _), List.pairwise_cons.mpr ⟨h2, hs.sublist (List.drop_sublist _ _)⟩, fun a ha b hb => ?_⟩
    rcases List.mem_cons.mp hb with e | e
    · rw [e]; exact h1 a ha
    · exact ahd_trans (h1 a ha) (h2 b e)
theorem mem_ins {l : List Dr2} {d x : Dr2} : x ∈ ins l d ↔ x ∈ l ∨ x = d := by
  unfold ins
  split
  · rename_i h
    exact ⟨.inl, fun z => z.elim id fun e => e ▸ h⟩
  · rw [List.mem_append, List.mem_cons]
    constructor
    · rintro (h | h | h)
      · exact .inl (List.mem_of_mem_take h)
      · exact .inr h
      · exact .inl (List.mem_of_mem_drop h)
    · rintro (h | h)
      · rw [← List.take_append_drop (l.filter fun e => ahd e d).length l] at h
        rcases List.mem_append.mp h with h | h
        · exact .inl h
        · exact .inr (.inr h)
      · exact .inr (.inl h)
def rounded (ds : List Dr2) : List Dr2 := ds.foldl ins []
theorem rounded_ok : ∀ {ds l : List Dr2}, Srt l → (∀ e ∈ l, Prm e) → (∀ e ∈ ds, Prm e) → Srt (ds.foldl ins l) ∧ (∀ x, x ∈ ds.foldl ins l ↔ x ∈ l ∨ x ∈ ds)
  | [], l, h, _, _ => ⟨h, fun x => by simp⟩
  | d :: ds, l, h, hl, hd => by
    obtain ⟨i1, i2⟩ := rounded_ok (ds := ds) (ins_srt h hl (hd d List.mem_cons_self)) (fun e he => by
      rcases mem_ins.mp he with c | c
      · exact hl e c
      · rw [c]; exact hd d List.mem_cons_self) fun e he => hd e (List.mem_cons_of_mem _ he)
    refine ⟨i1, fun x => ?_⟩
    rw [List.foldl_cons, i2, mem_ins, List.mem_cons]
    constructor
    · rintro ((h | h) | h)
      · exact .inl h
      · exact .inr (.inl h)
      · exact .inr (.inr h)
    · rintro (h | h | h)
      · exact .inl (.inl h)
      · exact .inl (.inr h)
      · exact .inr h
theorem srt_nodup {l : List Dr2} (h : Srt l) : l.Nodup := h.imp fun {a b} z e => by
  subst e
  rw [ahd_irr] at z; cases z
end Lw

set_option Elab.async false
set_option linter.all false
set_option maxRecDepth 100000
set_option maxHeartbeats 4000000
/-! k02: values, greatest common divisors, directions, by the package and by the law. -/
namespace Lw
open PySem PySem.Spec PyProof.Rows L2 SD
abbrev Pt := Dr2
def ptD (p : Pt) : DV := .tup [.int p.1, .int p.2]
section
variable {μ : Sto} {ρ : En} {α : Type}
@[simp] theorem pt0 {p : Pt} : vIx (ptD p) (.int 0) μ = some (.int p.1) := tup0
@[simp] theorem pt1 {p : Pt} : vIx (ptD p) (.int 1) μ = some (.int p.2) := tup1
theorem compD_mapL {t : DG} {te : DE} (h g : α → DV) : ∀ (l : List α), (∀ x ∈ l, ∃ ρ1, t (h x) ρ μ = some ρ1 ∧ te ρ1 μ = .ok (g x) μ) → compD t tYes' te ρ (l.map h) μ = .ok (l.map g) μ
  | [], _ => rfl
  | d :: ds, hh => by
    obtain ⟨ρ1, e1, e2⟩ := hh d (by simp)
    rw [List.map_cons, List.map_cons]
    unfold compD
    rw [e1]
    show (te ρ1 μ).nox.bind _ = _
    rw [e2]
    show (compD t tYes' te ρ (ds.map h) μ).bind _ = _
    rw [compD_mapL h g ds fun d hd => hh d (List.mem_cons_of_mem _ hd)]
    rfl
theorem loopD_any {t : DG} {f : DS} (p : α → Bool) (r : DV) (I : En → Prop) (h : α → DV) : ∀ (l : List α) (ρ : En), I ρ → (∀ x ∈ l, ∀ ρ, I ρ → ∃ ρ1, t (h x) ρ μ = some ρ1 ∧ (p x = true → f ρ1 μ = .rt r μ) ∧ (p x = false → ∃ ρ', f ρ1 μ = .nx ρ' μ ∧ I ρ')) →
    (l.any p = true → loopD t f (l.map h) ρ μ = .rt r μ) ∧ (l.any p = false → ∃ ρ', loopD t f (l.map h) ρ μ = .nx ρ' μ ∧ I ρ')
  | [], ρ, hi, _ => ⟨fun e => by simp at e, fun _ => ⟨ρ, rfl, hi⟩⟩
  | x :: l, ρ, hi, hh => by
    obtain ⟨ρ1, e1, e2, e3⟩ := hh x (by simp) ρ hi
    cases hp : p x with
    | true =>
      refine ⟨fun _ => ?_, fun e => by simp [hp] at e⟩
      rw [List.map_cons]
      unfold loopD
      rw [e1]
      simp only [e2 hp]
    | false =>
      obtain ⟨ρ', e4, hi'⟩ := e3 hp
      obtain ⟨q1, q2⟩ := loopD_any p r I h l ρ' hi' fun y hy => hh y (List.mem_cons_of_mem _ hy)
      have e5 : loopD t f ((x :: l).map h) ρ μ = loopD t f (l.map h) ρ' μ := by
        rw [List.map_cons]
        conv => lhs; unfold loopD
        rw [e1]
        simp only [e4]
      rw [e5]
      refine ⟨fun e => q1 ?_, fun e => q2 ?_⟩
      · simpa [hp] using e
      · simpa [hp] using e
theorem wk_lst {xs : List DV} : wkOf (.lst xs) μ = some (.fix xs) := rfl
theorem wk_tup {xs : List DV} : wkOf (.tup xs) μ = some (.fix xs) := rfl
end
section
variable {μ : Sto} {ρ : En} {α : Type}
def p0 : DV → Bool
  | .str _ | .non | .bl _ | .int _ | .tup _ | .lst _ | .dct _ _ => true
  | _ => false
def p1 : DV → Bool
  | .tup xs => xs.all p0
  | d => p0 d
def wholeB : DV → Bool
  | .int _ => true
  | _ => false
def numB (lo hi : Int) : DV → Bool
  | .int i => decide (lo ≤ i) && decide (i ≤ hi)
  | _ => false
def pairB (m : Int) : DV → Bool
  | .tup [x, y] => numB (-m) m x && numB (-m) m y
  | _ => false
theorem whole1 {d : DV} (h : p0 d = true) : f_is_whole [d] μ = .ok (.bl (wholeB d)) μ := by
  unfold f_is_whole
  rw [runF1]
  unfold b_is_whole
  cases d <;> first | (simp [p0] at h; done) | simp [T7.sub, wholeB]
theorem whole2 {d : DV} (h : p0 d = true) : f__law_is_whole [d] μ = .ok (.bl (wholeB d)) μ := by
  unfold f__law_is_whole
  rw [runF1]
  unfold b__law_is_whole
  cases d <;> first | (simp [p0] at h; done) | simp [T7.sub, wholeB]
theorem numb1 {d : DV} {lo hi : Int} (h : p0 d = true) : f_is_number [d, .int lo, .int hi] μ = .ok (.bl (numB lo hi d)) μ := by
  unfold f_is_number
  rw [runF3]
  unfold b_is_number
  cases d with
  | int i => by_cases h1 : lo ≤ i <;> simp [whole1 h, wholeB, numB, h1]
  | _ => simp [whole1 h, wholeB, numB]
theorem all_two {xs : List DV} {p : DV → Bool} (h : xs.all p = true) (hl : xs.length = 2) : ∃ x y, xs = [x, y] ∧ p x = true ∧ p y = true := by
  match xs, hl with
  | [x, y], _ => exact ⟨x, y, rfl, by simp at h; exact h.1, by simp at h; exact h.2⟩
theorem pairB_len {m : Int} {xs : List DV} (h : xs.length ≠ 2) : pairB m (.tup xs) = false := by
  match xs with
  | [] => rfl
  | [_] => rfl
  | [_, _] => exact absurd rfl h
  | _ :: _ :: _ :: _ => rfl
theorem pair1 {d : DV} {m : Int} (h : p1 d = true) : f_is_pair [d, .int m] μ = .ok (.bl (pairB m d)) μ := by
  unfold f_is_pair
  rw [runF2]
  unfold b_is_pair
  cases d with
  | tup xs =>
    by_cases hl : xs.length = 2
    · obtain ⟨x, y, rfl, hx, hy⟩ := all_two (p := p0) h hl
      by_cases hn : numB (-m) m x = true <;> simp [T7.sub, numb1, hx, hy, pairB, hn]
    · have : ¬ (xs.length : Int) = 2 := by omega
      simp [T7.sub, pairB_len hl, this]
  | _ => first | (simp [p1, p0] at h; done) | simp [T7.sub, pairB]
/-- all([… for x in two]) -/
theorem rng2 {x y : DV} {m : Int} (hx : p0 x = true) (hy : p0 y = true) : compD (gN 1) tYes' (eAnd (eCall f__law_is_whole (aCons (eVar 1) aNil)) (eAnd (eBin vLe (eUn vNeg (eC (.int m))) (eVar 1)) (eBin vLe (eVar 1) (eC (.int m))))) [some (.tup [x, y]), none] [x, y] μ = .ok [.bl (numB (-m) m x), .bl (numB (-m) m y)] μ := by
  have := compD_map (μ := μ) (ρ := [some (.tup [x, y]), none]) (t := gN 1) (te := eAnd (eCall f__law_is_whole (aCons (eVar 1) aNil)) (eAnd (eBin vLe (eUn vNeg (eC (.int m))) (eVar 1)) (eBin vLe (eVar 1) (eC (.int m))))) (fun z => .bl (numB (-m) m z)) [x, y] (fun z hz => ⟨[some (.tup [x, y]), some z], rfl, by
    have hz0 : p0 z = true := by simp at hz; rcases hz with rfl | rfl <;> assumption
    cases z with
    | int i => by_cases h1 : -m ≤ i <;> simp [whole2 hz0, wholeB, numB, h1]
    | _ => simp [whole2 hz0, wholeB, numB]⟩)
  simpa using this
theorem lc_l {xs : List DV} (h : xs.length ≤ 1000000) {t : DG} {tt : DT} {te : DE} : R.lc1 (.ok (.fix xs) μ) t tt te ρ = compD t tt te ρ xs μ := lc1_fix (by omega)
theorem vAdd_l {xs ys : List DV} (h : xs.length + ys.length ≤ 16777216) : vAdd (.lst xs) (.lst ys) μ = some (.lst (xs ++ ys)) := by
  show (if okLen (xs.length + ys.length) = true then some (DV.lst (xs ++ ys)) else none) = _
  rw [if_pos (okLen_small h)]
theorem compD_filterL {t : DG} {tt : DT} {te : DE} (h g : α → DV) (p : α → Bool) : ∀ (l : List α), (∀ x ∈ l, ∃ ρ1, t (h x) ρ μ = some ρ1 ∧ tt ρ1 μ = .ok (p x) μ ∧ (p x = true → te ρ1 μ = .ok (g x) μ)) → compD t tt te ρ (l.map h) μ = .ok ((l.filter p).map g) μ
  | [], _ => rfl
  | d :: ds, hh => by
    obtain ⟨ρ1, e1, e2, e3⟩ := hh d (by simp)
    have ih := compD_filterL (t := t) (tt := tt) (te := te) h g p ds fun d hd => hh d (List.mem_cons_of_mem _ hd)
    rw [List.map_cons]
    unfold compD
    rw [e1]
    simp only
    rw [e2]
    cases hp : p d with
    | false =>
      rw [List.filter_cons_of_neg (by simp [hp])]
      exact ih
    | true =>
      rw [List.filter_cons_of_pos hp]
      show (te ρ1 μ).nox.bind _ = _
      rw [e3 hp]
      show (compD t tt te ρ (ds.map h) μ).bind _ = _
      rw [ih]
      rfl
/-! parts of whole numbers -/
/-! the package's own test -/
end
section
variable {μ : Sto}
theorem euclid {β : Type} (S : Nat → Int → Int → β) (fin : Int → β) (h0 : ∀ n x, 0 ≤ x → S (n + 1) x 0 = fin x) (h1 : ∀ n x y, 0 ≤ x → 0 < y → S (n + 1) x y = S n y (x % y)) :
    ∀ (m n : Nat) (x y : Int), 0 ≤ x → 0 ≤ y → y.toNat < 2 ^ m → 2 * m < n → S n x y = fin (Int.gcd x y)
  | m, 0, x, y, _, _, _, h => by omega
  | 0, n + 1, x, y, hx, hy, hl, _ => by
    have : y = 0 := by simp at hl; omega
    subst this
    rw [h0 n x hx]
    congr 1
    simp; omega
  | m + 1, n + 1, x, y, hx, hy, hl, hn => by
    by_cases z : y = 0
    · subst z
      rw [h0 n x hx]
      congr 1
      simp; omega
    · have hp : 0 < y := by omega
      have e1 := Int.emod_nonneg x (b := y) z
      have e2 := Int.emod_lt_of_pos x hp
      rw [h1 n x y hx hp, gcd_step x y hx hp]
      obtain ⟨k, rfl⟩ : ∃ k, n = k + 1 := ⟨n - 1, by omega⟩
      generalize x % y = r at e1 e2 ⊢
      by_cases zr : r = 0
      · subst zr
        rw [h0 k y hy]
        congr 1
        simp; omega
      · have hr : 0 < r := by omega
        have f1 := Int.emod_nonneg y (b := r) zr
        have f2 := Int.emod_lt_of_pos y hr
        have f3 : y % r ≤ y - r := by
          have := Int.emod_emod_of_dvd y (Int.dvd_refl r)
          have hd := Int.mul_ediv_add_emod y r
          have : 1 ≤ y / r := (Int.le_ediv_iff_mul_le hr).mpr (by omega)
          have : r * 1 ≤ r * (y / r) := Int.mul_le_mul_of_nonneg_left this (by omega)
          omega
        rw [h1 k y r hy hr, gcd_step y r hy hr]
        refine euclid S fin h0 h1 m k r (y % r) e1 f1 ?_ (by omega)
        have : 2 ^ (m + 1) = 2 * 2 ^ m := by rw [Nat.pow_succ]; omega
        omega
theorem gcdA {a b : Int} (h : a.natAbs < 2 ^ 64) : f__law_gcd [.int a, .int b] μ = .ok (.int (Int.gcd a b)) μ := by
  unfold f__law_gcd
  rw [runF2]
  unfold b__law_gcd
  have := euclid (fun n x y => loopW (tB' (eBin vNe (eVar 2) (eC (.int 0)))) (sPar 2 3 (aCons (eBin vMod (eFn vInt (aCons (eVar 3) aNil)) (eFn vInt (aCons (eVar 2) aNil))) (aCons (eVar 2) aNil))) n [some (.int a), some (.int b), some (.int y), some (.int x)] μ) (fun g => .nx [some (.int a), some (.int b), some (.int 0), some (.int g)] μ)
    (fun n x hx => by unfold loopW; simp [R.toS]) (fun n x y hx hy => by
      conv => lhs; unfold loopW
      have h0 : ¬ y = 0 := by omega
      simp only [tB_ap, eBin_ap, eVar_ap, eC_ap, List.getElem?_cons_succ, List.getElem?_cons_zero, bin1_ok, bin2_ok, vNe_i, of_some, tb_ok, h0, decide_false, Bool.not_false]
      show (match R.par 2 3 _ _ with
        | .nx ρ' μ' => _
        | .ct ρ' μ' => _
        | .bk ρ' μ' => _
        | r => _) = _
      simp [vMod_i hy]) 64 4096 b.natAbs a.natAbs (by omega) (by omega) (by simpa using h) (by decide)
  simp only [Int.gcd_natCast_natCast] at this
  rw [Nat.gcd_comm] at this
  simp [abs_eq, sWhile, this, Int.gcd]
theorem gcdP {a b : Int} (h : b.natAbs < 2 ^ 64) : f_divisor [.int a, .int b] μ = .ok (.int (Int.gcd a b)) μ := by
  unfold f_divisor
  rw [runF2]
  unfold b_divisor
  have := euclid (fun n x y => loopW (tB' (eBin vNe (eVar 1) (eC (.int 0)))) (sPar 0 1 (aCons (eVar 1) (aCons (eBin vMod (eVar 0) (eVar 1)) aNil))) n [some (.int x), some (.int y)] μ) (fun g => .nx [some (.int g), some (.int 0)] μ)
    (fun n x hx => by unfold loopW; simp [R.toS]) (fun n x y hx hy => by
      conv => lhs; unfold loopW
      have h0 : ¬ y = 0 := by omega
      simp only [tB_ap, eBin_ap, eVar_ap, eC_ap, List.getElem?_cons_succ, List.getElem?_cons_zero, bin1_ok, bin2_ok, vNe_i, of_some, tb_ok, h0, decide_false, Bool.not_false]
      show (match R.par 0 1 _ _ with
        | .nx ρ' μ' => _
        | .ct ρ' μ' => _
        | .bk ρ' μ' => _
        | r => _) = _
      simp [vMod_i hy]) 64 4096 a.natAbs b.natAbs (by omega) (by omega) (by simpa using h) (by decide)
  simp only [Int.gcd_natCast_natCast] at this
  simp [abs_eq, sWhile, this, Int.gcd]
def in9 (p : Pt) : Bool := (decide (-999 ≤ p.1) && decide (p.1 ≤ 999)) && (decide (-999 ≤ p.2) && decide (p.2 ≤ 999))
def isD (p : Pt) : Bool := in9 p && decide (Int.gcd p.1 p.2 = 1)
def dirB : DV → Bool
  | .tup [.int x, .int y] => isD (x, y)
  | _ => false
theorem pairB_int {m : Int} {d : DV} (h : pairB m d = true) : ∃ x y, d = .tup [.int x, .int y] ∧ -m ≤ x ∧ x ≤ m ∧ -m ≤ y ∧ y ≤ m := by
  unfold pairB at h
  split at h
  · rename_i a b
    rw [Bool.and_eq_true] at h
    obtain ⟨h1, h2⟩ := h
    unfold numB at h1 h2
    split at h1
    · split at h2
      · simp at h1 h2
        exact ⟨_, _, rfl, h1.1, h1.2, h2.1, h2.2⟩
      · cases h2
    · cases h1
  · cases h
theorem dirB_no {d : DV} (h : pairB 999 d = false) : dirB d = false := by
  unfold dirB
  split
  · rename_i x y
    unfold isD in9
    have h : ((decide (-999 ≤ x) && decide (x ≤ 999)) && (decide (-999 ≤ y) && decide (y ≤ 999))) = false := h
    simp only [h, Bool.false_and]
  · rfl
theorem dirB_yes {x y : Int} (h1 : -999 ≤ x) (h2 : x ≤ 999) (h3 : -999 ≤ y) (h4 : y ≤ 999) : dirB (.tup [.int x, .int y]) = decide (Int.gcd x y = 1) := by
  show (in9 (x, y) && decide (Int.gcd x y = 1)) = _
  have : in9 (x, y) = true := by unfold in9; simp [h1, h2, h3, h4]
  rw [this, Bool.true_and]
theorem dir1 {d : DV} (h : p1 d = true) : f_is_direction [d] μ = .ok (.bl (dirB d)) μ := by
  unfold f_is_direction
  rw [runF1]
  unfold b_is_direction
  cases hp : pairB 999 d with
  | false => simp [pair1 h, hp, dirB_no hp]
  | true =>
    obtain ⟨x, y, rfl, a1, a2, a3, a4⟩ := pairB_int hp
    have hg := gcdP (μ := μ) (a := x) (b := y) (by omega)
    simp [pair1 h, hp, hg, dirB_yes a1 a2 a3 a4]
    omega
theorem dir2 {d : DV} (h : p1 d = true) : f__law_is_dir [d] μ = .ok (.bl (dirB d)) μ := by
  unfold f__law_is_dir
  rw [runF1]
  unfold b__law_is_dir
  cases d with
  | tup xs =>
    by_cases hl : xs.length = 2
    · obtain ⟨x, y, rfl, hx, hy⟩ := all_two (p := p0) h hl
      cases hp : pairB 999 (.tup [x, y]) with
      | false =>
        have hp' : (numB (-999) 999 x && numB (-999) 999 y) = false := hp
        simp [T7.sub, wk_two, lc_two, wipe1, rng2 (m := 999) hx hy, all2, hp', dirB_no hp]
      | true =>
        obtain ⟨u, v, e, a1, a2, a3, a4⟩ := pairB_int hp
        obtain ⟨rfl, rfl⟩ : x = .int u ∧ y = .int v := by simpa using e
        have hp' : (numB (-999) 999 (.int u) && numB (-999) 999 (.int v)) = true := hp
        have hg := gcdA (μ := μ) (a := u) (b := v) (by omega)
        simp [T7.sub, wk_two, lc_two, wipe1, rng2 (m := 999) hx hy, all2, hp', hg, dirB_yes a1 a2 a3 a4]
        omega
    · have : ¬ (xs.length : Int) = 2 := by omega
      have hp := pairB_len (m := 999) hl
      simp [T7.sub, this, dirB_no hp]
  | _ => first | (simp [p1, p0] at h; done) | simp [T7.sub, dirB]
end
end Lw

set_option Elab.async false
set_option linter.all false
set_option maxRecDepth 100000
set_option maxHeartbeats 4000000
/-! k02: equal points, equal values, what is got; the order in code. -/
namespace Lw
open PySem PySem.Spec PyProof.Rows L2 SD
def ptY (p : Pt) : PyData := .tuple [.int p.1, .int p.2]
theorem toPy_pt {p : Pt} : toPy (ptD p) = some (ptY p) := rfl
theorem toPy_pts : ∀ {l : List Pt}, toPyL (l.map ptD) = some (l.map ptY)
  | [] => rfl
  | p :: l => by
    rw [List.map_cons, List.map_cons]
    unfold toPyL
    rw [toPy_pt, toPy_pts]
theorem shaped_pt {p : Pt} : SeqAt.shaped (ptY p) = true := rfl
theorem lay_pts : ∀ {l : List Pt}, PyData.canLayAll0 (l.map ptY) = true
  | [] => rfl
  | p :: l => by
    rw [List.map_cons]
    unfold PyData.canLayAll0
    rw [lay_pts]; rfl
theorem dep_pts : ∀ {l : List Pt}, PyData.depthAll (l.map ptY) ≤ 2
  | [] => by decide
  | p :: l => by
    rw [List.map_cons]
    unfold PyData.depthAll
    have := dep_pts (l := l)
    have h : (ptY p).depth ≤ 2 := by unfold ptY; simp [PyData.depth, PyData.depthAll]
    omega
theorem shaped_pts {l : List Pt} : SeqAt.shaped (.list (l.map ptY)) = true := by
  unfold SeqAt.shaped
  have h := dep_pts (l := l)
  rw [Bool.and_eq_true, decide_eq_true_eq]
  refine ⟨?_, ?_⟩
  · simp only [PyData.canLay0]; exact lay_pts
  · simp only [PyData.depth]; omega
theorem eqv_pt {p q : Pt} : PyData.eqv (ptY p) (ptY q) = decide (p = q) := by
  obtain ⟨a, b⟩ := p
  obtain ⟨c, d⟩ := q
  unfold ptY
  simp only [PyData.eqv, PyData.eqvAll, Prod.mk.injEq, Bool.and_true]
  rw [Bool.eq_iff_iff]
  simp
section
variable {μ : Sto}
theorem vEq_pt {p q : Pt} : vEq (ptD p) (ptD q) μ = some (.bl (decide (p = q))) := by
  show (if (SeqAt.shaped (ptY p) && SeqAt.shaped (ptY q)) = true then some (PyData.eqv (ptY p) (ptY q)) else none).map DV.bl = _
  rw [shaped_pt, shaped_pt, if_pos (by rfl), eqv_pt]; rfl
theorem vNe_pt {p q : Pt} : vNe (ptD p) (ptD q) μ = some (.bl (!decide (p = q))) := by
  show (if (SeqAt.shaped (ptY p) && SeqAt.shaped (ptY q)) = true then some (PyData.eqv (ptY p) (ptY q)) else none).map (fun b => DV.bl (!b)) = _
  rw [shaped_pt, shaped_pt, if_pos (by rfl), eqv_pt]; rfl
theorem vNotIn_pt {p : Pt} {i : Nat} {l : List Pt} (h : μ[i]? = some (.lst (l.map ptD))) : vNotIn (ptD p) (.cell i) μ = some (.bl (!decide (p ∈ l))) := by
  have h1 : seqOf μ (.cell i) = some (l.map ptD) := by show lstOf μ (.cell i) = _; simp only [lstOf, h]
  have h2 : inD (ptD p) (.cell i) μ = inL (ptD p) (l.map ptD) := by
    show (match seqOf μ (.cell i) with | some xs => inL (ptD p) xs | none => none) = _
    rw [h1]
  show (inD (ptD p) (.cell i) μ).map (fun b => DV.bl (!b)) = _
  rw [h2]
  unfold inL
  rw [toPy_pt, toPy_pts]
  simp only [shaped_pt, shaped_pts, Bool.and_self, if_true, Option.map_some]
  have : (l.map ptY).any (fun z => PyData.eqv z (ptY p)) = decide (p ∈ l) := by
    rw [List.any_map]
    rw [Bool.eq_iff_iff, List.any_eq_true, decide_eq_true_eq]
    constructor
    · rintro ⟨z, hz, e⟩
      have e : PyData.eqv (ptY z) (ptY p) = true := e
      rw [eqv_pt, decide_eq_true_eq] at e
      rw [← e]; exact hz
    · exact fun hp => ⟨p, hp, by show PyData.eqv (ptY p) (ptY p) = true; rw [eqv_pt]; simp⟩
  rw [this]
theorem ne_nil {l : List Pt} : vNe (.lst (l.map ptD)) (.lst []) μ = some (.bl (!l.isEmpty)) := by
  have h0 : SeqAt.shaped (.list []) = true := rfl
  have e1 : toPyC μ (.lst (l.map ptD)) = some (.list (l.map ptY)) := by show toPy (.lst (l.map ptD)) = _; unfold toPy; rw [toPy_pts]; rfl
  have e2 : toPyC μ (.lst []) = some (.list []) := rfl
  show (eqP (.lst (l.map ptD)) (.lst []) μ).map (fun b => DV.bl (!b)) = _
  unfold eqP
  rw [e1, e2]
  simp only [shaped_pts, h0, Bool.and_self, if_true, Option.map_some]
  cases l with
  | nil => rfl
  | cons p l => simp [PyData.eqv, PyData.eqvAll]
end
theorem loopA_list {α : Type} {t : DG} {tt : DT} {bd : En → List I2 → Sto → R (List I2)} {ρ : En} {μ : Sto} (h : α → DV) (F : α → List I2 → List I2) (J : List α → List I2 → Prop)
    (hs : ∀ x r ms, J (x :: r) ms → J r (F x ms) ∧ ∃ ρ1, t (h x) ρ μ = some ρ1 ∧ ((tt ρ1 μ = .ok true μ ∧ bd ρ1 ms μ = .ok (F x ms) μ) ∨ (tt ρ1 μ = .ok false μ ∧ F x ms = ms))) :
    ∀ (l : List α) (ds : List DV) (n k : Nat) (ms : List I2), ds.drop k = l.map h → ds.length + 1 = n + k → k ≤ ds.length → J l ms → loopA (.fix ds) t tt bd ρ n k ms μ = .ok (l.foldl (fun m x => F x m) ms) μ
  | [], ds, n, k, ms, hd, hn, hk0, _ => by
    have hk : ds.length ≤ k := List.drop_eq_nil_iff.mp hd
    cases n with
    | zero => omega
    | succ n =>
      unfold loopA
      have e : wkAt (.fix ds) μ k = some none := by show some ds[k]? = _; rw [List.getElem?_eq_none_iff.mpr hk]
      simp only [e]
      rfl
  | x :: l, ds, n, k, ms, hd, hn, hk0, hJ => by
    have hk : k < ds.length := by
      rcases Nat.lt_or_ge k ds.length with c | c
      · exact c
      · rw [List.drop_eq_nil_of_le c] at hd; cases hd
    have hg : ds[k]? = some (h x) := by
      have := congrArg List.head? hd
      rw [List.head?_drop] at this
      exact this
    have hd' : ds.drop (k + 1) = l.map h := by
      have := congrArg List.tail hd
      rw [List.tail_drop] at this
      exact this
    cases n with
    | zero => omega
    | succ n =>
      obtain ⟨hJ', ρ1, e1, e2⟩ := hs x l ms hJ
      have ih := loopA_list h F J hs l ds n (k + 1) (F x ms) hd' (by omega) hk hJ'
      unfold loopA
      have e : wkAt (.fix ds) μ k = some (some (h x)) := by show some ds[k]? = _; rw [hg]
      simp only [e, e1]
      rcases e2 with ⟨a, b⟩ | ⟨a, b⟩
      · rw [a]
        show (bd ρ1 ms μ).bind _ = _
        rw [b]
        exact ih
      · rw [a]
        show loopA (.fix ds) t tt bd ρ n (k + 1) ms μ = _
        rw [b] at ih
        rw [ih]
        show _ = R.ok ((x :: l).foldl (fun m x => F x m) ms) μ
        rw [List.foldl_cons, b]
def lowS (μ : Sto) : Prop := ∀ c ∈ μ, c.low 0 = true
theorem CO.low_mono {m n : Nat} (h : m ≤ n) : ∀ {c : CO}, c.low m = true → c.low n = true
  | .dead, _ => rfl
  | .lst xs, e => lowL_mono h e
  | .ins c ns xs, e => lowL_mono h e
theorem lowS_all {μ : Sto} (h : lowS μ) (n : Nat) : μ.all (CO.low n) = true := List.all_eq_true.mpr fun c hc => CO.low_mono (Nat.zero_le _) (h c hc)
theorem low_pts {n : Nat} : ∀ {l : List Pt}, lowL n (l.map ptD) = true
  | [] => rfl
  | p :: l => by
    rw [List.map_cons]
    show ((ptD p).low n && lowL n (l.map ptD)) = true
    rw [low_pts]; rfl
theorem lowS_add {μ : Sto} (h : lowS μ) {l : List Pt} : lowS (μ ++ [.lst (l.map ptD)]) := fun c hc => by
  rcases List.mem_append.mp hc with m | m
  · exact h c m
  · have : c = .lst (l.map ptD) := by simpa using m
    subst this
    exact low_pts
section
variable {μ : Sto}
theorem asP_pt {p : Pt} : asP (ptD p) = some p := rfl
end
section
variable {μ : Sto} {ρ : En} {α : Type}
theorem same_tup (k : Nat) {ds : List DV} (h : ∀ d ∈ ds, f__law_same (k + 1) [d, d] μ = .ok (.bl true) μ) (hl : ds.length ≤ 1000) : f__law_same (k + 2) [.tup ds, .tup ds] μ = .ok (.bl true) μ := by
  rw [same_succ, runF2]
  unfold b__law_same
  have wp : wipeE [some (.tup ds), some (.tup ds), none, none, none] [3] = [some (.tup ds), some (.tup ds), none, none, none] := rfl
  have hc : compD (gN 3) tYes' (eCall (f__law_same (k + 1)) (aCons (eBin vIx (eVar 0) (eVar 3)) (aCons (eBin vIx (eVar 1) (eVar 3)) aNil))) [some (.tup ds), some (.tup ds), none, none, none] ((List.range ds.length).map fun (i : Nat) => DV.int (i : Int)) μ = .ok ((List.range ds.length).map fun i => .bl true) μ := by
    have := compD_map (μ := μ) (ρ := [some (.tup ds), some (.tup ds), none, none, none]) (t := gN 3) (te := eCall (f__law_same (k + 1)) (aCons (eBin vIx (eVar 0) (eVar 3)) (aCons (eBin vIx (eVar 1) (eVar 3)) aNil))) (fun _ => .bl true) ((List.range ds.length).map fun (i : Nat) => DV.int (i : Int)) (fun z hz => by
      obtain ⟨i, hi, rfl⟩ := List.mem_map.mp hz
      have hi' : i < ds.length := List.mem_range.mp hi
      have hx : vIx (.tup ds) (.int (i : Int)) μ = some ds[i] := by
        show atI ds (i : Int) = _
        rw [atI_nat hi', List.getElem?_eq_getElem hi']
      have hlf := h _ (List.getElem_mem hi')
      exact ⟨_, rfl, by simp [hx, hlf]⟩)
    rw [this, List.map_map]
    rfl
  have hv : vAll [.lst ((List.range ds.length).map fun _ => DV.bl true)] μ = some (.bl true) := by
    rw [vAll_map (μ := μ) (List.range ds.length) fun _ => true]
    simp
  have hrg : ∀ ρ : En, ρ[1]? = some (some (.tup ds)) → iRng1' (aCons (eFn vLen (aCons (eVar 1) aNil)) aNil) ρ μ = .ok (.fix ((List.range ds.length).map fun (i : Nat) => DV.int (i : Int))) μ := by
    intro ρ hρ
    rw [iRng1_ap]
    simp only [eFn_ap, aCons_ap, aNil_ap, eVar_ap, hρ, ac1_ok, ac2_ok, mk_ok, vLen_t, of_some, rg1_ok]
    rw [rng_n hl, of_some]
  have hlc : eLc (iRng1' (aCons (eFn vLen (aCons (eVar 1) aNil)) aNil)) (gN 3) tYes' (eCall (f__law_same (k + 1)) (aCons (eBin vIx (eVar 0) (eVar 3)) (aCons (eBin vIx (eVar 1) (eVar 3)) aNil))) [3] [some (.tup ds), some (.tup ds), none, none, none] μ = .ok (.lst ((List.range ds.length).map fun _ => DV.bl true)) μ := by
    rw [eLc_ap, wp, hrg _ rfl, lc_rng hl, hc, mk_ok]
  have hall : eFn vAll (aCons (eLc (iRng1' (aCons (eFn vLen (aCons (eVar 1) aNil)) aNil)) (gN 3) tYes' (eCall (f__law_same (k + 1)) (aCons (eBin vIx (eVar 0) (eVar 3)) (aCons (eBin vIx (eVar 1) (eVar 3)) aNil))) [3]) aNil) [some (.tup ds), some (.tup ds), none, none, none] μ = .ok (.bl true) μ := by
    rw [eFn_ap, aCons_ap, hlc, ac1_ok, aNil_ap, ac2_ok, mk_ok, hv, of_some]
  show SR.fin .fz μ.length (_ : SR) = _
  generalize eFn vAll (aCons (eLc (iRng1' (aCons (eFn vLen (aCons (eVar 1) aNil)) aNil)) (gN 3) tYes' (eCall (f__law_same (k + 1)) (aCons (eBin vIx (eVar 0) (eVar 3)) (aCons (eBin vIx (eVar 1) (eVar 3)) aNil))) [3]) aNil) = E at hall ⊢
  simp [T7.sub, hall]
end
section
variable {μ : Sto}
end
section
variable {μ : Sto}
structure LL (μ : Sto) (a : DV) (xs : List DV) : Prop where
  ty : tyOf μ a = some .lst
  ln : vLen [a] μ = some (.int xs.length)
  ix : ∀ (i : Nat) (h : i < xs.length), vIx a (.int (i : Int)) μ = some xs[i]
theorem LL.lst {xs : List DV} : LL μ (.lst xs) xs := ⟨rfl, rfl, fun i h => by
  show atI xs (i : Int) = _
  rw [atI_nat h, List.getElem?_eq_getElem h]⟩
theorem LL.cell {i : Nat} {xs : List DV} (h : μ[i]? = some (.lst xs)) : LL μ (.cell i) xs := by
  have e : seqOf μ (.cell i) = some xs := by
    show lstOf μ (.cell i) = _
    simp only [lstOf, h]
  refine ⟨by simp only [tyOf, h], ?_, fun j hj => ?_⟩
  · show (match seqOf μ (.cell i) with
      | some xs => some (DV.int xs.length)
      | none => none) = _
    rw [e]
  · show (match seqOf μ (.cell i) with
      | some xs => atI xs (j : Int)
      | none => none) = _
    rw [e]
    show atI xs (j : Int) = _
    rw [atI_nat hj, List.getElem?_eq_getElem hj]
theorem same_ll (k : Nat) {a : DV} {xs ys : List DV} (L : LL μ a xs) (hn : xs.length = ys.length) (h : ∀ (i : Nat) (h1 : i < xs.length) (h2 : i < ys.length), f__law_same (k + 1) [xs[i], ys[i]] μ = .ok (.bl true) μ) (hl : ys.length ≤ 1000) : f__law_same (k + 2) [a, .lst ys] μ = .ok (.bl true) μ := by
  rw [same_succ, runF2]
  unfold b__law_same
  have ty := L.ty
  have ln := L.ln
  rw [hn] at ln
  have wp : wipeE [some a, some (.lst ys), none, none, none] [3] = [some a, some (.lst ys), none, none, none] := rfl
  have hc : compD (gN 3) tYes' (eCall (f__law_same (k + 1)) (aCons (eBin vIx (eVar 0) (eVar 3)) (aCons (eBin vIx (eVar 1) (eVar 3)) aNil))) [some a, some (.lst ys), none, none, none] ((List.range ys.length).map fun (i : Nat) => DV.int (i : Int)) μ = .ok ((List.range ys.length).map fun i => .bl true) μ := by
    have := compD_map (μ := μ) (ρ := [some a, some (.lst ys), none, none, none]) (t := gN 3) (te := eCall (f__law_same (k + 1)) (aCons (eBin vIx (eVar 0) (eVar 3)) (aCons (eBin vIx (eVar 1) (eVar 3)) aNil))) (fun _ => .bl true) ((List.range ys.length).map fun (i : Nat) => DV.int (i : Int)) (fun z hz => by
      obtain ⟨i, hi, rfl⟩ := List.mem_map.mp hz
      have hi' : i < ys.length := List.mem_range.mp hi
      have hx := L.ix i (by omega)
      have hy := (LL.lst (μ := μ) (xs := ys)).ix i hi'
      have hlf := h i (by omega) hi'
      exact ⟨_, rfl, by simp [hx, hy, hlf]⟩)
    rw [this, List.map_map]
    rfl
  have hv : vAll [.lst ((List.range ys.length).map fun _ => DV.bl true)] μ = some (.bl true) := by
    rw [vAll_map (μ := μ) (List.range ys.length) fun _ => true]
    simp
  have hrg : ∀ ρ : En, ρ[1]? = some (some (.lst ys)) → iRng1' (aCons (eFn vLen (aCons (eVar 1) aNil)) aNil) ρ μ = .ok (.fix ((List.range ys.length).map fun (i : Nat) => DV.int (i : Int))) μ := by
    intro ρ hρ
    rw [iRng1_ap]
    simp only [eFn_ap, aCons_ap, aNil_ap, eVar_ap, hρ, ac1_ok, ac2_ok, mk_ok, vLen_l, of_some, rg1_ok]
    rw [rng_n hl, of_some]
  have hlc : eLc (iRng1' (aCons (eFn vLen (aCons (eVar 1) aNil)) aNil)) (gN 3) tYes' (eCall (f__law_same (k + 1)) (aCons (eBin vIx (eVar 0) (eVar 3)) (aCons (eBin vIx (eVar 1) (eVar 3)) aNil))) [3] [some a, some (.lst ys), none, none, none] μ = .ok (.lst ((List.range ys.length).map fun _ => DV.bl true)) μ := by
    rw [eLc_ap, wp, hrg _ rfl, lc_rng hl, hc, mk_ok]
  have hall : eFn vAll (aCons (eLc (iRng1' (aCons (eFn vLen (aCons (eVar 1) aNil)) aNil)) (gN 3) tYes' (eCall (f__law_same (k + 1)) (aCons (eBin vIx (eVar 0) (eVar 3)) (aCons (eBin vIx (eVar 1) (eVar 3)) aNil))) [3]) aNil) [some a, some (.lst ys), none, none, none] μ = .ok (.bl true) μ := by
    rw [eFn_ap, aCons_ap, hlc, ac1_ok, aNil_ap, ac2_ok, mk_ok, hv, of_some]
  show SR.fin .fz μ.length (_ : SR) = _
  generalize eFn vAll (aCons (eLc (iRng1' (aCons (eFn vLen (aCons (eVar 1) aNil)) aNil)) (gN 3) tYes' (eCall (f__law_same (k + 1)) (aCons (eBin vIx (eVar 0) (eVar 3)) (aCons (eBin vIx (eVar 1) (eVar 3)) aNil))) [3]) aNil) = E at hall ⊢
  simp [T7.sub, hall, ty, ln]
theorem same_pt (k : Nat) {p : Pt} : f__law_same (k + 2) [ptD p, ptD p] μ = .ok (.bl true) μ := by
  refine same_tup k (fun d hd => ?_) (by show 2 ≤ _; decide)
  simp only [List.mem_cons, List.not_mem_nil, or_false] at hd
  rcases hd with rfl | rfl <;> exact same_leaf k rfl
theorem same_pts (k : Nat) {a : DV} {l : List Pt} (L : LL μ a (l.map ptD)) (hl : l.length ≤ 1000) : f__law_same (k + 3) [a, .lst (l.map ptD)] μ = .ok (.bl true) μ :=
  same_ll (k + 1) L rfl (fun i h1 h2 => by rw [List.getElem_map]; exact same_pt k) (by rw [List.length_map]; exact hl)
theorem same_s {x : Str} (k : Nat) (hs : vEq (.str x) (.str x) μ = some (.bl true)) : f__law_same (k + 1) [.str x, .str x] μ = .ok (.bl true) μ := by
  have wp : wipeE [some (.str x), some (.str x), none, none, none] [4] = [some (.str x), some (.str x), none, none, none] := rfl
  have hk : compD (gN 4) tYes' (eLst (aCons (eFn vIsi (aCons (eVar 4) (aCons (eC (.ty .bl)) aNil))) (aCons (eFn vIsi (aCons (eVar 4) (aCons (eC (.ty .int)) aNil))) (aCons (eFn vIsi (aCons (eVar 4) (aCons (eC (.ty .str)) aNil))) (aCons (eFn vIsi (aCons (eVar 4) (aCons (eC (.ty .dct)) aNil))) (aCons (eBin vIs (eVar 4) (eC .non)) aNil)))))) [some (.str x), some (.str x), none, none, none] [.str x, .str x] μ = .ok [.lst [.bl false, .bl false, .bl true, .bl false, .bl false], .lst [.bl false, .bl false, .bl true, .bl false, .bl false]] μ := by
    have hi : vIs (.str x) .non μ = some (.bl false) := rfl
    have := compD_map (μ := μ) (ρ := [some (.str x), some (.str x), none, none, none]) (t := gN 4) (te := eLst (aCons (eFn vIsi (aCons (eVar 4) (aCons (eC (.ty .bl)) aNil))) (aCons (eFn vIsi (aCons (eVar 4) (aCons (eC (.ty .int)) aNil))) (aCons (eFn vIsi (aCons (eVar 4) (aCons (eC (.ty .str)) aNil))) (aCons (eFn vIsi (aCons (eVar 4) (aCons (eC (.ty .dct)) aNil))) (aCons (eBin vIs (eVar 4) (eC .non)) aNil)))))) (fun _ => .lst [.bl false, .bl false, .bl true, .bl false, .bl false]) [.str x, .str x] (fun z hz => ⟨_, rfl, by
      have e : z = .str x := by simpa using hz
      subst e
      simp [T7.sub, hi, mkL5]⟩)
    simpa using this
  unfold f__law_same
  rw [runF2]
  unfold b__law_same
  simp [T7.sub, wk_two, lc_two, wp, hk, eq5, hs]
theorem shaped_s {z : Str} (h : PyData.strOk z = true) : SeqAt.shaped (.str z) = true := by
  unfold SeqAt.shaped
  simp [PyData.canLay0, PyData.depth, h]
theorem vEq_s {a b : Str} (ha : PyData.strOk a = true) (hb : PyData.strOk b = true) : vEq (.str a) (.str b) μ = some (.bl (a == b)) := by
  show (if (SeqAt.shaped (.str a) && SeqAt.shaped (.str b)) = true then some (PyData.eqv (.str a) (.str b)) else none).map DV.bl = _
  rw [shaped_s ha, shaped_s hb, if_pos (by rfl)]
  simp [PyData.eqv]
theorem in_two {a b c : Str} (ha : PyData.strOk a = true) (hb : PyData.strOk b = true) (hc : PyData.strOk c = true) : vIn (.str a) (.tup [.str b, .str c]) μ = some (.bl (b == a || c == a)) := by
  have hl : SeqAt.shaped (.list [.str b, .str c]) = true := by
    unfold SeqAt.shaped
    simp [PyData.canLay0, PyData.canLayAll0, PyData.depth, PyData.depthAll, hb, hc]
  show (if (SeqAt.shaped (.str a) && SeqAt.shaped (.list [.str b, .str c])) = true then some ([PyData.str b, .str c].any fun z => PyData.eqv z (.str a)) else none).map DV.bl = _
  rw [shaped_s ha, hl, if_pos (by rfl)]
  simp [PyData.eqv]
theorem eq_no : vEq (.str "no") (.str "no") μ = some (.bl true) := by rw [vEq_s (by decide +kernel) (by decide +kernel)]; simp
theorem got_told {ρ : En} {fs : DS} {fl : DE} {d : DV} {μ1 : Sto} (h : fl ρ μ = .ok d μ1) : eGot csL fs fl ρ μ = .ok (.tup [.str "told", d]) μ1 := by
  unfold eGot
  rw [h]
end
theorem noE_pts : ∀ {l : List Pt}, noEL (l.map ptD) = true
  | [] => rfl
  | p :: l => by
    rw [List.map_cons]
    show ((ptD p).noE && noEL (l.map ptD)) = true
    rw [noE_pts]; rfl
theorem noE_enc {b : Bx} : CO.noE (enc b) = true := by
  have : ∀ l : List Int, noEL (l.map .int) = true := fun l => by
    induction l with
    | nil => rfl
    | cons a l ih => simp [noEL, DV.noE, ih]
  unfold enc CO.noE
  simp [noEL, DV.noE, this]
theorem gcd_lt {u v : Int} (hu : u.natAbs < 100000) (hv : v.natAbs < 100000) : (Int.gcd u v : Int) < 1073741824 := by
  unfold Int.gcd
  by_cases h : u.natAbs = 0
  · rw [h, Nat.gcd_zero_left]; omega
  · have := Nat.le_of_dvd (by omega) (Nat.gcd_dvd_left u.natAbs v.natAbs)
    omega
theorem div_le {x g : Int} (hg : 0 < g) : (x / g).natAbs ≤ x.natAbs := Int.natAbs_ediv_le_natAbs x g
theorem gcd_pos {p : Pt} (h : p ≠ (0, 0)) : 0 < (Int.gcd p.1 p.2 : Int) := by
  have : Int.gcd p.1 p.2 ≠ 0 := fun e => by
    obtain ⟨h1, h2⟩ := Int.gcd_eq_zero_iff.mp e
    exact h (Prod.ext h1 h2)
  omega
theorem div_nz {u v : Int} (h : 0 < (Int.gcd u v : Int)) : ((u / (Int.gcd u v : Int), v / (Int.gcd u v : Int)) : Pt) ≠ (0, 0) := by
  intro e
  obtain ⟨h1, h2⟩ := Prod.mk.inj e
  have a1 := Int.ediv_mul_cancel (Int.gcd_dvd_left (a := u) (b := v))
  have a2 := Int.ediv_mul_cancel (Int.gcd_dvd_right (a := u) (b := v))
  rw [h1, Int.zero_mul] at a1
  rw [h2, Int.zero_mul] at a2
  rw [← a1, ← a2] at h
  simp at h
section
variable {μ : Sto}
end
section
variable {μ : Sto}
/-- a dict that equals itself -/
theorem same_d (k : Nat) {ks : List Key} {xs : List DV} (hs : vEq (.dct ks xs) (.dct ks xs) μ = some (.bl true)) : f__law_same (k + 1) [.dct ks xs, .dct ks xs] μ = .ok (.bl true) μ := by
  have wp : wipeE [some (.dct ks xs), some (.dct ks xs), none, none, none] [4] = [some (.dct ks xs), some (.dct ks xs), none, none, none] := rfl
  have hk : compD (gN 4) tYes' (eLst (aCons (eFn vIsi (aCons (eVar 4) (aCons (eC (.ty .bl)) aNil))) (aCons (eFn vIsi (aCons (eVar 4) (aCons (eC (.ty .int)) aNil))) (aCons (eFn vIsi (aCons (eVar 4) (aCons (eC (.ty .str)) aNil))) (aCons (eFn vIsi (aCons (eVar 4) (aCons (eC (.ty .dct)) aNil))) (aCons (eBin vIs (eVar 4) (eC .non)) aNil)))))) [some (.dct ks xs), some (.dct ks xs), none, none, none] [.dct ks xs, .dct ks xs] μ = .ok [.lst [.bl false, .bl false, .bl false, .bl true, .bl false], .lst [.bl false, .bl false, .bl false, .bl true, .bl false]] μ := by
    have hi : vIs (.dct ks xs) .non μ = some (.bl false) := rfl
    have := compD_map (μ := μ) (ρ := [some (.dct ks xs), some (.dct ks xs), none, none, none]) (t := gN 4) (te := eLst (aCons (eFn vIsi (aCons (eVar 4) (aCons (eC (.ty .bl)) aNil))) (aCons (eFn vIsi (aCons (eVar 4) (aCons (eC (.ty .int)) aNil))) (aCons (eFn vIsi (aCons (eVar 4) (aCons (eC (.ty .str)) aNil))) (aCons (eFn vIsi (aCons (eVar 4) (aCons (eC (.ty .dct)) aNil))) (aCons (eBin vIs (eVar 4) (eC .non)) aNil)))))) (fun _ => .lst [.bl false, .bl false, .bl false, .bl true, .bl false]) [.dct ks xs, .dct ks xs] (fun z hz => ⟨_, rfl, by
      have e : z = .dct ks xs := by simpa using hz
      subst e
      simp [T7.sub, hi, mkL5]⟩)
    simpa using this
  unfold f__law_same
  rw [runF2]
  unfold b__law_same
  simp [T7.sub, wk_two, lc_two, wp, hk, eq5, hs]
/-- a value of the laws: told to defs, raised, compared -/
structure Val (d : DV) : Prop where
  p : p1 d = true
  e : d.noE = true
  l : d.low 0 = true
  s : ∀ (μ : Sto) (k : Nat), f__law_same (k + 3) [d, d] μ = .ok (.bl true) μ
theorem Val.leaf {d : DV} (h : leaf d = true) : Val d := ⟨by cases d <;> first | rfl | (cases h), by cases d <;> first | rfl | (cases h), by cases d <;> first | rfl | (cases h), fun μ k => same_leaf _ h⟩
theorem Val.str {z : Str} (h : PyData.strOk z = true) : Val (.str z) := ⟨rfl, rfl, rfl, fun μ k => same_s _ (by rw [vEq_s h h]; simp)⟩
theorem Val.pt {p : Pt} : Val (ptD p) := ⟨rfl, rfl, rfl, fun μ k => same_pt _⟩
theorem same_str (k : Nat) {z : Str} (h : PyData.strOk z = true) : f__law_same (k + 1) [.str z, .str z] μ = .ok (.bl true) μ := same_s _ (by rw [vEq_s h h]; simp)
/-- tuples and lists of leaves and texts -/
def lf (d : DV) : Bool := match d with
  | .str z => PyData.strOk z
  | d => leaf d
theorem lf_same (k : Nat) {d : DV} (h : lf d = true) : f__law_same (k + 1) [d, d] μ = .ok (.bl true) μ := by
  cases d with
  | str z => exact same_str k h
  | _ => exact same_leaf k h
theorem lf_p0 {d : DV} (h : lf d = true) : p0 d = true := by cases d <;> first | rfl | (cases h)
theorem lf_e {d : DV} (h : lf d = true) : d.noE = true := by cases d <;> first | rfl | (cases h)
theorem lf_l {d : DV} (h : lf d = true) : d.low 0 = true := by cases d <;> first | rfl | (cases h)
theorem lfs_e : ∀ {ds : List DV}, ds.all lf = true → noEL ds = true
  | [], _ => rfl
  | d :: ds, h => by
    rw [List.all_cons, Bool.and_eq_true] at h
    show (d.noE && noEL ds) = true
    rw [lf_e h.1, lfs_e h.2]; rfl
theorem lfs_l : ∀ {ds : List DV}, ds.all lf = true → lowL 0 ds = true
  | [], _ => rfl
  | d :: ds, h => by
    rw [List.all_cons, Bool.and_eq_true] at h
    show (d.low 0 && lowL 0 ds) = true
    rw [lf_l h.1, lfs_l h.2]; rfl
theorem Val.tup {ds : List DV} (h : ds.all lf = true) (hl : ds.length ≤ 1000) : Val (.tup ds) := ⟨List.all_eq_true.mpr fun d hd => lf_p0 (List.all_eq_true.mp h d hd), lfs_e h, lfs_l h, fun μ k => same_tup (k + 1) (fun d hd => lf_same _ (List.all_eq_true.mp h d hd)) hl⟩
theorem Val.lst {ds : List DV} (h : ds.all lf = true) (hl : ds.length ≤ 1000) : Val (.lst ds) := ⟨rfl, lfs_e h, lfs_l h, fun μ k => same_ll (k + 1) LL.lst rfl (fun i h1 h2 => lf_same _ (List.all_eq_true.mp h _ (List.getElem_mem h1))) hl⟩
theorem Val.two {p q : Pt} : Val (.tup [ptD p, ptD q]) := ⟨rfl, rfl, rfl, fun μ k => same_tup (k + 1) (fun d hd => by
  simp only [List.mem_cons, List.not_mem_nil, or_false] at hd
  rcases hd with rfl | rfl <;> exact same_pt _) (by show 2 ≤ _; decide)⟩
theorem Val.d0 : Val (.dct [] []) := ⟨rfl, rfl, rfl, fun μ k => same_d _ (by rfl)⟩
theorem Val.d1 : Val (.dct [.inr ("a" : Str)] [.int 1]) := ⟨rfl, rfl, rfl, fun μ k => same_d _ (by rfl)⟩
/-! what is got -/
abbrev exI (v : DV) : DV := .exn 0 ["code", "value"] [.str "InvalidDirection", v]
abbrev noD (v : DV) : DV := .tup [.str "no", .str "InvalidDirection", v]
theorem xfI_code {v : DV} : vXf csL "code" (exI v) μ = some (.str "InvalidDirection") := by rfl
theorem xfI_value {v : DV} : vXf csL "value" (exI v) μ = some v := by rfl
theorem in1I : vIn (.str "InvalidDirection") (.tup [.str "InvalidName", .str "InvalidDirection"]) μ = some (.bl true) := by
  rw [in_two (by decide +kernel) (by decide +kernel) (by decide +kernel)]
  simp
theorem fieldsI {v : DV} : f__law_fields [exI v] μ = .ok (.tup [v]) μ := by
  unfold f__law_fields
  rw [runF1]
  unfold b__law_fields
  simp only [sSeq_ap, sIf_ap, tB_ap, eBin_ap, eUn_ap, eVar_ap, List.cons_append, List.nil_append, List.replicate, List.getElem?_cons_zero, un_ok, xfI_code, of_some, bin1_ok, eTup_ap, aCons_ap, eC_ap, ac1_ok, aNil_ap, ac2_ok, mk_ok, mkT2, mkT1, bin2_ok, in1I, tb_ok, sif_f, sif_t, sNop_ap, seq_nx, sRet_ap, xfI_value, ret_ok, seq_rt, sfin_rt, fin_same]
theorem got_no {ρ : En} {fl : DE} {v : DV} (hv : v.noE = true) (hN : μ.all CO.noE = true) (h : fl ρ μ = .ex 0 ["code", "value"] [.str "InvalidDirection", v] μ) : eGot csL fs__law_got fl ρ μ = .ok (noD v) μ := by
  have hs : fs__law_got [none, some (exI v)] μ = .rt (noD v) μ := by
    unfold fs__law_got
    have hf : eCallF f__law_fields (eVar 1) [none, some (exI v)] μ = .ok (.tup [v]) μ := by
      show (f__law_fields [exI v] μ).nox = _
      rw [fieldsI]; rfl
    have ha : vAdd (.tup [.str "no", .str "InvalidDirection"]) (.tup [v]) μ = some (noD v) := by
      show (if okLen 3 = true then some (noD v) else none) = _
      rw [if_pos (okLen_small (by decide))]
    simp only [sRet_ap, eBin_ap, eTup_ap, aCons_ap, eC_ap, ac1_ok, eUn_ap, eVar_ap, List.getElem?_cons_succ, List.getElem?_cons_zero, un_ok, xfI_code, of_some, aNil_ap, ac2_ok, mk_ok, mkT2, bin1_ok, hf, bin2_ok, ha, ret_ok]
  have hn : (noD v).noE = true := by
    show (true && (true && (v.noE && true))) = true
    rw [hv]; rfl
  unfold eGot
  rw [h]
  show (if csL.contains 0 = true then (match fs__law_got [none, some (exI v)] μ with
    | .rt d μ2 => if (d.noE && μ2.all CO.noE) = true then R.ok d μ2 else .stuck
    | _ => .stuck) else .stuck) = _
  rw [hs, if_pos (by rfl)]
  show (if ((noD v).noE && μ.all CO.noE) = true then R.ok (noD v) μ else .stuck) = _
  rw [if_pos (by rw [hN, hn]; rfl)]
theorem same_noD {v : DV} (V : Val v) (k : Nat) : f__law_same (k + 4) [noD v, noD v] μ = .ok (.bl true) μ := by
  refine same_tup (k + 2) (fun d hd => ?_) (by show 3 ≤ _; decide)
  simp only [List.mem_cons, List.not_mem_nil, or_false] at hd
  rcases hd with rfl | rfl | rfl
  · exact same_str _ (by decide +kernel)
  · exact same_str _ (by decide +kernel)
  · exact V.s μ k
abbrev tellD (p : Pt) : DV := .tup [.str "told", ptD p]
theorem same_tell {p : Pt} (k : Nat) : f__law_same (k + 4) [tellD p, tellD p] μ = .ok (.bl true) μ := by
  refine same_tup (k + 2) (fun d hd => ?_) (by show 2 ≤ _; decide)
  simp only [List.mem_cons, List.not_mem_nil, or_false] at hd
  rcases hd with rfl | rfl
  · exact same_str _ (by decide +kernel)
  · exact same_pt _
/-! the order -/
def bp (p : Pt) : Prop := p.1.natAbs < 2 ^ 62 ∧ p.2.natAbs < 2 ^ 62
theorem half_ok {p : Pt} : f_half_of [ptD p] μ = .ok (.int (hlf p)) μ := by
  unfold f_half_of
  rw [runF1]
  unfold b_half_of hlf up
  by_cases h1 : 0 < p.2
  · simp [h1]
  · by_cases h2 : p.2 = 0
    · by_cases h3 : 0 < p.1 <;> simp [h2, h3]
    · simp [h1, h2]
theorem cross_ok {p q : Pt} (hp : bp p) : f_cross [ptD p, ptD q] μ = .ok (.int (crs p q)) μ := by
  unfold f_cross
  rw [runF2]
  unfold b_cross
  have m1 : ∀ y μ, vMul (.int p.1) (.int y) μ = some (.int (p.1 * y)) := fun y μ => vMul_l (by have := hp.1; omega)
  have m2 : ∀ y μ, vMul (.int p.2) (.int y) μ = some (.int (p.2 * y)) := fun y μ => vMul_l (by have := hp.2; omega)
  simp [m1, m2, crs]
theorem lcross_ok {p q : Pt} (hp : bp p) : f__law_cross [ptD p, ptD q] μ = .ok (.int (crs p q)) μ := by
  unfold f__law_cross
  rw [runF2]
  unfold b__law_cross
  have m1 : ∀ y μ, vMul (.int p.1) (.int y) μ = some (.int (p.1 * y)) := fun y μ => vMul_l (by have := hp.1; omega)
  have m2 : ∀ y μ, vMul (.int p.2) (.int y) μ = some (.int (p.2 * y)) := fun y μ => vMul_l (by have := hp.2; omega)
  simp [m1, m2, crs]
theorem turned_ok {p : Pt} : f_turned_half [ptD p] μ = .ok (ptD (-p.1, -p.2)) μ := by
  unfold f_turned_half
  rw [runF1]
  unfold b_turned_half
  simp
  rfl
theorem ahead_ok {p q : Pt} (hp : bp p) : f_is_ahead [ptD p, ptD q] μ = .ok (.bl (ahd p q)) μ := by
  unfold f_is_ahead
  rw [runF2]
  unfold b_is_ahead ahd
  by_cases h1 : hlf p < hlf q
  · simp [half_ok, h1]
  · by_cases h2 : hlf p = hlf q
    · simp [half_ok, h1, h2, cross_ok hp]
    · simp [half_ok, h1, h2]
theorem lahead_ok {p q : Pt} (hp : bp p) : f__law_ahead [ptD p, ptD q] μ = .ok (.bl (ahd p q)) μ := by
  unfold f__law_ahead
  rw [runF2]
  unfold b__law_ahead
  have wp : wipeE [some (ptD p), some (ptD q), none, none, none] [4] = [some (ptD p), some (ptD q), none, none, none] := rfl
  have hc : compD (gN 4) tYes' (eIf (tOr' (tB' (eBin vGt (eBin vIx (eVar 4) (eC (.int 1))) (eC (.int 0)))) (tAnd' (tB' (eBin vEq (eBin vIx (eVar 4) (eC (.int 1))) (eC (.int 0)))) (tB' (eBin vGt (eBin vIx (eVar 4) (eC (.int 0))) (eC (.int 0)))))) (eC (.int 0)) (eC (.int 1))) [some (ptD p), some (ptD q), none, none, none] [ptD p, ptD q] μ = .ok [.int (hlf p), .int (hlf q)] μ :=
    compD_mapL ptD (fun p => .int (hlf p)) [p, q] fun p _ => ⟨_, rfl, by
      unfold hlf up
      by_cases h1 : 0 < p.2
      · simp [h1]
      · by_cases h2 : p.2 = 0
        · by_cases h3 : 0 < p.1 <;> simp [h2, h3]
        · simp [h1, h2]⟩
  have hv : ∀ a b : Int, ahd p q = (if hlf p = hlf q then decide (0 < crs p q) else decide (hlf p < hlf q)) := fun _ _ => by
    unfold ahd
    by_cases e : hlf p = hlf q
    · rw [if_pos e]
      have : ¬ hlf p < hlf q := by omega
      simp [e]
    · rw [if_neg e]; simp [e]
  rw [hv 0 0]
  by_cases e : hlf p = hlf q
  · simp [wk_two, lc_two, wp, hc, e, lcross_ok hp]
  · simp [wk_two, lc_two, wp, hc, e]
end
end Lw

set_option Elab.async false
set_option linter.all false
set_option maxRecDepth 100000
set_option maxHeartbeats 4000000
/-! k02: reduced; the next in the round. -/
namespace Lw
open PySem PySem.Spec PyProof.Rows L2 SD
section
variable {μ : Sto}
theorem fin_ex {md : Md} {v : DV} {ρ : En} : SR.fin md μ.length (.ex 0 ["code", "value"] [.str "InvalidDirection", v] ρ μ) = .ex 0 ["code", "value"] [.str "InvalidDirection", v] μ := by
  show finX μ.length 0 ["code", "value"] [.str "InvalidDirection", v] μ = _
  exact if_pos rfl
theorem rsI {i : Nat} {v : DV} {ρ : En} (h : ρ[i]? = some (some v)) : sRaise 0 ["value"] "InvalidDirection" (aCons (eVar i) aNil) ρ μ = .ex 0 ["code", "value"] [.str "InvalidDirection", v] ρ μ := by
  unfold sRaise
  simp only [aCons_ap, eVar_ap, h, ac1_ok, aNil_ap, ac2_ok]
  rfl
def redV : DV → Option Pt
  | .tup [.int a, .int b] => if Int.gcd a b = 0 then none else if isD (a / (Int.gcd a b : Int), b / (Int.gcd a b : Int)) = true then some (a / (Int.gcd a b : Int), b / (Int.gcd a b : Int)) else none
  | _ => none
def redR (d : DV) (μ : Sto) : R DV := match redV d with
  | some p => .ok (ptD p) μ
  | none => .ex 0 ["code", "value"] [.str "InvalidDirection", d] μ
def dueV (d : DV) : DV := match redV d with
  | some p => tellD p
  | none => noD d
def sml (d : DV) : Prop := ∀ a b, d = .tup [.int a, .int b] → a.natAbs < 1073741824 ∧ b.natAbs < 1073741824
theorem gcd_sml {u v : Int} (hu : u.natAbs < 1073741824) (hv : v.natAbs < 1073741824) : (Int.gcd u v : Int) < 1073741824 := by
  unfold Int.gcd
  by_cases h : u.natAbs = 0
  · rw [h, Nat.gcd_zero_left]; omega
  · have := Nat.le_of_dvd (by omega) (Nat.gcd_dvd_left u.natAbs v.natAbs)
    omega
theorem redV_len {xs : List DV} (h : xs.length ≠ 2) : redV (.tup xs) = none := by
  unfold redV
  split
  · rename_i a b e
    cases e
    exact absurd rfl h
  · rfl
theorem redV_two {x y : DV} (h : (wholeB x && wholeB y) = false) : redV (.tup [x, y]) = none := by
  cases x <;> cases y <;> first | rfl | (cases h)
theorem reduced_ok {d : DV} (h : p1 d = true) (hs : sml d) : f_reduced [d] μ = redR d μ := by
  unfold f_reduced
  rw [runF1]
  unfold b_reduced
  have no : redV d = none → redR d μ = .ex 0 ["code", "value"] [.str "InvalidDirection", d] μ := fun e => by unfold redR; rw [e]
  cases d with
  | tup xs =>
    by_cases hl : xs.length = 2
    · obtain ⟨x, y, rfl, hx, hy⟩ := all_two (p := p0) h hl
      have r := fun ρ => @rsI μ 0 (.tup [x, y]) ρ
      cases hw : wholeB x && wholeB y with
      | false =>
        rw [no (redV_two hw)]
        cases hx' : wholeB x with
        | false => simp [T7.sub, whole1 hx, hx', r, fin_ex]
        | true =>
          have hy' : wholeB y = false := by rw [hx', Bool.true_and] at hw; exact hw
          simp [T7.sub, whole1 hx, whole1 hy, hx', hy', r, fin_ex]
      | true =>
        obtain ⟨a, rfl⟩ : ∃ a, x = .int a := by cases x <;> first | (cases hw; done) | exact ⟨_, rfl⟩
        obtain ⟨b, rfl⟩ : ∃ a, y = .int a := by cases y <;> first | (cases hw; done) | exact ⟨_, rfl⟩
        obtain ⟨ha, hb⟩ := hs a b rfl
        have hg := gcdP (μ := μ) (a := a) (b := b) (by omega)
        have hl := gcd_sml ha hb
        have e1 : redV (.tup [.int a, .int b]) = if Int.gcd a b = 0 then none else if isD (a / (Int.gcd a b : Int), b / (Int.gcd a b : Int)) = true then some (a / (Int.gcd a b : Int), b / (Int.gcd a b : Int)) else none := rfl
        have hwi : ∀ i, f_is_whole [.int i] μ = .ok (.bl true) μ := fun i => whole1 rfl
        have hd := fun u v => dir1 (μ := μ) (d := .tup [.int u, .int v]) rfl
        have hdb : ∀ u v, dirB (.tup [.int u, .int v]) = isD (u, v) := fun _ _ => rfl
        unfold redR
        rw [e1]
        generalize hgg : Int.gcd a b = g at hg hl
        by_cases hz : g = 0
        · rw [if_pos hz]
          subst hz
          simp [T7.sub, hwi, hg, r, fin_ex]
        · rw [if_neg hz]
          have g0 : 0 < (g : Int) := by omega
          obtain ⟨vD, hvD⟩ : ∃ f : V2, f = vDiv := ⟨_, rfl⟩
          have hdv : ∀ (u : Int) (μ : Sto), vD (.int u) (.int g) μ = some (.int (u / g)) := fun u μ => by rw [hvD]; exact vDiv_i g0 hl
          rw [← hvD]
          have hz' : ¬ (g : Int) = 0 := by omega
          cases hi : isD (a / (g : Int), b / (g : Int)) with
          | false => simp [T7.sub, hwi, hg, hz, hz', hdv, hd, hdb, hi, r, fin_ex]
          | true =>
            simp [T7.sub, hwi, hg, hz, hz', hdv, hd, hdb, hi, r, fin_ex]
            rfl
    · have : ¬ (xs.length : Int) = 2 := by omega
      have r := fun ρ => @rsI μ 0 (.tup xs) ρ
      rw [no (redV_len hl)]
      simp [T7.sub, this, r, fin_ex]
  | _ => first | (simp [p1, p0] at h; done) | (rw [no rfl]; have r := fun v ρ => @rsI μ 0 v ρ; simp [T7.sub, r, fin_ex])
theorem due_ok {d : DV} (h : p1 d = true) (hs : sml d) : f__law_reduced_due [d] μ = .ok (dueV d) μ := by
  unfold f__law_reduced_due
  rw [runF1]
  unfold b__law_reduced_due
  have no : redV d = none → dueV d = noD d := fun e => by unfold dueV; rw [e]
  cases d with
  | tup xs =>
    by_cases hl : xs.length = 2
    · obtain ⟨x, y, rfl, hx, hy⟩ := all_two (p := p0) h hl
      have wp : wipeE [some (DV.tup [x, y]), none, none] [2] = [some (.tup [x, y]), none, none] := rfl
      have hc : compD (gN 2) tYes' (eCall f__law_is_whole (aCons (eVar 2) aNil)) [some (.tup [x, y]), none, none] [x, y] μ = .ok [.bl (wholeB x), .bl (wholeB y)] μ :=
        compD_map (μ := μ) (fun z => .bl (wholeB z)) [x, y] fun z hz => ⟨_, rfl, by
          have hz0 : p0 z = true := by simp at hz; rcases hz with rfl | rfl <;> assumption
          simp [whole2 hz0]⟩
      cases hw : wholeB x && wholeB y with
      | false =>
        rw [no (redV_two hw)]
        simp [T7.sub, wk_two, lc_two, wp, hc, all2, hw]
      | true =>
        obtain ⟨a, rfl⟩ : ∃ a, x = .int a := by cases x <;> first | (cases hw; done) | exact ⟨_, rfl⟩
        obtain ⟨b, rfl⟩ : ∃ a, y = .int a := by cases y <;> first | (cases hw; done) | exact ⟨_, rfl⟩
        obtain ⟨ha, hb⟩ := hs a b rfl
        have hg := gcdA (μ := μ) (a := a) (b := b) (by omega)
        have hl := gcd_sml ha hb
        have e1 : redV (.tup [.int a, .int b]) = if Int.gcd a b = 0 then none else if isD (a / (Int.gcd a b : Int), b / (Int.gcd a b : Int)) = true then some (a / (Int.gcd a b : Int), b / (Int.gcd a b : Int)) else none := rfl
        have hd := fun u v => dir2 (μ := μ) (d := .tup [.int u, .int v]) rfl
        have hdb : ∀ u v, dirB (.tup [.int u, .int v]) = isD (u, v) := fun _ _ => rfl
        unfold dueV
        rw [e1]
        generalize hgg : Int.gcd a b = g at hg hl
        by_cases hz : g = 0
        · rw [if_pos hz]
          subst hz
          simp [T7.sub, wk_two, lc_two, wp, hc, all2, wholeB, hg]
        · rw [if_neg hz]
          have g0 : 0 < (g : Int) := by omega
          have g1 : 0 < g := by omega
          obtain ⟨vD, hvD⟩ : ∃ f : V2, f = vDiv := ⟨_, rfl⟩
          have hdv : ∀ (u : Int) (μ : Sto), vD (.int u) (.int g) μ = some (.int (u / g)) := fun u μ => by rw [hvD]; exact vDiv_i g0 hl
          rw [← hvD]
          cases hi : isD (a / (g : Int), b / (g : Int)) with
          | false => simp [T7.sub, wk_two, lc_two, wp, hc, all2, wholeB, hg, g1, hdv, hd, hdb, hi]
          | true =>
            simp [T7.sub, wk_two, lc_two, wp, hc, all2, wholeB, hg, g1, hdv, hd, hdb, hi]
            rfl
    · have : ¬ (xs.length : Int) = 2 := by omega
      rw [no (redV_len hl)]
      simp [T7.sub, this]
  | _ => first | (simp [p1, p0] at h; done) | (rw [no rfl]; simp [T7.sub])
/-! the next in the round -/
structure Sq (μ : Sto) (a : DV) (ds : List Pt) : Prop where
  wk : wkOf a μ = some (.fix (ds.map ptD))
  ln : vLen [a] μ = some (.int ds.length)
  ix : ∀ d r, ds = d :: r → vIx a (.int 0) μ = some (ptD d)
  mem : ∀ p, vIn (ptD p) a μ = some (.bl (decide (p ∈ ds)))
theorem inL_pt {p : Pt} {l : List Pt} : inL (ptD p) (l.map ptD) = some (decide (p ∈ l)) := by
  unfold inL
  rw [toPy_pt, toPy_pts]
  simp only [shaped_pt, shaped_pts, Bool.and_self, if_true]
  congr 1
  rw [List.any_map]
  rw [Bool.eq_iff_iff, List.any_eq_true, decide_eq_true_eq]
  constructor
  · rintro ⟨z, hz, e⟩
    have e : PyData.eqv (ptY z) (ptY p) = true := e
    rw [eqv_pt, decide_eq_true_eq] at e
    rw [← e]; exact hz
  · exact fun hp => ⟨p, hp, by show PyData.eqv (ptY p) (ptY p) = true; rw [eqv_pt]; simp⟩
theorem Sq.lst {ds : List Pt} : Sq μ (.lst (ds.map ptD)) ds := ⟨rfl, by rw [vLen_l, List.length_map], fun d r e => by subst e; exact lst0, fun p => by
  show (inL (ptD p) (ds.map ptD)).map DV.bl = _
  rw [inL_pt]; rfl⟩
theorem Sq.tup {ds : List Pt} : Sq μ (.tup (ds.map ptD)) ds := ⟨rfl, by rw [vLen_t, List.length_map], fun d r e => by subst e; exact tup0, fun p => by
  show (inL (ptD p) (ds.map ptD)).map DV.bl = _
  rw [inL_pt]; rfl⟩
def bD : Option Pt → DV
  | none => .non
  | some p => ptD p
theorem is_b {o : Option Pt} : vIs (bD o) .non μ = some (.bl o.isNone) := by cases o <;> rfl
def bhd (x : Pt) : Option Pt → Bool
  | none => true
  | some b => ahd x b
def stp (d : Pt) (s : Pt × Option Pt) (x : Pt) : Pt × Option Pt :=
  (if ahd x s.1 = true then x else s.1, if (ahd d x && bhd x s.2) = true then some x else s.2)
theorem next_loop {a : DV} {d : Pt} (hd : bp d) : ∀ (l : List Pt) (s : Pt × Option Pt) (o : Option DV), (∀ x ∈ l, bp x) →
    ∃ o', loopD (gN 4) (sSeq (sIf (tB' (eCall f_is_ahead (aCons (eVar 4) (aCons (eVar 2) aNil)))) (sAsg (eVar 4) (gN 2)) sNop) (sIf (tAnd' (tB' (eCall f_is_ahead (aCons (eVar 1) (aCons (eVar 4) aNil)))) (tOr' (tB' (eBin vIs (eVar 3) (eC .non))) (tB' (eCall f_is_ahead (aCons (eVar 4) (aCons (eVar 3) aNil)))))) (sAsg (eVar 4) (gN 3)) sNop)) (l.map ptD) [some a, some (ptD d), some (ptD s.1), some (bD s.2), o] μ = .nx [some a, some (ptD d), some (ptD (l.foldl (stp d) s).1), some (bD (l.foldl (stp d) s).2), o'] μ
  | [], s, o, _ => ⟨o, rfl⟩
  | x :: l, s, o, h => by
    have hx := h x (by simp)
    obtain ⟨o', e⟩ := next_loop hd l (stp d s x) (some (ptD x)) fun y hy => h y (List.mem_cons_of_mem _ hy)
    refine ⟨o', ?_⟩
    rw [List.map_cons, List.foldl_cons, ← e]
    conv => lhs; unfold loopD
    obtain ⟨f, b⟩ := s
    have a1 := ahead_ok (μ := μ) (p := x) (q := f) hx
    have a2 := ahead_ok (μ := μ) (p := d) (q := x) hd
    have a3 := fun b => ahead_ok (μ := μ) (p := x) (q := b) hx
    have hn : vIs .non .non μ = some (.bl true) := rfl
    unfold stp
    cases h1 : ahd x f <;> cases h2 : ahd d x <;> cases b with
    | none => simp [a1, a2, h1, h2, bD, hn, bhd]
    | some b =>
      have hi : vIs (ptD b) .non μ = some (.bl false) := rfl
      cases h3 : ahd x b <;> simp [a1, a2, a3, h1, h2, h3, bD, hi, bhd]
def nxt (d : Pt) (ds : List Pt) : Pt := match ds with
  | [] => d
  | f :: _ => let s := ds.foldl (stp d) (f, none); s.2.getD s.1
theorem next_no {a d : DV} {ds : List Pt} (S : Sq μ a ds) (hp : p1 d = true) (h : dirB d = false ∨ ds = []) : f_next_in_round [a, d] μ = .ex 0 ["code", "value"] [.str "InvalidDirection", d] μ := by
  unfold f_next_in_round
  rw [runF2]
  unfold b_next_in_round
  have r := fun ρ => @rsI μ 1 d ρ
  have hd := dir1 (μ := μ) hp
  cases hb : dirB d with
  | false => simp [hd, hb, r, fin_ex]
  | true =>
    rcases h with h | h
    · rw [hb] at h; cases h
    · subst h
      have hl : vLen [a] μ = some (.int 0) := S.ln
      simp [hd, hb, hl, r, fin_ex]
theorem next_yes {a : DV} {p : Pt} {ds : List Pt} (S : Sq μ a ds) (hp : isD p = true) (h : ds ≠ []) (hb : ∀ x ∈ ds, bp x) (hl : bp p) : f_next_in_round [a, ptD p] μ = .ok (ptD (if p ∈ ds then p else nxt p ds)) μ := by
  unfold f_next_in_round
  rw [runF2]
  unfold b_next_in_round
  have hd : f_is_direction [ptD p] μ = .ok (.bl true) μ := by
    rw [dir1 rfl]
    show R.ok (DV.bl (isD p)) μ = _
    rw [hp]
  have ln := S.ln
  have wk := S.wk
  have mm := S.mem p
  obtain ⟨f, r, rfl⟩ : ∃ f r, ds = f :: r := by
    cases ds with
    | nil => exact absurd rfl h
    | cons f r => exact ⟨f, r, rfl⟩
  have hx := S.ix f r rfl
  have hz : ¬ (((f :: r).length : Nat) : Int) = 0 := by rw [List.length_cons]; omega
  obtain ⟨o', e⟩ := next_loop (μ := μ) (a := a) hl (f :: r) (f, none) none hb
  generalize (f :: r).map ptD = dsD at wk e
  have en : nxt p (f :: r) = ((f :: r).foldl (stp p) (f, none)).2.getD ((f :: r).foldl (stp p) (f, none)).1 := rfl
  rw [en]
  generalize (f :: r).foldl (stp p) (f, none) = s at e ⊢
  generalize ((f :: r).length : Nat) = n at ln hz
  have hz' : ¬ n = 0 := by omega
  have i0 : ∀ μ, vIs .non .non μ = some (.bl true) := fun _ => rfl
  have i1 : ∀ b μ, vIs (ptD b) .non μ = some (.bl false) := fun _ _ => rfl
  by_cases hm : p ∈ f :: r
  · rw [if_pos hm]
    rw [decide_eq_true hm] at mm
    simp [hd, ln, hz', mm]
  · rw [if_neg hm]
    rw [decide_eq_false hm] at mm
    have e : loopD (gN 4) _ dsD [some a, some (ptD p), some (ptD f), some .non, none] μ = _ := e
    obtain ⟨f', b'⟩ := s
    cases b' with
    | none => simp [hd, ln, hz', mm, hx, wk, e, i0, i1, bD]
    | some b =>
      simp [hd, ln, hz', mm, hx, wk, e, i0, i1, bD]
end
/-! plain: the next one is the first behind it in the sorted row, else the first of all -/
structure NI (d f0 : Pt) (S : List Pt) (s : Pt × Option Pt) : Prop where
  f1 : s.1 = f0 ∨ s.1 ∈ S
  f2 : ∀ x ∈ S, ahd x s.1 = false
  b0 : s.2 = none → ∀ x ∈ S, ahd d x = false
  b1 : ∀ b, s.2 = some b → b ∈ S ∧ ahd d b = true ∧ ∀ x ∈ S, ahd d x = true → ahd x b = false
theorem ni_step {d f0 x : Pt} {S : List Pt} {s : Pt × Option Pt} (h : NI d f0 S s) : NI d f0 (x :: S) (stp d s x) := by
  obtain ⟨f, b⟩ := s
  have tr : ∀ {y z w : Pt}, ahd z w = true → ahd y w = false → ahd y z = false := fun {y z w} h1 h2 => by
    cases h3 : ahd y z with
    | false => rfl
    | true => rw [ahd_trans h3 h1] at h2; cases h2
  have F : (stp d (f, b) x).1 = if ahd x f = true then x else f := rfl
  have B : (stp d (f, b) x).2 = if (ahd d x && bhd x b) = true then some x else b := rfl
  refine ⟨?_, ?_, ?_, ?_⟩
  · rw [F]
    split
    · exact .inr List.mem_cons_self
    · exact h.f1.imp id fun m => List.mem_cons_of_mem _ m
  · rw [F]
    intro y hy
    split
    · rename_i hx
      rcases List.mem_cons.mp hy with e | e
      · rw [e]; exact ahd_irr
      · exact tr hx (h.f2 y e)
    · rename_i hx
      rcases List.mem_cons.mp hy with e | e
      · rw [e]; simpa using hx
      · exact h.f2 y e
  · rw [B]
    intro hn y hy
    split at hn
    · cases hn
    · rename_i hx
      have hb : b = none := hn
      subst hb
      rcases List.mem_cons.mp hy with e | e
      · rw [e]; simpa [bhd] using hx
      · exact h.b0 rfl y e
  · rw [B]
    intro c hc
    split at hc
    · rename_i hx
      cases hc
      rw [Bool.and_eq_true] at hx
      refine ⟨List.mem_cons_self, hx.1, fun y hy hdy => ?_⟩
      rcases List.mem_cons.mp hy with e | e
      · rw [e]; exact ahd_irr
      · cases b with
        | none => rw [h.b0 rfl y e] at hdy; cases hdy
        | some b => exact tr hx.2 ((h.b1 b rfl).2.2 y e hdy)
    · rename_i hx
      have hc : b = some c := hc
      subst hc
      obtain ⟨m1, m2, m3⟩ := h.b1 c rfl
      refine ⟨List.mem_cons_of_mem _ m1, m2, fun y hy hdy => ?_⟩
      rcases List.mem_cons.mp hy with e | e
      · rw [e] at hdy ⊢
        rw [hdy] at hx
        simpa [bhd] using hx
      · exact m3 y e hdy
theorem ni_all {d f0 : Pt} : ∀ (l S : List Pt) (s : Pt × Option Pt), NI d f0 S s → ∃ T, (∀ x, x ∈ T ↔ x ∈ l ∨ x ∈ S) ∧ NI d f0 T (l.foldl (stp d) s)
  | [], S, s, h => ⟨S, fun x => by simp, h⟩
  | y :: l, S, s, h => by
    obtain ⟨T, h1, h2⟩ := ni_all l (y :: S) (stp d s y) (ni_step h)
    refine ⟨T, fun x => ?_, h2⟩
    rw [h1, List.mem_cons, List.mem_cons]
    constructor
    · rintro (a | a | a)
      · exact .inl (.inr a)
      · exact .inl (.inl a)
      · exact .inr a
    · rintro ((a | a) | a)
      · exact .inr (.inl a)
      · exact .inl a
      · exact .inr (.inr a)
theorem head_srt {l : List Pt} {x : Pt} {y : Pt} {r : List Pt} (hl : Srt l) (e : l = y :: r) (hx : x ∈ l) (h : ahd y x = false) : y = x := by
  subst e
  rcases List.mem_cons.mp hx with e | e
  · exact e.symm
  · have := (List.pairwise_cons.mp hl).1 x e
    rw [this] at h; cases h
theorem nxt_due {d : Pt} {ds due : List Pt} (hs : Srt due) (hm : ∀ x, x ∈ due ↔ x ∈ ds) (hne : ds ≠ []) : ∃ r, due.filter (fun e => ahd d e) ++ due = nxt d ds :: r := by
  obtain ⟨f, r, rfl⟩ : ∃ f r, ds = f :: r := by
    cases ds with
    | nil => exact absurd rfl hne
    | cons f r => exact ⟨f, r, rfl⟩
  obtain ⟨T, h1, h2⟩ := ni_all (d := d) (f0 := f) (f :: r) [] (f, none) ⟨.inl rfl, fun _ h => (nomatch h), fun _ _ h => (nomatch h), fun _ h => (nomatch h)⟩
  have hT : ∀ x, x ∈ T ↔ x ∈ due := fun x => by rw [h1, hm]; simp
  have en : nxt d (f :: r) = ((f :: r).foldl (stp d) (f, none)).2.getD ((f :: r).foldl (stp d) (f, none)).1 := rfl
  rw [en]
  generalize (f :: r).foldl (stp d) (f, none) = s at h2 ⊢
  obtain ⟨f', b⟩ := s
  cases b with
  | none =>
    have hf : due.filter (fun e => ahd d e) = [] := List.filter_eq_nil_iff.mpr fun e he hc => by
      have := h2.b0 rfl e ((hT e).mpr he)
      rw [this] at hc; cases hc
    have hf' : f' ∈ due := by
      rcases h2.f1 with e | e
      · have e : f' = f := e
        rw [e, hm]; exact List.mem_cons_self
      · exact (hT f').mp e
    rw [hf, List.nil_append]
    cases hd : due with
    | nil => rw [hd] at hf'; cases hf'
    | cons y r' =>
      refine ⟨r', ?_⟩
      have := head_srt hs hd hf' (h2.f2 y ((hT y).mpr (by rw [hd]; exact List.mem_cons_self)))
      rw [this]; rfl
  | some b =>
    obtain ⟨m1, m2, m3⟩ := h2.b1 b rfl
    have hb : b ∈ due.filter (fun e => ahd d e) := List.mem_filter.mpr ⟨(hT b).mp m1, m2⟩
    cases hd : due.filter (fun e => ahd d e) with
    | nil => rw [hd] at hb; cases hb
    | cons y r' =>
      refine ⟨r' ++ due, ?_⟩
      have hy : y ∈ due.filter (fun e => ahd d e) := by rw [hd]; exact List.mem_cons_self
      obtain ⟨y1, y2⟩ := List.mem_filter.mp hy
      have := head_srt (hs.sublist List.filter_sublist) hd hb (m3 y ((hT y).mpr y1) y2)
      rw [this]; rfl
end Lw

set_option Elab.async false
set_option linter.all false
set_option maxRecDepth 100000
set_option maxHeartbeats 4000000
/-! k02: loops over a cell; merged. -/
namespace Lw
open PySem PySem.Spec PyProof.Rows L2 SD
section
variable {α : Type}
theorem loopF_cell {i : Nat} {xs : List DV} {t : DG} {f : DS} (h : α → DV) (I : List α → En → Sto → Prop) (hi : ∀ l ρ μ, I l ρ μ → μ[i]? = some (.lst xs))
    (hs : ∀ x l ρ μ, I (x :: l) ρ μ → ∃ ρ1, t (h x) ρ μ = some ρ1 ∧ ∃ ρ' μ', f ρ1 μ = .nx ρ' μ' ∧ I l ρ' μ') :
    ∀ (l : List α) (n k : Nat) (ρ : En) (μ : Sto), xs.drop k = l.map h → xs.length + 1 = n + k → k ≤ xs.length → I l ρ μ → ∃ ρ' μ', loopF (.cell i) t f n k ρ μ = .nx ρ' μ' ∧ I [] ρ' μ'
  | [], n, k, ρ, μ, hd, hn, hk0, hI => by
    have hk : xs.length ≤ k := List.drop_eq_nil_iff.mp hd
    cases n with
    | zero => omega
    | succ n =>
      refine ⟨ρ, μ, ?_, hI⟩
      unfold loopF
      have e : wkAt (.cell i) μ k = some none := by
        simp only [wkAt, hi _ _ _ hI]
        rw [List.getElem?_eq_none_iff.mpr hk]
      simp only [e]
  | x :: l, n, k, ρ, μ, hd, hn, hk0, hI => by
    have hk : k < xs.length := by
      rcases Nat.lt_or_ge k xs.length with c | c
      · exact c
      · rw [List.drop_eq_nil_of_le c] at hd; cases hd
    have hg : xs[k]? = some (h x) := by
      have := congrArg List.head? hd
      rw [List.head?_drop] at this
      exact this
    have hd' : xs.drop (k + 1) = l.map h := by
      have := congrArg List.tail hd
      rw [List.tail_drop] at this
      exact this
    cases n with
    | zero => omega
    | succ n =>
      obtain ⟨ρ1, e1, ρ', μ', e2, hI'⟩ := hs x l ρ μ hI
      obtain ⟨ρ2, μ2, e3, h3⟩ := loopF_cell h I hi hs l n (k + 1) ρ' μ' hd' (by omega) hk hI'
      refine ⟨ρ2, μ2, ?_, h3⟩
      unfold loopF
      have e : wkAt (.cell i) μ k = some (some (h x)) := by
        simp only [wkAt, hi _ _ _ hI]
        rw [hg]
      simp only [e, e1, e2]
      exact e3
theorem loopL_cell {i : Nat} {xs : List DV} {t : DG} {tt : DT} {te : DE} {ρ : En} {μ : Sto} (hi : μ[i]? = some (.lst xs)) (h g : α → DV) (p : α → Bool) :
    ∀ (l : List α) (n k : Nat), xs.drop k = l.map h → xs.length + 1 = n + k → k ≤ xs.length → (∀ x ∈ l, ∃ ρ1, t (h x) ρ μ = some ρ1 ∧ tt ρ1 μ = .ok (p x) μ ∧ (p x = true → te ρ1 μ = .ok (g x) μ)) → loopL (.cell i) t tt te ρ n k μ = .ok ((l.filter p).map g) μ
  | [], n, k, hd, hn, hk0, _ => by
    have hk : xs.length ≤ k := List.drop_eq_nil_iff.mp hd
    cases n with
    | zero => omega
    | succ n =>
      unfold loopL
      have e : wkAt (.cell i) μ k = some none := by
        simp only [wkAt, hi]
        rw [List.getElem?_eq_none_iff.mpr hk]
      simp only [e]
      rfl
  | x :: l, n, k, hd, hn, hk0, hs => by
    have hk : k < xs.length := by
      rcases Nat.lt_or_ge k xs.length with c | c
      · exact c
      · rw [List.drop_eq_nil_of_le c] at hd; cases hd
    have hg : xs[k]? = some (h x) := by
      have := congrArg List.head? hd
      rw [List.head?_drop] at this
      exact this
    have hd' : xs.drop (k + 1) = l.map h := by
      have := congrArg List.tail hd
      rw [List.tail_drop] at this
      exact this
    cases n with
    | zero => omega
    | succ n =>
      obtain ⟨ρ1, e1, e2, e3⟩ := hs x List.mem_cons_self
      have ih := loopL_cell hi h g p l n (k + 1) hd' (by omega) hk fun y hy => hs y (List.mem_cons_of_mem _ hy)
      unfold loopL
      have e : wkAt (.cell i) μ k = some (some (h x)) := by
        simp only [wkAt, hi]
        rw [hg]
      simp only [e, e1, e2]
      cases hp : p x with
      | false =>
        rw [List.filter_cons_of_neg (by simp [hp])]
        exact ih
      | true =>
        rw [List.filter_cons_of_pos hp]
        show (te ρ1 μ).nox.bind _ = _
        rw [e3 hp]
        show (loopL (.cell i) t tt te ρ n (k + 1) μ).bind _ = _
        rw [ih]
        rfl
end
theorem inc_ap {i : Nat} {f : Int → Int → Int} {j a : Int} {ρ : En} {μ : Sto} (h : ρ[i]? = some (some (.int a))) : sInc i f (eC (.int j)) ρ μ = .nx (ρ.set i (some (.int (f a j)))) μ := by
  unfold sInc
  rw [h]
  rfl
section
variable {μ : Sto}
theorem at_new {c : CO} : (μ ++ [c])[μ.length]? = some c := by simp
theorem at_old {ν : Sto} {j : Nat} {c : CO} (h : μ[j]? = some c) : (μ ++ ν)[j]? = some c := by
  have : j < μ.length := (List.getElem?_eq_some_iff.mp h).1
  rw [List.getElem?_append_left this, h]
theorem app_new {l : List Pt} {p : Pt} (hl : l.length ≤ 10000) : mAppend (.cell μ.length) [ptD p] (μ ++ [.lst (l.map ptD)]) = some (.non, μ ++ [.lst ((l ++ [p]).map ptD)]) := by
  show (match (μ ++ [CO.lst (l.map ptD)])[μ.length]? with
    | some (.lst xs) => if okLen (xs.length + 1) = true then some (DV.non, (μ ++ [CO.lst (l.map ptD)]).set μ.length (.lst (xs ++ [ptD p]))) else none
    | _ => none) = _
  rw [at_new]
  show (if okLen ((l.map ptD).length + 1) = true then some (DV.non, (μ ++ [CO.lst (l.map ptD)]).set μ.length (.lst (l.map ptD ++ [ptD p]))) else none) = _
  rw [if_pos (okLen_small (by rw [List.length_map]; omega))]
  rw [List.set_append_right _ _ (Nat.le_refl _), Nat.sub_self, List.map_append]
  rfl
theorem drop_get {ys : List Pt} {k : Nat} {y : Pt} {r : List Pt} (h : ys.drop k = y :: r) : k < ys.length ∧ ys[k]? = some y ∧ ys.drop (k + 1) = r := by
  have hk : k < ys.length := by
    rcases Nat.lt_or_ge k ys.length with c | c
    · exact c
    · rw [List.drop_eq_nil_of_le c] at h; cases h
  refine ⟨hk, ?_, ?_⟩
  · have := congrArg List.head? h
    rw [List.head?_drop] at this
    exact this
  · have := congrArg List.tail h
    rw [List.tail_drop] at this
    exact this
theorem cell_ix {μ : Sto} {j k : Nat} {ys : List Pt} {y : Pt} (h : μ[j]? = some (.lst (ys.map ptD))) (hk : ys[k]? = some y) : vIx (.cell j) (.int (k : Int)) μ = some (ptD y) := by
  have hl : k < (ys.map ptD).length := by rw [List.length_map]; exact (List.getElem?_eq_some_iff.mp hk).1
  rw [(LL.cell h).ix k hl]
  have : (ys.map ptD)[k]? = some (ptD y) := by rw [List.getElem?_map, hk]; rfl
  rw [List.getElem?_eq_getElem hl] at this
  exact this
theorem cell_ln {μ : Sto} {j : Nat} {ys : List Pt} (h : μ[j]? = some (.lst (ys.map ptD))) : vLen [.cell j] μ = some (.int ys.length) := by
  rw [(LL.cell h).ln, List.length_map]
theorem cell_from {μ : Sto} {j : Nat} {ys : List Pt} {k : Nat} (h : μ[j]? = some (.lst (ys.map ptD))) (hk : k ≤ ys.length) : vSlc (.cell j) (some (k : Int)) none μ = some (.lst ((ys.drop k).map ptD)) := by
  have e : seqOf μ (.cell j) = some (ys.map ptD) := by show lstOf μ (.cell j) = _; simp only [lstOf, h]
  show (match seqOf μ (.cell j) with
    | some xs => some (DV.lst (cutD xs (some (k : Int)) none))
    | none => none) = _
  rw [e]
  show some (DV.lst (SD.cutD (ys.map ptD) (some (k : Int)) none)) = _
  unfold SD.cutD
  rw [HT.sIx_nat, HT.sIx_none, List.length_map, Nat.min_eq_left hk, List.take_of_length_le (by rw [List.length_drop, List.length_map]; omega), List.map_drop]
abbrev mW : DS := sSeq (sExpr (eBm "list" mAppend (eVar 2) (aCons (eBin vIx (eVar 1) (eVar 3)) aNil))) (sInc 3 (fun i j => i + j) (eC (.int 1)))
abbrev mC : DT := tAnd' (tB' (eBin vLt (eVar 3) (eFn vLen (aCons (eVar 1) aNil)))) (tB' (eCall f_is_ahead (aCons (eBin vIx (eVar 1) (eVar 3)) (aCons (eVar 4) aNil))))
theorem merge_while {a : Option DV} {j : Nat} {ys : List Pt} {x : Pt} (hj : μ[j]? = some (.lst (ys.map ptD))) (hb : ∀ y ∈ ys, bp y) :
    ∀ (l : List Pt) (n k : Nat) (fs : List Pt), ys.drop k = l → k ≤ ys.length → l.length < n → fs.length + l.length ≤ 10000 →
      loopW mC mW n [a, some (.cell j), some (.cell μ.length), some (.int (k : Int)), some (ptD x)] (μ ++ [.lst (fs.map ptD)]) = .nx [a, some (.cell j), some (.cell μ.length), some (.int ((k + (l.takeWhile fun y => ahd y x).length : Nat) : Int)), some (ptD x)] (μ ++ [.lst ((fs ++ l.takeWhile fun y => ahd y x).map ptD)])
  | [], n + 1, k, fs, hd, hk, _, _ => by
    have hk' : ys.length ≤ k := List.drop_eq_nil_iff.mp hd
    unfold loopW
    have hlt : ¬ k < ys.length := by omega
    have hln := cell_ln (at_old (ν := [.lst (fs.map ptD)]) hj)
    simp [hln, hlt, R.toS]
  | y :: l, n + 1, k, fs, hd, hk, hn, hf => by
    obtain ⟨h1, h2, h3⟩ := drop_get hd
    have hj' := at_old (ν := [.lst (fs.map ptD)]) hj
    have hln := cell_ln hj'
    have hix := cell_ix hj' h2
    have hlt : (k : Int) < (ys.length : Int) := by omega
    have ha := ahead_ok (μ := μ ++ [.lst (fs.map ptD)]) (p := y) (q := x) (hb y (List.mem_of_getElem? h2))
    have hr : recv "list" (.cell μ.length) (μ ++ [.lst (fs.map ptD)]) = true := recv_cell at_new
    rw [List.length_cons] at hn hf
    have hap := app_new (μ := μ) (l := fs) (p := y) (by omega)
    conv => lhs; unfold loopW
    cases hp : ahd y x with
    | false =>
      have hw : (y :: l).takeWhile (fun y => ahd y x) = [] := List.takeWhile_cons_of_neg (p := fun y => ahd y x) (by simp [hp])
      rw [hw]
      simp [hln, hix, h1, ha, hp, R.toS]
    | true =>
      have hw : (y :: l).takeWhile (fun y => ahd y x) = y :: l.takeWhile (fun y => ahd y x) := List.takeWhile_cons_of_pos (p := fun y => ahd y x) hp
      have ih := merge_while (a := a) (x := x) hj hb l n (k + 1) (fs ++ [y]) h3 h1 (by omega) (by rw [List.length_append, List.length_singleton]; omega)
      rw [hw, List.length_cons]
      have e1 : (k + 1 + (l.takeWhile fun y => ahd y x).length : Nat) = k + ((l.takeWhile fun y => ahd y x).length + 1) := by omega
      have e2 : fs ++ [y] ++ (l.takeWhile fun y => ahd y x) = fs ++ y :: (l.takeWhile fun y => ahd y x) := by simp
      rw [e1, e2] at ih
      rw [← ih]
      have hbody : mW [a, some (.cell j), some (.cell μ.length), some (.int (k : Int)), some (ptD x)] (μ ++ [.lst (fs.map ptD)]) = .nx [a, some (.cell j), some (.cell μ.length), some (.int ((k + 1 : Nat) : Int)), some (ptD x)] (μ ++ [.lst ((fs ++ [y]).map ptD)]) := by
        simp only [sSeq_ap, sExpr_ap, eBm_ap, eVar_ap, List.getElem?_cons_succ, List.getElem?_cons_zero, bm1_ok, hr, if_true, aCons_ap, eBin_ap, bin1_ok, bin2_ok, hix, of_some, ac1_ok, aNil_ap, ac2_ok, bm2_ok, hap, ofS_some, xpr_ok, seq_nx]
        rw [inc_ap (a := (k : Int)) rfl]
        rfl
      have hcond : mC [a, some (.cell j), some (.cell μ.length), some (.int (k : Int)), some (ptD x)] (μ ++ [.lst (fs.map ptD)]) = .ok true (μ ++ [.lst (fs.map ptD)]) := by
        simp [hln, hix, h1, ha, hp]
      rw [hcond]
      show (match mW [a, some (.cell j), some (.cell μ.length), some (.int (k : Int)), some (ptD x)] (μ ++ [.lst (fs.map ptD)]) with
        | .nx ρ' μ' => loopW mC mW n ρ' μ'
        | .ct ρ' μ' => loopW mC mW n ρ' μ'
        | .bk ρ' μ' => .nx ρ' μ'
        | r => r) = _
      rw [hbody]
theorem tw_len {x : Pt} : ∀ {l : List Pt}, l.drop (l.takeWhile fun y => ahd y x).length = l.dropWhile fun y => ahd y x
  | [] => rfl
  | y :: l => by
    by_cases h : ahd y x = true
    · rw [List.takeWhile_cons_of_pos (p := fun y => ahd y x) h, List.dropWhile_cons_of_pos (p := fun y => ahd y x) h, List.length_cons, List.drop_succ_cons]
      exact tw_len
    · rw [List.takeWhile_cons_of_neg (p := fun y => ahd y x) h, List.dropWhile_cons_of_neg (p := fun y => ahd y x) h]
      rfl
theorem mrg_len {xs ys : List Pt} : (mrg xs ys).length = xs.length + ys.length := by
  rw [(mrg_perm xs ys).length_eq, List.length_append]
theorem merged_ok {i j : Nat} {xs ys : List Pt} (lw : lowS μ) (hi : μ[i]? = some (.lst (xs.map ptD))) (hj : μ[j]? = some (.lst (ys.map ptD))) (hb : ∀ y ∈ ys, bp y) (hl : xs.length + ys.length ≤ 1000) :
    f_merged [.cell i, .cell j] μ = .ok (.cell μ.length) (μ ++ [.lst ((mrg xs ys).map ptD)]) := by
  unfold f_merged
  rw [runF2]
  unfold b_merged
  have hwk : ∀ ν, wkOf (.cell i) (μ ++ ν) = some (.cell i) := fun ν => by
    show (match (μ ++ ν)[i]? with
      | some (.lst _) => some (Wk.cell i)
      | _ => none) = _
    rw [at_old hi]
  obtain ⟨ρ', μ', e, k, fs, d, h1, h2, h3, h4⟩ := loopF_cell (i := i) (xs := xs.map ptD) (t := gN 4) (f := sSeq (sWhile (fun _ _ => 4096) mC mW) (sExpr (eBm "list" mAppend (eVar 2) (aCons (eVar 4) aNil)))) ptD
    (fun r ρ μ' => ∃ (k : Nat) (fs : List Pt) (d : Option DV), ρ = [some (.cell i), some (.cell j), some (.cell μ.length), some (.int (k : Int)), d] ∧ μ' = μ ++ [.lst (fs.map ptD)] ∧ k ≤ ys.length ∧ fs ++ mrg r (ys.drop k) = mrg xs ys)
    (fun l ρ μ' ⟨k, fs, d, _, h2, _, _⟩ => by subst h2; exact at_old hi)
    (fun x l ρ μ' ⟨k, fs, d, h1, h2, h3, h4⟩ => by
      subst h1 h2
      refine ⟨_, rfl, ?_⟩
      have hlen := congrArg List.length h4
      rw [List.length_append, mrg_len, mrg_len, List.length_drop, List.length_cons] at hlen
      have w := merge_while (μ := μ) (a := some (.cell i)) (x := x) hj hb (ys.drop k) 4096 k fs rfl h3 (by rw [List.length_drop]; omega) (by rw [List.length_drop]; omega)
      generalize htw : ((ys.drop k).takeWhile fun y => ahd y x) = tw at w
      have hle : tw.length ≤ (ys.drop k).length := by rw [← htw]; exact (List.takeWhile_sublist _).length_le
      rw [List.length_drop] at hle
      have hr : recv "list" (.cell μ.length) (μ ++ [.lst ((fs ++ tw).map ptD)]) = true := recv_cell at_new
      have hap := app_new (μ := μ) (l := fs ++ tw) (p := x) (by rw [List.length_append]; omega)
      refine ⟨_, _, ?_, k + tw.length, fs ++ tw ++ [x], some (ptD x), rfl, rfl, by omega, ?_⟩
      · show SR.seq (loopW mC mW 4096 [some (.cell i), some (.cell j), some (.cell μ.length), some (.int (k : Int)), some (ptD x)] (μ ++ [.lst (fs.map ptD)])) _ = _
        rw [w]
        simp only [seq_nx, sExpr_ap, eBm_ap, eVar_ap, List.getElem?_cons_succ, List.getElem?_cons_zero, bm1_ok, hr, if_true, aCons_ap, ac1_ok, aNil_ap, ac2_ok, bm2_ok, hap, ofS_some, xpr_ok]
      · rw [← h4]
        have : mrg (x :: l) (ys.drop k) = tw ++ x :: mrg l ((ys.drop k).dropWhile fun y => ahd y x) := by rw [← htw]; rfl
        rw [this, ← tw_len, htw, List.drop_drop]
        simp)
    xs ((xs.map ptD).length + 1) 0 [some (.cell i), some (.cell j), some (.cell μ.length), some (.int ((0 : Nat) : Int)), none] (μ ++ [.lst (([] : List Pt).map ptD)]) rfl rfl (Nat.zero_le _) ⟨0, [], none, rfl, rfl, Nat.zero_le _, rfl⟩
  subst h1 h2
  have h4' : fs ++ ys.drop k = mrg xs ys := h4
  have hwl : wkLen (.cell i) (μ ++ [.lst []]) = (xs.map ptD).length := by simp only [wkLen, at_old hi]
  have hfor : sFor (iSeq (eVar 0)) (gN 4) (sSeq (sWhile (fun _ _ => 4096) mC mW) (sExpr (eBm "list" mAppend (eVar 2) (aCons (eVar 4) aNil)))) [some (.cell i), some (.cell j), some (.cell μ.length), some (.int 0), none] (μ ++ [.lst []]) = .nx [some (.cell i), some (.cell j), some (.cell μ.length), some (.int (k : Int)), d] (μ ++ [.lst (fs.map ptD)]) := by
    rw [sFor_ap]
    simp only [iSeq_ap, eVar_ap, List.getElem?_cons_zero, seqi_ok, hwk, of_some]
    show loopF (.cell i) (gN 4) _ (wkLen (.cell i) (μ ++ [.lst []]) + 1) 0 _ _ = _
    rw [hwl]
    exact e
  generalize sFor (iSeq (eVar 0)) (gN 4) (sSeq (sWhile (fun _ _ => 4096) mC mW) (sExpr (eBm "list" mAppend (eVar 2) (aCons (eVar 4) aNil)))) = FOR at hfor ⊢
  have hsl := cell_from (at_old (ν := [.lst (fs.map ptD)]) hj) h3
  have hadd : eAddC (eVar 2) (eSl vSlc (eVar 1) (oSome (eVar 3)) oNone) [some (.cell i), some (.cell j), some (.cell μ.length), some (.int (k : Int)), d] (μ ++ [.lst (fs.map ptD)]) = .ok (.cell (μ.length + 1)) (μ ++ [.lst (fs.map ptD), .lst ((mrg xs ys).map ptD)]) := by
    have hb2 : eSl vSlc (eVar 1) (oSome (eVar 3)) oNone [some (.cell i), some (.cell j), some (.cell μ.length), some (.int (k : Int)), d] (μ ++ [.lst (fs.map ptD)]) = .ok (.lst ((ys.drop k).map ptD)) (μ ++ [.lst (fs.map ptD)]) := by
      simp only [eVar_ap, List.getElem?_cons_succ, List.getElem?_cons_zero, eSl_ap, sl1_ok, oSome_ap, o1_ok, sl2_ok, oNone_ap, sl3_ok, hsl, of_some]
    unfold eAddC
    show (eSl vSlc (eVar 1) (oSome (eVar 3)) oNone [some (.cell i), some (.cell j), some (.cell μ.length), some (.int (k : Int)), d] (μ ++ [.lst (fs.map ptD)])).bind _ = _
    rw [hb2]
    have l1 : lstOf (μ ++ [.lst (fs.map ptD)]) (.cell μ.length) = some (fs.map ptD) := by simp only [lstOf, at_new]
    have l2 : lstOf (μ ++ [.lst (fs.map ptD)]) (.lst ((ys.drop k).map ptD)) = some ((ys.drop k).map ptD) := rfl
    show (match lstOf (μ ++ [.lst (fs.map ptD)]) (.cell μ.length), lstOf (μ ++ [.lst (fs.map ptD)]) (.lst ((ys.drop k).map ptD)) with
      | some xs, some ys => if okLen (xs.length + ys.length) = true then (R.ok (DV.cell (μ ++ [CO.lst (fs.map ptD)]).length) (μ ++ [CO.lst (fs.map ptD)] ++ [CO.lst (xs ++ ys)]) : R DV) else R.stuck
      | _, _ => R.stuck) = _
    rw [l1, l2]
    have hlen := congrArg List.length h4'
    rw [List.length_append, mrg_len] at hlen
    simp only
    rw [if_pos (okLen_small (by rw [List.length_map, List.length_map]; omega)), ← List.map_append, h4', List.length_append, List.length_singleton, List.append_assoc]
    rfl
  simp only [sSeq_ap, sPar_ap, aCons_ap, eLstC_ap, aNil_ap, mk_ok, mkC0, ac1_ok, eC_ap, ac2_ok, par_ok, seq_nx]
  show SR.fin .cl μ.length (SR.seq (FOR [some (.cell i), some (.cell j), some (.cell μ.length), some (.int 0), none] (μ ++ [.lst []])) _) = _
  rw [hfor]
  simp only [seq_nx, sRet_ap, hadd, ret_ok]
  show finC μ.length (.cell (μ.length + 1)) (μ ++ [.lst (fs.map ptD), .lst ((mrg xs ys).map ptD)]) = _
  unfold finC
  have e1 : (μ ++ [CO.lst (fs.map ptD), .lst ((mrg xs ys).map ptD)]).take μ.length = μ := by simp
  have e2 : (μ ++ [CO.lst (fs.map ptD), .lst ((mrg xs ys).map ptD)])[μ.length + 1]? = some (.lst ((mrg xs ys).map ptD)) := by
    rw [List.getElem?_append_right (by omega)]
    have : μ.length + 1 - μ.length = 1 := by omega
    rw [this]; rfl
  rw [e1, if_pos (lowS_all lw _)]
  have n1 : ¬ μ.length + 1 < μ.length := by omega
  simp only [n1, if_false, e2, low_pts, if_true]
end
end Lw

set_option Elab.async false
set_option linter.all false
set_option maxRecDepth 100000
set_option maxHeartbeats 4000000
/-! k02: in_round; the law's rounds. -/
namespace Lw
open PySem PySem.Spec PyProof.Rows L2 SD
/-! plain: each once -/
theorem addP_len {ms : List Pt} {q : Pt} : (addP ms q).length ≤ ms.length + 1 := by unfold addP; split <;> simp
theorem addP_nd {ms : List Pt} {q : Pt} (h : ms.Nodup) : (addP ms q).Nodup := by
  unfold addP
  split
  · exact h
  · rename_i hq
    rw [List.nodup_append]
    exact ⟨h, by simp, fun a ha b hb e => by simp at hb; subst hb e; exact hq ha⟩
theorem mem_addP {ms : List Pt} {q d : Pt} : d ∈ addP ms q ↔ d ∈ ms ∨ d = q := by
  unfold addP
  split
  · rename_i hq
    exact ⟨.inl, fun h => h.elim id fun e => e ▸ hq⟩
  · simp
def ddp (ds : List Pt) : List Pt := ds.foldl (fun m x => addP m x) []
theorem ddp_go : ∀ (ds ms : List Pt), ms.Nodup → (ds.foldl (fun m x => addP m x) ms).Nodup ∧ (∀ x, x ∈ ds.foldl (fun m x => addP m x) ms ↔ x ∈ ms ∨ x ∈ ds) ∧ (ds.foldl (fun m x => addP m x) ms).length ≤ ms.length + ds.length
  | [], ms, h => ⟨h, fun x => by simp, by simp⟩
  | d :: ds, ms, h => by
    obtain ⟨h1, h2, h3⟩ := ddp_go ds (addP ms d) (addP_nd h)
    refine ⟨h1, fun x => ?_, ?_⟩
    · rw [List.foldl_cons, h2, mem_addP, List.mem_cons]
      constructor
      · rintro ((a | a) | a)
        · exact .inl a
        · exact .inr (.inl a)
        · exact .inr (.inr a)
      · rintro (a | a | a)
        · exact .inl (.inl a)
        · exact .inl (.inr a)
        · exact .inr a
    · rw [List.foldl_cons, List.length_cons]
      have := addP_len (ms := ms) (q := d)
      omega
theorem ddp_nd {ds : List Pt} : (ddp ds).Nodup := (ddp_go ds [] .nil).1
theorem mem_ddp {ds : List Pt} {x : Pt} : x ∈ ddp ds ↔ x ∈ ds := by
  have := (ddp_go ds [] .nil).2.1 x
  simpa [ddp] using this
theorem ddp_len {ds : List Pt} : (ddp ds).length ≤ ds.length := by
  have := (ddp_go ds [] .nil).2.2
  simpa [ddp] using this
/-! rows of cells -/
def Rw (μ : Sto) : List Nat → List (List Pt) → Prop
  | [], [] => True
  | c :: cs, l :: L => μ[c]? = some (.lst (l.map ptD)) ∧ Rw μ cs L
  | _, _ => False
theorem Rw.ext {μ ν : Sto} : ∀ {cs : List Nat} {L : List (List Pt)}, Rw μ cs L → Rw (μ ++ ν) cs L
  | [], [], _ => trivial
  | c :: cs, l :: L, h => ⟨at_old h.1, Rw.ext h.2⟩
theorem Rw.len {μ : Sto} : ∀ {cs : List Nat} {L : List (List Pt)}, Rw μ cs L → cs.length = L.length
  | [], [], _ => rfl
  | c :: cs, l :: L, h => by rw [List.length_cons, List.length_cons, Rw.len h.2]
theorem Rw.get {μ : Sto} : ∀ {cs : List Nat} {L : List (List Pt)} {i : Nat} {l : List Pt}, Rw μ cs L → L[i]? = some l → ∃ c, cs[i]? = some c ∧ μ[c]? = some (.lst (l.map ptD))
  | [], [], i, l, h, e => by simp at e
  | c :: cs, l' :: L, 0, l, h, e => by
    have : l' = l := by simpa using e
    subst this
    exact ⟨c, rfl, h.1⟩
  | c :: cs, l' :: L, i + 1, l, h, e => by
    obtain ⟨c', h1, h2⟩ := Rw.get (i := i) h.2 (by simpa using e)
    exact ⟨c', by simpa using h1, h2⟩
theorem Rw.snoc {μ : Sto} : ∀ {cs : List Nat} {L : List (List Pt)} {c : Nat} {l : List Pt}, Rw μ cs L → μ[c]? = some (.lst (l.map ptD)) → Rw μ (cs ++ [c]) (L ++ [l])
  | [], [], c, l, _, h => ⟨h, trivial⟩
  | c' :: cs, l' :: L, c, l, h, e => ⟨h.1, Rw.snoc h.2 e⟩
/-- what neighbours give; the last one alone stays out -/
def rndM : List (List Pt) → List (List Pt)
  | a :: b :: r => mrg a b :: rndM r
  | _ => []
theorem rnd_even : ∀ {L : List (List Pt)}, L.length % 2 = 0 → rnd L = rndM L
  | [], _ => rfl
  | [a], h => by simp at h
  | a :: b :: r, h => by
    show mrg a b :: rnd r = mrg a b :: rndM r
    rw [rnd_even (by rw [List.length_cons, List.length_cons] at h; omega)]
theorem rnd_odd : ∀ {L : List (List Pt)} {l : List Pt}, L.length % 2 = 1 → L[L.length - 1]? = some l → rnd L = rndM L ++ [l]
  | [], _, h, _ => by simp at h
  | [a], l, _, e => by
    have : a = l := by simpa using e
    rw [this]; rfl
  | a :: b :: r, l, h, e => by
    show mrg a b :: rnd r = mrg a b :: (rndM r ++ [l])
    rw [List.length_cons, List.length_cons] at h e
    have hr : 0 < r.length := by omega
    rw [rnd_odd (l := l) (by omega) (by
      have : r.length + 1 + 1 - 1 = (r.length - 1) + 1 + 1 := by omega
      rw [this, List.getElem?_cons_succ, List.getElem?_cons_succ] at e
      exact e)]
section
variable {μ : Sto}
theorem lowS_app {μ ν : Sto} (h : lowS μ) (k : lowS ν) : lowS (μ ++ ν) := fun c hc => by
  rcases List.mem_append.mp hc with m | m
  · exact h c m
  · exact k c m
theorem lowS_one {l : List Pt} : lowS [.lst (l.map ptD)] := fun c hc => by
  have : c = .lst (l.map ptD) := by simpa using hc
  subst this
  exact low_pts
theorem lowS_nil : lowS [] := fun c hc => by cases hc
theorem rows_ok {ρ : En} (hρ : 3 < ρ.length) : ∀ (l : List Pt) (μ : Sto), ∃ cs ν, compD (gN 3) tYes' (eLstC (aCons (eVar 3) aNil)) ρ (l.map ptD) μ = .ok (cs.map .cell) (μ ++ ν) ∧ Rw (μ ++ ν) cs (l.map fun d => [d]) ∧ lowS ν ∧ ∀ c ∈ cs, μ.length ≤ c
  | [], μ => ⟨[], [], by rw [List.append_nil]; rfl, trivial, lowS_nil, fun c hc => by cases hc⟩
  | d :: l, μ => by
    obtain ⟨cs, ν, e, h1, h2, h3⟩ := rows_ok hρ l (μ ++ [.lst [ptD d]])
    refine ⟨μ.length :: cs, .lst [ptD d] :: ν, ?_, ⟨?_, ?_⟩, ?_, ?_⟩
    · rw [List.map_cons]
      unfold compD
      have hg : (ρ.set 3 (some (ptD d)))[3]? = some (some (ptD d)) := by rw [List.getElem?_set_self hρ]
      have ht : eLstC (aCons (eVar 3) aNil) (ρ.set 3 (some (ptD d))) μ = .ok (.cell μ.length) (μ ++ [.lst [ptD d]]) := by
        simp only [eLstC_ap, aCons_ap, eVar_ap, hg, ac1_ok, aNil_ap, ac2_ok, mk_ok]
        exact mkC_small (by show 1 ≤ _; decide)
      show (eLstC (aCons (eVar 3) aNil) (ρ.set 3 (some (ptD d))) μ).nox.bind _ = _
      rw [ht]
      show (compD (gN 3) tYes' (eLstC (aCons (eVar 3) aNil)) ρ (l.map ptD) (μ ++ [.lst [ptD d]])).bind _ = _
      rw [e, List.append_assoc]
      rfl
    · show (μ ++ (.lst [ptD d] :: ν))[μ.length]? = some (.lst ([d].map ptD))
      rw [List.getElem?_append_right (Nat.le_refl _), Nat.sub_self]
      rfl
    · have := h1
      rw [List.append_assoc] at this
      exact this
    · exact lowS_app (μ := [.lst [ptD d]]) (lowS_one (l := [d])) h2
    · intro c hc
      rcases List.mem_cons.mp hc with e | e
      · rw [e]; exact Nat.le_refl _
      · have := h3 c e
        rw [List.length_append] at this
        omega
theorem ix_cells {cs : List Nat} {k c : Nat} (h : cs[k]? = some c) : vIx (.lst (cs.map .cell)) (.int (k : Int)) μ = some (.cell c) := by
  have hk : k < cs.length := (List.getElem?_eq_some_iff.mp h).1
  show atI (cs.map DV.cell) (k : Int) = _
  rw [atI_nat (by simpa using hk), List.getElem?_map, h]
  rfl
theorem ix_last {cs : List Nat} {c : Nat} (h : cs[cs.length - 1]? = some c) : vIx (.lst (cs.map .cell)) (.int (-1)) μ = some (.cell c) := by
  have hk : cs.length - 1 < cs.length := (List.getElem?_eq_some_iff.mp h).1
  show (ixN (cs.map DV.cell).length (-1)).bind (fun j => (cs.map DV.cell)[j]?) = _
  have : ixN (cs.map DV.cell).length (-1) = some (cs.length - 1) := by
    unfold ixN
    rw [List.length_map, if_neg (by decide), if_pos (by omega)]
    congr 1
    omega
  rw [this]
  show (cs.map DV.cell)[cs.length - 1]? = _
  rw [List.getElem?_map, h]
  rfl
abbrev lateE : DE := eCall f_merged (aCons (eBin vIx (eVar 1) (eVar 4)) (aCons (eBin vIx (eVar 1) (eBin vAdd (eVar 4) (eC (.int 1)))) aNil))
theorem drop_two {L : List (List Pt)} {k : Nat} {a b : List Pt} {r : List (List Pt)} (h : L.drop k = a :: b :: r) : L[k]? = some a ∧ L[k + 1]? = some b ∧ L.drop (k + 2) = r := by
  have e1 := congrArg List.head? h
  rw [List.head?_drop] at e1
  have h2 := congrArg List.tail h
  rw [List.tail_drop] at h2
  have e2 := congrArg List.head? h2
  rw [List.head?_drop] at e2
  have h3 := congrArg List.tail h2
  rw [List.tail_drop] at h3
  exact ⟨e1, e2, h3⟩
theorem flat_le {L : List (List Pt)} {i : Nat} {l : List Pt} (h : L[i]? = some l) : l.length ≤ L.flatten.length := by
  have hm := List.mem_of_getElem? h
  exact (List.sublist_flatten_of_mem hm).length_le
theorem late_ok {a x2 x3 : Option DV} {cs : List Nat} {L : List (List Pt)} (hb : ∀ d ∈ L.flatten, bp d) (hl : L.flatten.length ≤ 500) :
    ∀ (m k : Nat) (μ : Sto), Rw μ cs L → lowS μ → (L.drop (2 * k)).length / 2 = m → ∃ es ν, compD (gN 4) tYes' lateE [a, some (.lst (cs.map .cell)), x2, x3, none] ((List.range' k m).map fun (j : Nat) => DV.int (0 + (j : Int) * 2)) μ = .ok (es.map .cell) (μ ++ ν) ∧ Rw (μ ++ ν) es (rndM (L.drop (2 * k))) ∧ lowS ν ∧ ∀ c ∈ es, μ.length ≤ c
  | 0, k, μ, hR, lw, hm => by
    refine ⟨[], [], by rw [List.append_nil]; rfl, ?_, lowS_nil, fun c hc => by cases hc⟩
    match h : L.drop (2 * k) with
    | [] => trivial
    | [_] => trivial
    | _ :: _ :: r => exfalso; rw [h] at hm; simp only [List.length_cons] at hm; omega
  | m + 1, k, μ, hR, lw, hm => by
    match h : L.drop (2 * k) with
    | [] => rw [h] at hm; simp at hm
    | [_] => rw [h] at hm; simp at hm
    | p :: q :: r =>
      obtain ⟨g1, g2, g3⟩ := drop_two h
      obtain ⟨c1, i1, m1⟩ := hR.get g1
      obtain ⟨c2, i2, m2⟩ := hR.get g2
      have hq : ∀ y ∈ q, bp y := fun y hy => hb y (List.mem_flatten.mpr ⟨q, List.mem_of_getElem? g2, hy⟩)
      have l1 := flat_le g1
      have l2 := flat_le g2
      have me := merged_ok lw m1 m2 hq (by omega)
      have e3 : 2 * (k + 1) = 2 * k + 2 := by omega
      obtain ⟨es, ν, e, h1, h2, h3⟩ := late_ok (a := a) (x2 := x2) (x3 := x3) hb hl m (k + 1) (μ ++ [.lst ((mrg p q).map ptD)]) hR.ext (lowS_app lw lowS_one) (by
        rw [h] at hm
        rw [e3, g3]
        simp only [List.length_cons] at hm
        omega)
      rw [e3, g3] at h1
      refine ⟨μ.length :: es, .lst ((mrg p q).map ptD) :: ν, ?_, ⟨?_, ?_⟩, lowS_app (μ := [.lst ((mrg p q).map ptD)]) lowS_one h2, ?_⟩
      · rw [List.range'_succ, List.map_cons]
        unfold compD
        have v1 : vIx (.lst (cs.map .cell)) (.int (0 + (k : Int) * 2)) μ = some (.cell c1) := by
          have : (0 + (k : Int) * 2) = ((2 * k : Nat) : Int) := by omega
          rw [this]; exact ix_cells i1
        have v2 : vIx (.lst (cs.map .cell)) (.int (0 + (k : Int) * 2 + 1)) μ = some (.cell c2) := by
          have : (0 + (k : Int) * 2 + 1) = ((2 * k + 1 : Nat) : Int) := by omega
          rw [this]; exact ix_cells i2
        have ht : lateE [a, some (.lst (cs.map .cell)), x2, x3, some (.int (0 + (k : Int) * 2))] μ = .ok (.cell μ.length) (μ ++ [.lst ((mrg p q).map ptD)]) := by
          simp only [eCall_ap, aCons_ap, eBin_ap, eVar_ap, List.getElem?_cons_succ, List.getElem?_cons_zero, bin1_ok, bin2_ok, v1, of_some, ac1_ok, eC_ap, vAdd_i, v2, aNil_ap, ac2_ok, mk_ok, me]
        show (lateE [a, some (.lst (cs.map .cell)), x2, x3, some (.int (0 + (k : Int) * 2))] μ).nox.bind _ = _
        rw [ht]
        show (compD (gN 4) tYes' lateE [a, some (.lst (cs.map .cell)), x2, x3, none] ((List.range' (k + 1) m).map fun (j : Nat) => DV.int (0 + (j : Int) * 2)) (μ ++ [.lst ((mrg p q).map ptD)])).bind _ = _
        rw [e, List.append_assoc]
        rfl
      · show (μ ++ (.lst ((mrg p q).map ptD) :: ν))[μ.length]? = some (.lst ((mrg p q).map ptD))
        rw [List.getElem?_append_right (Nat.le_refl _), Nat.sub_self]
        rfl
      · have := h1
        rw [List.append_assoc] at this
        exact this
      · intro c hc
        rcases List.mem_cons.mp hc with e | e
        · rw [e]; exact Nat.le_refl _
        · have := h3 c e
          rw [List.length_append] at this
          omega
theorem rng_two {n : Nat} (h1 : 2 ≤ n) (h2 : n ≤ 40) : rngOf3 [.int 0, .int ((n : Int) - 1), .int 2] = some (.fix ((List.range' 0 (n / 2)).map fun (j : Nat) => DV.int (0 + (j : Int) * 2))) := by
  have : ∀ n : Nat, n ≤ 40 → 2 ≤ n → Builtin.Range.rangeSize 0 ((n : Int) - 1) 2 = ((n / 2 : Nat) : Int) ∧ Builtin.Range.small 0 ((n : Int) - 1) 2 = true := by decide +kernel
  obtain ⟨e1, e2⟩ := this n h2 h1
  show (if ((!decide ((2 : Int) = 0)) && (decide ((2 : Int).natAbs < 1073741824) && (Builtin.Range.small 0 ((n : Int) - 1) 2 && decide (0 ≤ Builtin.Range.rangeSize 0 ((n : Int) - 1) 2)))) = true then some (Wk.fix ((List.range (Builtin.Range.rangeSize 0 ((n : Int) - 1) 2).toNat).map fun (k : Nat) => DV.int (0 + (k : Nat) * 2))) else none) = _
  rw [e1, e2, if_pos (by
    have : (0 : Int) ≤ ((n / 2 : Nat) : Int) := by omega
    simp [this]; omega), Int.toNat_natCast, List.range_eq_range']
abbrev wC : DT := tB' (eBin vGt (eFn vLen (aCons (eVar 1) aNil)) (eC (.int 1)))
abbrev wB : DS := sSeq (sAsg (eLc (iRng3' (aCons (eC (.int 0)) (aCons (eBin vSub (eFn vLen (aCons (eVar 1) aNil)) (eC (.int 1))) (aCons (eC (.int 2)) aNil)))) (gN 4) tYes' lateE [4]) (gN 2))
    (sAsg (eIf (tB' (eBin vEq (eBin vMod (eFn vLen (aCons (eVar 1) aNil)) (eC (.int 2))) (eC (.int 0)))) (eVar 2) (eLst (aStar (eVar 2) (aCons (eBin vIx (eVar 1) (eUn vNeg (eC (.int 1)))) aNil)))) (gN 1))
/-- the rows, of the directions U, each row in order -/
structure Ok (U : List Pt) (L : List (List Pt)) : Prop where
  s : ∀ l ∈ L, Srt l
  p : L.flatten.Perm U
theorem Ok.rnd {U : List Pt} {L : List (List Pt)} (h : Ok U L) (hn : U.Nodup) (hp : ∀ d ∈ U, Prm d) : Ok U (rnd L) :=
  ⟨rnd_srt h.s (fun d hd => hp d (h.p.mem_iff.mp hd)) (h.p.nodup_iff.mpr hn), (rnd_perm L).trans h.p⟩
theorem rounds_ok {a : Option DV} {U : List Pt} (hn : U.Nodup) (hp : ∀ d ∈ U, Prm d) (hb : ∀ d ∈ U, bp d) (hU : U.length ≤ 500) (N : Nat) :
    ∀ (n : Nat) (L : List (List Pt)) (cs : List Nat) (x2 x3 x4 : Option DV) (μ : Sto), L.length < n → L.length ≤ 40 → Rw μ cs L → lowS μ → (∀ c ∈ cs, N ≤ c) → N ≤ μ.length → Ok U L →
      ∃ cs' L' ν y2 y3 y4, loopW wC wB n [a, some (.lst (cs.map .cell)), x2, x3, x4] μ = .nx [a, some (.lst (cs'.map .cell)), y2, y3, y4] (μ ++ ν) ∧ Rw (μ ++ ν) cs' L' ∧ (∀ c ∈ cs', N ≤ c) ∧ L'.length ≤ 1 ∧ Ok U L'
  | n + 1, L, cs, x2, x3, x4, μ, hl, h40, hR, lw, hc, hN, ok => by
    have hlen := hR.len
    have hvl : ∀ μ, vLen [.lst (cs.map .cell)] μ = some (.int cs.length) := fun μ => by rw [vLen_l, List.length_map]
    by_cases h1 : L.length ≤ 1
    · refine ⟨cs, L, [], x2, x3, x4, ?_, by rw [List.append_nil]; exact hR, hc, h1, ok⟩
      unfold loopW
      have : ¬ (1 : Int) < (cs.length : Int) := by omega
      simp [hvl, this, R.toS]
    · have hm : (L.drop (2 * 0)).length / 2 = L.length / 2 := rfl
      obtain ⟨es, ν, e, r1, r2, r3⟩ := late_ok (a := a) (x2 := x2) (x3 := x3) (cs := cs) (L := L) (fun d hd => hb d (ok.p.mem_iff.mp hd)) (by rw [ok.p.length_eq]; exact hU) (L.length / 2) 0 μ hR lw hm
      have hrg := rng_two (n := cs.length) (by omega) (by omega)
      rw [hlen] at hrg
      have hlc : eLc (iRng3' (aCons (eC (.int 0)) (aCons (eBin vSub (eFn vLen (aCons (eVar 1) aNil)) (eC (.int 1))) (aCons (eC (.int 2)) aNil)))) (gN 4) tYes' lateE [4] [a, some (.lst (cs.map .cell)), x2, x3, x4] μ = .ok (.lst (es.map .cell)) (μ ++ ν) := by
        have wp : wipeE [a, some (.lst (cs.map .cell)), x2, x3, x4] [4] = [a, some (.lst (cs.map .cell)), x2, x3, none] := rfl
        rw [eLc_ap, wp, iRng3_ap]
        simp only [aCons_ap, eC_ap, ac1_ok, eBin_ap, eFn_ap, eVar_ap, List.getElem?_cons_succ, List.getElem?_cons_zero, aNil_ap, ac2_ok, mk_ok, hvl, of_some, bin1_ok, bin2_ok, vSub_i, rg3_ok]
        rw [hlen, hrg, of_some, lc1_fix (by rw [List.length_map, List.length_range']; omega), e, mk_ok]
      have hgt : (1 : Int) < (cs.length : Int) := by omega
      have hcond : wC [a, some (.lst (cs.map .cell)), x2, x3, x4] μ = .ok true μ := by simp [hvl, hgt]
      have fin : ∀ cs2, Rw (μ ++ ν) cs2 (Lw.rnd L) → (∀ c ∈ cs2, N ≤ c) → wB [a, some (.lst (cs.map .cell)), x2, x3, x4] μ = .nx [a, some (.lst (cs2.map .cell)), some (.lst (es.map .cell)), x3, x4] (μ ++ ν) → ∃ cs' L' ν' y2 y3 y4, loopW wC wB (n + 1) [a, some (.lst (cs.map .cell)), x2, x3, x4] μ = .nx [a, some (.lst (cs'.map .cell)), y2, y3, y4] (μ ++ ν') ∧ Rw (μ ++ ν') cs' L' ∧ (∀ c ∈ cs', N ≤ c) ∧ L'.length ≤ 1 ∧ Ok U L' := fun cs2 q1 q2 q3 => by
        have hr := rnd_len L
        obtain ⟨cs', L', ν', y2, y3, y4, f1, f2, f3, f4, f5⟩ := rounds_ok hn hp hb hU N n (Lw.rnd L) cs2 (some (.lst (es.map .cell))) x3 x4 (μ ++ ν) (by omega) (by omega) q1 (lowS_app lw r2) q2 (by rw [List.length_append]; omega) (ok.rnd hn hp)
        refine ⟨cs', L', ν ++ ν', y2, y3, y4, ?_, by rw [← List.append_assoc]; exact f2, f3, f4, f5⟩
        conv => lhs; unfold loopW
        rw [hcond]
        show (match wB [a, some (.lst (cs.map .cell)), x2, x3, x4] μ with
          | .nx ρ' μ' => loopW wC wB n ρ' μ'
          | .ct ρ' μ' => loopW wC wB n ρ' μ'
          | .bk ρ' μ' => .nx ρ' μ'
          | r => r) = _
        rw [q3]
        show loopW wC wB n _ _ = _
        rw [f1, List.append_assoc]
      have hes : ∀ c ∈ es, N ≤ c := fun c hc' => by have := r3 c hc'; omega
      rcases Nat.mod_two_eq_zero_or_one L.length with h2 | h2
      · refine fin es (by rw [rnd_even h2]; exact r1) hes ?_
        have : (cs.length : Int) % 2 = 0 := by omega
        have hb0 : eIf (tB' (eBin vEq (eBin vMod (eFn vLen (aCons (eVar 1) aNil)) (eC (.int 2))) (eC (.int 0)))) (eVar 2) (eLst (aStar (eVar 2) (aCons (eBin vIx (eVar 1) (eUn vNeg (eC (.int 1)))) aNil))) [a, some (.lst (cs.map .cell)), some (.lst (es.map .cell)), x3, x4] (μ ++ ν) = .ok (.lst (es.map .cell)) (μ ++ ν) := by
          simp [hvl, vMod_i, this]
        simp only [wB, sSeq_ap, sAsg_ap]
        rw [hlc]
        show SR.seq (.nx [a, some (.lst (cs.map .cell)), some (.lst (es.map .cell)), x3, x4] (μ ++ ν)) _ = _
        simp only [seq_nx, sAsg_ap]
        rw [hb0]
        rfl
      · have hlast : L[L.length - 1]? = some (L[L.length - 1]'(by omega)) := List.getElem?_eq_getElem _
        obtain ⟨c, i1, i2⟩ := hR.get hlast
        rw [← hlen] at i1
        refine fin (es ++ [c]) (by rw [rnd_odd h2 hlast]; exact r1.snoc (at_old i2)) (fun c' hc' => ?_) ?_
        · rcases List.mem_append.mp hc' with e | e
          · exact hes c' e
          · have : c' = c := by simpa using e
            rw [this]
            exact hc c (List.mem_of_getElem? i1)
        have : ¬ (cs.length : Int) % 2 = 0 := by omega
        have hla := ix_last (μ := μ ++ ν) i1
        have hstar : eLst (aStar (eVar 2) (aCons (eBin vIx (eVar 1) (eUn vNeg (eC (.int 1)))) aNil)) [a, some (.lst (cs.map .cell)), some (.lst (es.map .cell)), x3, x4] (μ ++ ν) = .ok (.lst ((es ++ [c]).map .cell)) (μ ++ ν) := by
          have hin : aCons (eBin vIx (eVar 1) (eUn vNeg (eC (.int 1)))) aNil [a, some (.lst (cs.map .cell)), some (.lst (es.map .cell)), x3, x4] (μ ++ ν) = .ok [.cell c] (μ ++ ν) := by
            simp [hla]
          have hst : aStar (eVar 2) (aCons (eBin vIx (eVar 1) (eUn vNeg (eC (.int 1)))) aNil) [a, some (.lst (cs.map .cell)), some (.lst (es.map .cell)), x3, x4] (μ ++ ν) = .ok (es.map .cell ++ [.cell c]) (μ ++ ν) := by
            unfold aStar
            show (aCons (eBin vIx (eVar 1) (eUn vNeg (eC (.int 1)))) aNil [a, some (.lst (cs.map .cell)), some (.lst (es.map .cell)), x3, x4] (μ ++ ν)).bind _ = _
            rw [hin]
            rfl
          rw [eLst_ap, hst, mk_ok, mkL_small (by
            rw [List.length_append, List.length_map]
            have := r1.len
            have h3 : (rndM (L.drop (2 * 0))).length ≤ L.length := by
              have := rnd_len L
              rw [rnd_odd h2 hlast, List.length_append, List.length_singleton] at this
              show (rndM L).length ≤ _
              omega
            simp only [List.length_singleton]
            omega), List.map_append]
          rfl
        have hb0 : eIf (tB' (eBin vEq (eBin vMod (eFn vLen (aCons (eVar 1) aNil)) (eC (.int 2))) (eC (.int 0)))) (eVar 2) (eLst (aStar (eVar 2) (aCons (eBin vIx (eVar 1) (eUn vNeg (eC (.int 1)))) aNil))) [a, some (.lst (cs.map .cell)), some (.lst (es.map .cell)), x3, x4] (μ ++ ν) = .ok (.lst ((es ++ [c]).map .cell)) (μ ++ ν) := by
          generalize eLst (aStar (eVar 2) (aCons (eBin vIx (eVar 1) (eUn vNeg (eC (.int 1)))) aNil)) = E at hstar ⊢
          have ht : tB' (eBin vEq (eBin vMod (eFn vLen (aCons (eVar 1) aNil)) (eC (.int 2))) (eC (.int 0))) [a, some (.lst (cs.map .cell)), some (.lst (es.map .cell)), x3, x4] (μ ++ ν) = .ok false (μ ++ ν) := by
            simp only [tB_ap, eBin_ap, eFn_ap, aCons_ap, eVar_ap, List.getElem?_cons_succ, List.getElem?_cons_zero, ac1_ok, aNil_ap, ac2_ok, mk_ok, hvl, of_some, bin1_ok, eC_ap, bin2_ok, vMod_i (show (0 : Int) < 2 by decide), vEq_i, tb_ok]
            rw [decide_eq_false this]
          rw [eIf_ap, ht, eif_f, hstar]
        simp only [wB, sSeq_ap, sAsg_ap]
        rw [hlc]
        show SR.seq (.nx [a, some (.lst (cs.map .cell)), some (.lst (es.map .cell)), x3, x4] (μ ++ ν)) _ = _
        simp only [seq_nx, sAsg_ap]
        rw [hb0]
        rfl
end
end Lw

set_option Elab.async false
set_option linter.all false
set_option maxRecDepth 100000
set_option maxHeartbeats 4000000
/-! k02: in_round told; the law's rounds. -/
namespace Lw
open PySem PySem.Spec PyProof.Rows L2 SD
theorem ok_one {U : List Pt} : Ok U (U.map fun d => [d]) := by
  refine ⟨fun l hl => ?_, ?_⟩
  · obtain ⟨d, _, rfl⟩ := List.mem_map.mp hl
    exact List.pairwise_singleton _ _
  · have : (U.map fun d => [d]).flatten = U := by
      induction U with
      | nil => rfl
      | cons d U ih => simp [ih]
    rw [this]
theorem rounded_perm {ds : List Pt} (hp : ∀ d ∈ ds, Prm d) : (rounded ds).Perm (ddp ds) := by
  obtain ⟨h1, h2⟩ := rounded_ok (ds := ds) (l := []) .nil (fun e he => by cases he) hp
  refine (List.perm_ext_iff_of_nodup (srt_nodup h1) ddp_nd).mpr fun x => ?_
  show x ∈ ds.foldl ins [] ↔ _
  rw [h2, mem_ddp]
  simp
theorem rounded_srt {ds : List Pt} (hp : ∀ d ∈ ds, Prm d) : Srt (rounded ds) := (rounded_ok (ds := ds) (l := []) .nil (fun e he => by cases he) hp).1
theorem mem_rounded {ds : List Pt} (hp : ∀ d ∈ ds, Prm d) {x : Pt} : x ∈ rounded ds ↔ x ∈ ds := by
  have := (rounded_ok (ds := ds) (l := []) .nil (fun e he => by cases he) hp).2 x
  simpa [rounded] using this
theorem rounded_len {ds : List Pt} (hp : ∀ d ∈ ds, Prm d) : (rounded ds).length ≤ ds.length := by
  rw [(rounded_perm hp).length_eq]; exact ddp_len
theorem shaped_row {l : List Pt} : SeqAt.shaped (.list [.list (l.map ptY)]) = true := by
  have h := dep_pts (l := l)
  have hc := lay_pts (l := l)
  unfold SeqAt.shaped
  rw [Bool.and_eq_true, decide_eq_true_eq]
  refine ⟨?_, ?_⟩
  · simp only [PyData.canLay0, PyData.canLayAll0, hc, Bool.and_self]
  · simp only [PyData.depth, PyData.depthAll]; omega
section
variable {μ : Sto}
theorem ne_row {c : Nat} {l : List Pt} (h : μ[c]? = some (.lst (l.map ptD))) : vNe (.lst [.cell c]) (.lst []) μ = some (.bl true) := by
  have h0 : SeqAt.shaped (.list []) = true := rfl
  have e1 : toPyC μ (.lst [.cell c]) = none := rfl
  have e2 : toPyM μ (.lst [.cell c]) = some (.list [.list (l.map ptY)]) := by
    have : toPyM μ (.cell c) = some (.list (l.map ptY)) := by
      unfold toPyM
      rw [h]
      show (toPyL (l.map ptD)).map PyData.list = _
      rw [toPy_pts]; rfl
    show (toPyML μ [.cell c]).map PyData.list = _
    have e : toPyML μ [.cell c] = some [.list (l.map ptY)] := by
      show (match toPyM μ (.cell c), toPyML μ [] with
        | some p, some ps => some (p :: ps)
        | _, _ => none) = _
      rw [this]; rfl
    rw [e]; rfl
  have e3 : toPyM μ (.lst []) = some (.list []) := rfl
  show (eqP (.lst [.cell c]) (.lst []) μ).map (fun b => DV.bl (!b)) = _
  unfold eqP
  rw [e1, e2, e3]
  simp only [shaped_row, h0, Bool.and_self, if_true, Option.map_some]
  rfl
theorem ne_none : vNe (.lst []) (.lst []) μ = some (.bl false) := by
  have := ne_nil (μ := μ) (l := [])
  exact this
theorem gatK_ok {a : DV} {ds : List Pt} {x1 x2 x4 : Option DV} (hw : wkOf a μ = some (.fix (ds.map ptD))) (hl : ds.length ≤ 50) : eGatK (iSeq (eVar 0)) (gN 3) tYes' (eVar 3) (eC (.bl true)) [3] [some a, x1, x2, none, x4] μ = .ok (ddp ds) μ := by
  unfold eGatK
  have h1 : iSeq (eVar 0) [some a, x1, x2, none, x4] μ = .ok (.fix (ds.map ptD)) μ := by simp [hw]
  rw [h1]
  show loopA (.fix (ds.map ptD)) (gN 3) tYes' (bdK (eVar 3) (eC (.bl true))) [some a, x1, x2, none, x4] ((ds.map ptD).length + 1) 0 [] μ = _
  refine loopA_list ptD (fun x ms => addP ms x) (fun r m => m.length + r.length ≤ 50) (fun x r m hJ => ?_) ds (ds.map ptD) _ 0 [] rfl rfl (Nat.zero_le _) (by simpa using hl)
  rw [List.length_cons] at hJ
  have ha := addP_len (ms := m) (q := x)
  refine ⟨by omega, _, rfl, .inl ⟨rfl, ?_⟩⟩
  show (match asP (ptD x) with
    | some q => if m.length < 64 then R.ok (addP m q) μ else .stuck
    | none => .stuck) = _
  rw [asP_pt]
  show (if m.length < 64 then R.ok (addP m x) μ else .stuck) = _
  rw [if_pos (by omega)]
theorem in_round_ok {a : DV} {ds : List Pt} (lw : lowS μ) (hw : wkOf a μ = some (.fix (ds.map ptD))) (hl : ds.length ≤ 40) (hp : ∀ d ∈ ds, Prm d) (hb : ∀ d ∈ ds, bp d) :
    f_in_round [a] μ = .ok (.cell μ.length) (μ ++ [.lst ((rounded ds).map ptD)]) := by
  have hU : ∀ d ∈ ddp ds, Prm d := fun d hd => hp d (mem_ddp.mp hd)
  have hUb : ∀ d ∈ ddp ds, bp d := fun d hd => hb d (mem_ddp.mp hd)
  have hlU := ddp_len (ds := ds)
  unfold f_in_round
  rw [runF1]
  unfold b_in_round
  have g := gatK_ok (μ := μ) (x1 := none) (x2 := none) (x4 := none) hw (by omega)
  obtain ⟨cs, ν, e, r1, r2, r3⟩ := rows_ok (ρ := [some a, none, none, none, none]) (by show 3 < 5; decide) (ddp ds) μ
  have hit : ∀ ρ, ρ = [some a, none, none, none, none] → eLc (iKeysD (eGatK (iSeq (eVar 0)) (gN 3) tYes' (eVar 3) (eC (.bl true)) [3])) (gN 3) tYes' (eLstC (aCons (eVar 3) aNil)) [3] ρ μ = .ok (.lst (cs.map .cell)) (μ ++ ν) := fun ρ hρ => by
    subst hρ
    have wp : wipeE [some a, none, none, none, none] [3] = [some a, none, none, none, none] := rfl
    have hk : iKeysD (eGatK (iSeq (eVar 0)) (gN 3) tYes' (eVar 3) (eC (.bl true)) [3]) [some a, none, none, none, none] μ = .ok (.fix ((ddp ds).map ptD)) μ := by
      unfold iKeysD
      rw [g]
      rfl
    rw [eLc_ap, wp, hk, lc1_fix (by rw [List.length_map]; omega), e, mk_ok]
  have hit := hit _ rfl
  obtain ⟨cs', L', ν', y2, y3, y4, f1, f2, f3, f4, f5⟩ := rounds_ok (a := some a) (U := ddp ds) ddp_nd hU hUb (by omega) μ.length 4096 ((ddp ds).map fun d => [d]) cs none none none (μ ++ ν) (by rw [List.length_map]; omega) (by rw [List.length_map]; omega) r1 (lowS_app lw r2) r3 (by rw [List.length_append]; omega) ok_one
  generalize eLc (iKeysD (eGatK (iSeq (eVar 0)) (gN 3) tYes' (eVar 3) (eC (.bl true)) [3])) (gN 3) tYes' (eLstC (aCons (eVar 3) aNil)) [3] = E at hit ⊢
  have hwh : sWhile (fun _ _ => 4096) wC wB [some a, some (.lst (cs.map .cell)), none, none, none] (μ ++ ν) = .nx [some a, some (.lst (cs'.map .cell)), y2, y3, y4] (μ ++ ν ++ ν') := f1
  generalize sWhile (fun _ _ => 4096) wC wB = WH at hwh ⊢
  show SR.fin .cl μ.length (SR.seq (R.asg (E [some a, none, none, none, none] μ) (gN 1) [some a, none, none, none, none]) _) = _
  rw [hit]
  show SR.fin .cl μ.length (SR.seq (WH [some a, some (.lst (cs.map .cell)), none, none, none] (μ ++ ν)) _) = _
  rw [hwh]
  have hfin : ∀ (i : Nat) (μ' : Sto), μ.length ≤ i → μ'.take μ.length = μ → μ'[i]? = some (.lst ((rounded ds).map ptD)) → finC μ.length (.cell i) μ' = .ok (.cell μ.length) (μ ++ [.lst ((rounded ds).map ptD)]) := fun i μ' h1 h2 h3 => by
    unfold finC
    rw [h2, if_pos (lowS_all lw _)]
    have n1 : ¬ i < μ.length := by omega
    simp only [n1, if_false, h3, low_pts, if_true]
  have htk : ∀ ξ : Sto, (μ ++ ν ++ ν' ++ ξ).take μ.length = μ := fun ξ => by rw [List.append_assoc, List.append_assoc, List.take_append_of_le_length (Nat.le_refl _), List.take_length]
  match L', cs', f2, f3, f4, f5 with
  | [], [], _, _, _, f5 =>
    have hz : rounded ds = [] := by
      have h1 : ddp ds = [] := by
        have := f5.p.symm.eq_nil
        exact this
      have := (rounded_perm hp)
      rw [h1] at this
      exact this.eq_nil
    have hr : eIf (tB' (eBin vNe (eVar 1) (eLst aNil))) (eBin vIx (eVar 1) (eC (.int 0))) (eLstC aNil) [some a, some (.lst []), y2, y3, y4] (μ ++ ν ++ ν') = .ok (.cell (μ ++ ν ++ ν').length) (μ ++ ν ++ ν' ++ [.lst []]) := by
      simp [ne_none]
    show SR.fin .cl μ.length (SR.seq (.nx [some a, some (.lst []), y2, y3, y4] (μ ++ ν ++ ν')) _) = _
    rw [seq_nx, sRet_ap, hr, ret_ok]
    show finC μ.length (.cell (μ ++ ν ++ ν').length) (μ ++ ν ++ ν' ++ [.lst []]) = _
    refine hfin _ _ (by rw [List.length_append, List.length_append]; omega) (htk _) ?_
    rw [hz]
    exact at_new
  | [l], [c], f2, f3, _, f5 =>
    have hl : l = rounded ds := by
      refine srt_uniq ?_ (f5.s l (by simp)) (rounded_srt hp)
      have := f5.p
      rw [List.flatten_cons, List.flatten_nil, List.append_nil] at this
      exact this.trans (rounded_perm hp).symm
    have hc := f2.1
    have hr : eIf (tB' (eBin vNe (eVar 1) (eLst aNil))) (eBin vIx (eVar 1) (eC (.int 0))) (eLstC aNil) [some a, some (.lst [.cell c]), y2, y3, y4] (μ ++ ν ++ ν') = .ok (.cell c) (μ ++ ν ++ ν') := by
      have hn := ne_row (μ := μ ++ ν ++ ν') hc
      simp only [eIf_ap, tB_ap, eBin_ap, eVar_ap, List.getElem?_cons_succ, List.getElem?_cons_zero, bin1_ok, eLst_ap, aNil_ap, mk_ok, mkL0, bin2_ok, hn, of_some, tb_ok, eif_t, eC_ap, lst0]
    show SR.fin .cl μ.length (SR.seq (.nx [some a, some (.lst [.cell c]), y2, y3, y4] (μ ++ ν ++ ν')) _) = _
    rw [seq_nx, sRet_ap, hr, ret_ok]
    show finC μ.length (.cell c) (μ ++ ν ++ ν') = _
    have := htk []
    rw [List.append_nil] at this
    exact hfin _ _ (f3 c (by simp)) this (by rw [hc, hl])
  | [], _ :: _, f2, _, _, _ => exact f2.elim
  | _ :: _, [], f2, _, _, _ => exact f2.elim
  | [_], _ :: _ :: _, f2, _, _, _ => exact f2.2.elim
  | _ :: _ :: _, _, _, _, f4, _ => exact absurd f4 (by simp)
/-! the law's -/
theorem lround_ok {ds : List Pt} (lw : lowS μ) (hl : ds.length ≤ 40) (hb : ∀ d ∈ ds, bp d) : f__law_round [.lst (ds.map ptD)] μ = .ok (.lst ((rounded ds).map ptD)) μ := by
  unfold f__law_round
  rw [runF1]
  unfold b__law_round
  generalize hf : (sIf (tB' (eBin vNotIn (eVar 2) (eVar 1))) (sExpr (eBm "list" mInsert (eVar 1) (aCons (eFn vLen (aCons (eLc (iSeq (eVar 1)) (gN 3) (tB' (eCall f__law_ahead (aCons (eVar 3) (aCons (eVar 2) aNil)))) (eVar 3) [3]) aNil)) (aCons (eVar 2) aNil)))) sNop) = f
  have turn : ∀ (fs : List Pt) (d : Pt) (x : Option DV), (∀ y ∈ fs, bp y) → fs.length ≤ 50 → f [x, some (.cell μ.length), some (ptD d), none] (μ ++ [.lst (fs.map ptD)]) = .nx [x, some (.cell μ.length), some (ptD d), none] (μ ++ [.lst ((ins fs d).map ptD)]) := fun fs d x hfb hfl => by
    have hni := vNotIn_pt (p := d) (at_new (μ := μ) (c := .lst (fs.map ptD)))
    rw [← hf]
    unfold ins
    by_cases hm : d ∈ fs
    · rw [if_pos hm]
      simp [hni, hm]
    · rw [if_neg hm]
      have hcell := at_new (μ := μ) (c := .lst (fs.map ptD))
      have hlc : eLc (iSeq (eVar 1)) (gN 3) (tB' (eCall f__law_ahead (aCons (eVar 3) (aCons (eVar 2) aNil)))) (eVar 3) [3] [x, some (.cell μ.length), some (ptD d), none] (μ ++ [.lst (fs.map ptD)]) = .ok (.lst ((fs.filter fun e => ahd e d).map ptD)) (μ ++ [.lst (fs.map ptD)]) := by
        have wp : wipeE [x, some (.cell μ.length), some (ptD d), none] [3] = [x, some (.cell μ.length), some (ptD d), none] := rfl
        have hwk : wkOf (.cell μ.length) (μ ++ [.lst (fs.map ptD)]) = some (.cell μ.length) := by
          show (match (μ ++ [CO.lst (fs.map ptD)])[μ.length]? with
            | some (.lst _) => some (Wk.cell μ.length)
            | _ => none) = _
          rw [hcell]
        have hll := loopL_cell (t := gN 3) (tt := tB' (eCall f__law_ahead (aCons (eVar 3) (aCons (eVar 2) aNil)))) (te := eVar 3) (ρ := [x, some (.cell μ.length), some (ptD d), none]) hcell ptD ptD (fun e => ahd e d) fs ((fs.map ptD).length + 1) 0 rfl rfl (Nat.zero_le _) (fun y hy => ⟨_, rfl, by simp [lahead_ok (hfb y hy)], fun _ => by simp⟩)
        have hw2 : wkLen (.cell μ.length) (μ ++ [.lst (fs.map ptD)]) = (fs.map ptD).length := by simp only [wkLen, hcell]
        rw [eLc_ap, wp]
        simp only [iSeq_ap, eVar_ap, List.getElem?_cons_succ, List.getElem?_cons_zero, seqi_ok, hwk, of_some]
        show R.mk _ (if okLen (wkLen (.cell μ.length) (μ ++ [.lst (fs.map ptD)]) + 1) = true then loopL (.cell μ.length) (gN 3) (tB' (eCall f__law_ahead (aCons (eVar 3) (aCons (eVar 2) aNil)))) (eVar 3) [x, some (.cell μ.length), some (ptD d), none] (wkLen (.cell μ.length) (μ ++ [.lst (fs.map ptD)]) + 1) 0 (μ ++ [.lst (fs.map ptD)]) else .stuck) = _
        rw [hw2, if_pos (okLen_small (by rw [List.length_map]; omega)), hll, mk_ok]
      have hlen : ∀ μ, vLen [.lst ((fs.filter fun e => ahd e d).map ptD)] μ = some (.int ((fs.filter fun e => ahd e d).length : Nat)) := fun μ => by rw [vLen_l, List.length_map]
      have hn : (fs.filter fun e => ahd e d).length ≤ 50 := Nat.le_trans (List.length_filter_le _ _) hfl
      generalize (fs.filter fun e => ahd e d).length = n at hlen hn ⊢
      have hin : mInsert (.cell μ.length) [.int (n : Int), ptD d] (μ ++ [.lst (fs.map ptD)]) = some (.non, μ ++ [.lst ((fs.take n ++ d :: fs.drop n).map ptD)]) := by
        show (match (μ ++ [CO.lst (fs.map ptD)])[μ.length]? with
          | some (.lst xs) => if (okLen (xs.length + 1) && (decide (0 ≤ (n : Int)) && decide ((n : Int) < 2 ^ 63))) = true then some (DV.non, (μ ++ [CO.lst (fs.map ptD)]).set μ.length (.lst (xs.take (n : Int).toNat ++ [ptD d] ++ xs.drop (n : Int).toNat))) else none
          | _ => none) = _
        rw [at_new]
        show (if (okLen ((fs.map ptD).length + 1) && (decide (0 ≤ (n : Int)) && decide ((n : Int) < 2 ^ 63))) = true then some (DV.non, (μ ++ [CO.lst (fs.map ptD)]).set μ.length (.lst ((fs.map ptD).take (n : Int).toNat ++ [ptD d] ++ (fs.map ptD).drop (n : Int).toNat))) else none) = _
        rw [if_pos (by
          rw [okLen_small (by rw [List.length_map]; omega), Bool.true_and, Bool.and_eq_true, decide_eq_true_eq, decide_eq_true_eq]
          omega), List.set_append_right _ _ (Nat.le_refl _), Nat.sub_self, Int.toNat_natCast, List.map_append, List.map_cons, List.map_take, List.map_drop, List.append_assoc]
        rfl
      have hr : recv "list" (.cell μ.length) (μ ++ [.lst (fs.map ptD)]) = true := recv_cell hcell
      generalize eLc (iSeq (eVar 1)) (gN 3) (tB' (eCall f__law_ahead (aCons (eVar 3) (aCons (eVar 2) aNil)))) (eVar 3) [3] = E at hlc ⊢
      simp only [sIf_ap, tB_ap, eBin_ap, eVar_ap, List.getElem?_cons_succ, List.getElem?_cons_zero, bin1_ok, bin2_ok, hni, decide_eq_false hm, Bool.not_false, of_some, tb_ok, sif_t, sExpr_ap, eBm_ap, bm1_ok, hr, if_true, aCons_ap, eFn_ap, hlc, ac1_ok, aNil_ap, ac2_ok, mk_ok, hlen, bm2_ok, hin, ofS_some, xpr_ok]
  have hloop : ∀ (l fs : List Pt) (x : Option DV) (x2 : Option DV), (∀ y ∈ fs, bp y) → (∀ y ∈ l, bp y) → fs.length + l.length ≤ 50 → ∃ y2, loopD (gN 2) f (l.map ptD) [x, some (.cell μ.length), x2, none] (μ ++ [.lst (fs.map ptD)]) = .nx [x, some (.cell μ.length), y2, none] (μ ++ [.lst ((l.foldl ins fs).map ptD)]) := fun l => by
    induction l with
    | nil => intro fs x x2 _ _ _; exact ⟨x2, rfl⟩
    | cons d l ih =>
      intro fs x x2 h1 h2 h3
      rw [List.length_cons] at h3
      have hi : (ins fs d).length ≤ fs.length + 1 := by
        unfold ins
        split
        · omega
        · rw [List.length_append, List.length_cons, List.length_take, List.length_drop]; omega
      obtain ⟨y2, e⟩ := ih (ins fs d) x (some (ptD d)) (fun y hy => by
        rcases mem_ins.mp hy with c | c
        · exact h1 y c
        · rw [c]; exact h2 d List.mem_cons_self) (fun y hy => h2 y (List.mem_cons_of_mem _ hy)) (by omega)
      refine ⟨y2, ?_⟩
      rw [List.map_cons]
      conv => lhs; unfold loopD
      show (match f [x, some (.cell μ.length), some (ptD d), none] (μ ++ [.lst (fs.map ptD)]) with
        | .nx ρ' μ' => loopD (gN 2) f (l.map ptD) ρ' μ'
        | .ct ρ' μ' => loopD (gN 2) f (l.map ptD) ρ' μ'
        | .bk ρ' μ' => .nx ρ' μ'
        | r => r) = _
      rw [turn fs d x h1 (by omega)]
      exact e
  obtain ⟨y2, e⟩ := hloop ds [] (some (.lst (ds.map ptD))) none (fun y hy => by cases hy) hb (by simp; omega)
  have e : loopD (gN 2) f (ds.map ptD) [some (.lst (ds.map ptD)), some (.cell μ.length), none, none] (μ ++ [.lst []]) = _ := e
  simp only [sSeq_ap, sAsg_ap, eLstC_ap, aNil_ap, mk_ok, mkC0]
  show SR.fin .fz μ.length (SR.seq (sFor (iSeq (eVar 0)) (gN 2) f [some (.lst (ds.map ptD)), some (.cell μ.length), none, none] (μ ++ [.lst []])) (sRet (eVar 1))) = _
  rw [sFor_ap]
  simp only [iSeq_ap, eVar_ap, List.getElem?_cons_zero, seqi_ok, wk_lst, of_some, for1_fix, e, seq_nx, sRet_ap, List.getElem?_cons_succ, ret_ok]
  show finF μ.length (.cell μ.length) (μ ++ [.lst ((ds.foldl ins []).map ptD)]) = _
  unfold finF
  have e1 : (μ ++ [CO.lst ((ds.foldl ins []).map ptD)]).take μ.length = μ := by simp
  have n0 : ¬ (μ ++ [CO.lst ((ds.foldl ins []).map ptD)]).length = μ.length := by simp
  rw [if_neg n0, e1, if_pos (lowS_all lw _)]
  simp only [Nat.lt_irrefl, if_false, at_new, low_pts, if_true]
  rfl
end
end Lw

set_option Elab.async false
set_option linter.all false
set_option maxRecDepth 100000
set_option maxHeartbeats 4000000
/-! k02: what is drawn. -/
namespace Lw
open PySem PySem.Spec PyProof.Rows L2 SD
theorem isD_iff {p : Pt} : isD p = true ↔ (-999 ≤ p.1 ∧ p.1 ≤ 999) ∧ (-999 ≤ p.2 ∧ p.2 ≤ 999) ∧ Int.gcd p.1 p.2 = 1 := by
  unfold isD in9
  simp only [Bool.and_eq_true, decide_eq_true_eq]
  constructor
  · rintro ⟨⟨a, b⟩, c⟩; exact ⟨a, b, c⟩
  · rintro ⟨a, b, c⟩; exact ⟨⟨a, b⟩, c⟩
theorem isD_prm {p : Pt} (h : isD p = true) : Prm p := (isD_iff.mp h).2.2
theorem isD_bp {p : Pt} (h : isD p = true) : bp p := by
  obtain ⟨a, b, _⟩ := isD_iff.mp h
  unfold bp
  omega
theorem isD_neg {p : Pt} (h : isD p = true) : isD (0 - p.1, 0 - p.2) = true := by
  obtain ⟨a, b, c⟩ := isD_iff.mp h
  refine isD_iff.mpr ⟨by simp only; omega, by simp only; omega, ?_⟩
  simp only [Int.zero_sub, Int.neg_gcd, Int.gcd_neg]
  exact c
theorem isD_div {x y : Int} (hx : x.natAbs ≤ 999) (hy : y.natAbs ≤ 999) (h : 0 < (Int.gcd x y : Int)) : isD (x / (Int.gcd x y : Int), y / (Int.gcd x y : Int)) = true := by
  have h1 := div_le (x := x) h
  have h2 := div_le (x := y) h
  refine isD_iff.mpr ⟨by simp only; omega, by simp only; omega, ?_⟩
  exact Int.gcd_ediv_gcd_ediv_gcd (by omega)
def nearL : List Pt := [(1, 0), (0, 1), (-1, 0), (0, -1), (1, 1), (-1, 1), (-1, -1), (1, -1), (2, 1), (-1, 3)]
theorem nearL_ok : ∀ d ∈ nearL, isD d = true := by decide
section
variable {μ : Sto}
theorem dir_ok (b : Bx) : ∃ d b', f__law_dir [.cell 0] (enc b :: μ) = .ok (ptD d) (enc b' :: μ) ∧ isD d = true := by
  obtain ⟨n, b1, e1, n0, n4⟩ := take_ok (μ := μ) (b := b) 4 (by decide) (by decide)
  unfold f__law_dir
  rw [runF1]
  unfold b__law_dir
  by_cases h2 : n < 2
  · obtain ⟨d, b2, e2, hd⟩ := pick_ok (μ := μ) (b := b1) (nearL.map ptD) (by decide) (by decide)
    obtain ⟨p, hp, rfl⟩ := List.mem_map.mp hd
    have e2' : f__law_pick [.cell 0, .lst [.tup [.int 1, .int 0], .tup [.int 0, .int 1], .tup [.int (-1), .int 0], .tup [.int 0, .int (-1)], .tup [.int 1, .int 1], .tup [.int (-1), .int 1], .tup [.int (-1), .int (-1)], .tup [.int 1, .int (-1)], .tup [.int 2, .int 1], .tup [.int (-1), .int 3]]] (enc b1 :: μ) = .ok (ptD p) (enc b2 :: μ) := e2
    exact ⟨p, b2, by simp [mkL_small, e1, h2, e2'], nearL_ok p hp⟩
  · have key : ∀ sz : Int, 0 < sz → sz ≤ 999 → ∃ u v b3 b4, f__law_take [.cell 0, .int (2 * sz + 1)] (enc b1 :: μ) = .ok (.int u) (enc b3 :: μ) ∧ f__law_take [.cell 0, .int (2 * sz + 1)] (enc b3 :: μ) = .ok (.int v) (enc b4 :: μ) ∧ (u - sz).natAbs ≤ 999 ∧ (v - sz).natAbs ≤ 999 := fun sz h0 h9 => by
      obtain ⟨u, b3, e3, u0, u1⟩ := take_ok (μ := μ) (b := b1) (2 * sz + 1) (by omega) (by omega)
      obtain ⟨v, b4, e4, v0, v1⟩ := take_ok (μ := μ) (b := b3) (2 * sz + 1) (by omega) (by omega)
      exact ⟨u, v, b3, b4, e3, e4, by omega, by omega⟩
    have one : isD (0, 1) = true := by decide
    by_cases h3 : n = 2
    · obtain ⟨u, v, b3, b4, e3, e4, hu, hv⟩ := key 9 (by decide) (by decide)
      have e3 : f__law_take [.cell 0, .int 19] (enc b1 :: μ) = .ok (.int u) (enc b3 :: μ) := e3
      have e4 : f__law_take [.cell 0, .int 19] (enc b3 :: μ) = .ok (.int v) (enc b4 :: μ) := e4
      have hg := gcd2 (μ := enc b4 :: μ) (a := u - 9) (b := v - 9) (by omega)
      have hl := gcd_lt (u := u - 9) (v := v - 9) (by omega) (by omega)
      have fn := isD_div (x := u - 9) (y := v - 9) hu hv
      generalize (Int.gcd (u - 9) (v - 9) : Int) = g at hg hl fn
      by_cases hz : 0 < g
      · obtain ⟨vD, hvD⟩ : ∃ f : V2, f = vDiv := ⟨_, rfl⟩
        have hd : ∀ (u : Int) (μ : Sto), vD (.int u) (.int g) μ = some (.int (u / g)) := fun u μ => by rw [hvD]; exact vDiv_i hz hl
        rw [← hvD]
        exact ⟨((u - 9) / g, (v - 9) / g), b4, by simp [mkL_small, e1, h2, h3, vMul_l, e3, e4, hg, hz, hd]; rfl, fn hz⟩
      · exact ⟨(0, 1), b4, by simp [mkL_small, e1, h2, h3, vMul_l, e3, e4, hg, hz]; rfl, one⟩
    · obtain ⟨u, v, b3, b4, e3, e4, hu, hv⟩ := key 999 (by decide) (by decide)
      have e3 : f__law_take [.cell 0, .int 1999] (enc b1 :: μ) = .ok (.int u) (enc b3 :: μ) := e3
      have e4 : f__law_take [.cell 0, .int 1999] (enc b3 :: μ) = .ok (.int v) (enc b4 :: μ) := e4
      have hg := gcd2 (μ := enc b4 :: μ) (a := u - 999) (b := v - 999) (by omega)
      have hl := gcd_lt (u := u - 999) (v := v - 999) (by omega) (by omega)
      have fn := isD_div (x := u - 999) (y := v - 999) hu hv
      generalize (Int.gcd (u - 999) (v - 999) : Int) = g at hg hl fn
      by_cases hz : 0 < g
      · obtain ⟨vD, hvD⟩ : ∃ f : V2, f = vDiv := ⟨_, rfl⟩
        have hd : ∀ (u : Int) (μ : Sto), vD (.int u) (.int g) μ = some (.int (u / g)) := fun u μ => by rw [hvD]; exact vDiv_i hz hl
        rw [← hvD]
        exact ⟨((u - 999) / g, (v - 999) / g), b4, by simp [mkL_small, e1, h2, h3, vMul_l, e3, e4, hg, hz, hd]; rfl, fn hz⟩
      · exact ⟨(0, 1), b4, by simp [mkL_small, e1, h2, h3, vMul_l, e3, e4, hg, hz]; rfl, one⟩
def s30 (p : Pt) : Prop := p.1.natAbs < 1073741824 ∧ p.2.natAbs < 1073741824
theorem s30_bp {p : Pt} (h : s30 p) : bp p := by unfold s30 at h; unfold bp; omega
theorem mul_le {x y : Int} (hx : x.natAbs ≤ 1000) (hy : y.natAbs ≤ 100000) : (x * y).natAbs < 1073741824 := by
  rw [Int.natAbs_mul]
  have := Nat.mul_le_mul hx hy
  omega
theorem pair_ok (b : Bx) : ∃ p b', f__law_pair [.cell 0] (enc b :: μ) = .ok (ptD p) (enc b' :: μ) ∧ s30 p := by
  obtain ⟨d, b1, e1, hd⟩ := dir_ok (μ := μ) b
  obtain ⟨n, b2, e2, n0, n1⟩ := take_ok (μ := μ) (b := b1) 100000 (by decide) (by decide)
  obtain ⟨y, b3, e3, hy⟩ := pick_ok (μ := μ) (b := b2) [.int 1, .int 2, .int 3, .int 12, .int (1 + n), .int 0] (by show 0 < 6; decide) (by show 6 < _; decide)
  obtain ⟨g, b4, e4, g0, g1⟩ := take_ok (μ := μ) (b := b3) 1000000000 (by decide) (by decide)
  obtain ⟨h, b5, e5, h0, h1⟩ := take_ok (μ := μ) (b := b4) 1000000000 (by decide) (by decide)
  obtain ⟨by_, rfl, hby⟩ : ∃ k, y = .int k ∧ k.natAbs ≤ 100000 := by
    simp only [List.mem_cons, List.not_mem_nil, or_false] at hy
    rcases hy with h | h | h | h | h | h <;> exact ⟨_, h, by omega⟩
  obtain ⟨a1, a2, _⟩ := isD_iff.mp hd
  have l : ∀ k : Int, k.natAbs ≤ 1000 → ∀ μ, vMul (.int k) (.int by_) μ = some (.int (k * by_)) := fun k hk μ => vMul_l (by omega)
  have m1 := fun μ => l d.1 (by omega) μ
  have m2 := fun μ => l d.2 (by omega) μ
  have m3 := fun μ => l 999 (by decide) μ
  have m4 := fun μ => l 1000 (by decide) μ
  obtain ⟨z, b6, e6, hz⟩ := pick_ok (μ := μ) (b := b5) [.tup [.int (d.1 * by_), .int (d.2 * by_)], .tup [.int (d.1 * by_), .int (d.2 * by_)], .tup [.int (g - 100000000), .int (999999999 - h)], .tup [.int 0, .int 0], .tup [.int 0, .int (0 - by_)], .tup [.int (999 * by_), .int by_], .tup [.int (1000 * by_), .int by_]] (by show 0 < 7; decide) (by show 7 < _; decide)
  obtain ⟨p, rfl, hp⟩ : ∃ p : Pt, z = ptD p ∧ s30 p := by
    simp only [List.mem_cons, List.not_mem_nil, or_false] at hz
    have q := fun (x : Int) (hx : x.natAbs ≤ 1000) => mul_le hx hby
    rcases hz with hh | hh | hh | hh | hh | hh | hh
    · exact ⟨(d.1 * by_, d.2 * by_), hh, q _ (by omega), q _ (by omega)⟩
    · exact ⟨(d.1 * by_, d.2 * by_), hh, q _ (by omega), q _ (by omega)⟩
    · exact ⟨(g - 100000000, 999999999 - h), hh, by simp only; omega, by simp only; omega⟩
    · exact ⟨(0, 0), hh, by decide, by decide⟩
    · exact ⟨(0, 0 - by_), hh, by simp only; omega, by simp only; omega⟩
    · exact ⟨(999 * by_, by_), hh, q _ (by decide), by simp only; omega⟩
    · exact ⟨(1000 * by_, by_), hh, q _ (by decide), by simp only; omega⟩
  refine ⟨p, b6, ?_, hp⟩
  have p5 : ∀ μ, vPow (.int 10) (.int 5) μ = some (.int 100000) := fun μ => vPow_i (a := 10) (n := 5) (by decide) (by decide)
  have p8 : ∀ μ, vPow (.int 10) (.int 8) μ = some (.int 100000000) := fun μ => vPow_i (a := 10) (n := 8) (by decide) (by decide)
  have p9 : ∀ μ, vPow (.int 10) (.int 9) μ = some (.int 1000000000) := fun μ => vPow_i (a := 10) (n := 9) (by decide) (by decide)
  unfold f__law_pair
  rw [runF1]
  unfold b__law_pair
  have k6 : ∀ (a b c d e f : DV) μ, mkL [a, b, c, d, e, f] μ = .ok (.lst [a, b, c, d, e, f]) μ := fun _ _ _ _ _ _ _ => mkL_small (by show 6 ≤ _; decide)
  have k7 : ∀ (a b c d e f g : DV) μ, mkL [a, b, c, d, e, f, g] μ = .ok (.lst [a, b, c, d, e, f, g]) μ := fun _ _ _ _ _ _ _ _ => mkL_small (by show 7 ≤ _; decide)
  generalize hvp : vPow = vP at p5 p8 p9 ⊢
  simp [-Int.zero_sub, e1, p5, p8, p9, e2, k6, e3, e4, e5, m1, m2, m3, m4, k7, e6]
def oddL : List DV := [.non, .bl true, .bl false, .int 0, .int (-1), .int 5, .str "", .str "A", .str "ab1", .str "abcdefg", .str "a b", .str "a\n", .tup [], .lst [], .dct [] [], .tup [.str "a"], .lst [.str "a"], .dct [.inr ("a" : Str)] [.int 1], .tup [.int 1, .int 2], .lst [.int 0], .tup [.non], .tup [.tup [.int 0, .int 0], .tup [.int 1, .int 0]]]
theorem oddL_val : ∀ d ∈ oddL, Val d := by
  intro d hd
  unfold oddL at hd
  simp only [List.mem_cons, List.not_mem_nil, or_false] at hd
  rcases hd with h | h | h | h | h | h | h | h | h | h | h | h | h | h | h | h | h | h | h | h | h | h <;> subst h
  · exact Val.leaf rfl
  · exact Val.leaf rfl
  · exact Val.leaf rfl
  · exact Val.leaf rfl
  · exact Val.leaf rfl
  · exact Val.leaf rfl
  · exact Val.str (by decide +kernel)
  · exact Val.str (by decide +kernel)
  · exact Val.str (by decide +kernel)
  · exact Val.str (by decide +kernel)
  · exact Val.str (by decide +kernel)
  · exact Val.str (by decide +kernel)
  · exact Val.tup rfl (by decide)
  · exact Val.lst rfl (by decide)
  · exact Val.d0
  · exact Val.tup (by decide +kernel) (by show 1 ≤ _; decide)
  · exact Val.lst (by decide +kernel) (by show 1 ≤ _; decide)
  · exact Val.d1
  · exact Val.pt (p := (1, 2))
  · exact Val.lst rfl (by show 1 ≤ _; decide)
  · exact Val.tup rfl (by show 1 ≤ _; decide)
  · exact Val.two (p := (0, 0)) (q := (1, 0))
theorem odd_ok (b : Bx) : ∃ d b', f__law_odd [.cell 0] (enc b :: μ) = .ok d (enc b' :: μ) ∧ Val d := by
  obtain ⟨d, b1, e1, hd⟩ := pick_ok (μ := μ) (b := b) oddL (by show 0 < 22; decide) (by show 22 < _; decide)
  refine ⟨d, b1, ?_, oddL_val d hd⟩
  have e1' : f__law_pick [.cell 0, .lst [.non, .bl true, .bl false, .int 0, .int (-1), .int 5, .str "", .str "A", .str "ab1", .str "abcdefg", .str "a b", .str "a\n", .tup [], .lst [], .dct [] [], .tup [.str "a"], .lst [.str "a"], .dct [.inr ("a" : Str)] [.int 1], .tup [.int 1, .int 2], .lst [.int 0], .tup [.non], .tup [.tup [.int 0, .int 0], .tup [.int 1, .int 0]]]] (enc b :: μ) = .ok d (enc b1 :: μ) := e1
  unfold f__law_odd
  rw [runF1]
  unfold b__law_odd
  have hd0 : ∀ (ρ : En) (μ : Sto), eDct0 ρ μ = .ok (.dct [] []) μ := fun _ _ => rfl
  have hd1 : ∀ (ρ : En) (μ : Sto), eDct [((eC (.str "a")), (eC (.int 1)))] ρ μ = .ok (.dct [.inr ("a" : Str)] [.int 1]) μ := fun ρ μ => by
    show (match asKeys [((DV.str "a"), (DV.int 1))] with
      | some ks => if (decide (1 ≤ 15) && nodupB ks) = true then (R.ok (DV.dct ks [DV.int 1]) μ : R DV) else R.stuck
      | none => R.stuck) = _
    rfl
  have k22 : ∀ (a1 a2 a3 a4 a5 a6 a7 a8 a9 b1 b2 b3 b4 b5 b6 b7 b8 b9 c1 c2 c3 c4 : DV) μ, mkL [a1, a2, a3, a4, a5, a6, a7, a8, a9, b1, b2, b3, b4, b5, b6, b7, b8, b9, c1, c2, c3, c4] μ = .ok (.lst [a1, a2, a3, a4, a5, a6, a7, a8, a9, b1, b2, b3, b4, b5, b6, b7, b8, b9, c1, c2, c3, c4]) μ := by
    intros
    exact mkL_small (by show 22 ≤ _; decide)
  simp [hd0, hd1, k22, e1']
def xL : List DV := [.non, .int 7, .str "ab", .tup [.int 1], .tup [.int 1, .int 2, .int 3], .tup [.bl true, .int 2], .tup [.str "1", .int 2], .lst [], .tup [.int 2, .non], .lst [.int 2, .int 4], .lst [.int 1, .int 0]]
theorem xL_val : ∀ d ∈ xL, Val d ∧ sml d := by
  intro d hd
  unfold xL at hd
  simp only [List.mem_cons, List.not_mem_nil, or_false] at hd
  rcases hd with h | h | h | h | h | h | h | h | h | h | h <;> subst h
  · exact ⟨Val.leaf rfl, fun a b e => by cases e⟩
  · exact ⟨Val.leaf rfl, fun a b e => by cases e⟩
  · exact ⟨Val.str (by decide +kernel), fun a b e => by cases e⟩
  · exact ⟨Val.tup rfl (by show 1 ≤ _; decide), fun a b e => by cases e⟩
  · exact ⟨Val.tup rfl (by show 3 ≤ _; decide), fun a b e => by cases e⟩
  · exact ⟨Val.tup rfl (by show 2 ≤ _; decide), fun a b e => by cases e⟩
  · exact ⟨Val.tup (by decide +kernel) (by show 2 ≤ _; decide), fun a b e => by cases e⟩
  · exact ⟨Val.lst rfl (by decide), fun a b e => by cases e⟩
  · exact ⟨Val.tup rfl (by show 2 ≤ _; decide), fun a b e => by cases e⟩
  · exact ⟨Val.lst rfl (by show 2 ≤ _; decide), fun a b e => by cases e⟩
  · exact ⟨Val.lst rfl (by show 2 ≤ _; decide), fun a b e => by cases e⟩
theorem rep5 {d : DV} : vMul (.lst [d]) (.int 5) μ = some (.lst [d, d, d, d, d]) := rfl
theorem rep2 {d : DV} : vMul (.lst [d]) (.int 2) μ = some (.lst [d, d]) := rfl
end
end Lw

set_option Elab.async false
set_option linter.all false
set_option maxRecDepth 100000
set_option maxHeartbeats 4000000
/-! k02: the law's pieces; a turn. -/
namespace Lw
open PySem PySem.Spec PyProof.Rows L2 SD
def A1 : DS := (sAsg (eCall f__law_box (aCons (eVar 0) (aCons (eC (.int 120320203)) aNil))) (gN 1))
def A2 : DS := (sAsg (eLc (iRng1' (aCons (eCall f__law_take (aCons (eVar 1) (aCons (eC (.int 9)) aNil))) aNil)) (gN 13) tYes' (eCall f__law_dir (aCons (eVar 1) aNil)) [13]) (gN 2))
def A3 : DS := (sAsg (eBin vAdd (eVar 2) (eLc (iRng1' (aCons (eCall f__law_take (aCons (eVar 1) (aCons (eC (.int 3)) aNil))) aNil)) (gN 13) (tB' (eBin vNe (eVar 2) (eLst aNil))) (eCall f__law_pick (aCons (eVar 1) (aCons (eVar 2) aNil))) [13])) (gN 2))
def A4 : DS := (sAsg (eBin vAdd (eVar 2) (eLc (iSeq (eSl vSlc (eVar 2) oNone (oSome (eCall f__law_take (aCons (eVar 1) (aCons (eC (.int 4)) aNil)))))) (gN 7) tYes' (eTup (aCons (eBin vSub (eC (.int 0)) (eBin vIx (eVar 7) (eC (.int 0)))) (aCons (eBin vSub (eC (.int 0)) (eBin vIx (eVar 7) (eC (.int 1)))) aNil))) [7])) (gN 2))
def A5 : DS := (sAsg (eTup (aCons (eFn vList (aCons (eVar 2) aNil)) (aCons (eCall f__law_round (aCons (eVar 2) aNil)) aNil))) (gTup' (gCons' (gN 3) (gCons' (gN 4) gNil')) 2))
def A6 : DS := (sAsg (eCall f_in_round (aCons (eVar 3) aNil)) (gN 5))
def A7 : DS := (sIf (tNot' (tB' (eCall (f__law_same 6) (aCons (eLst (aCons (eVar 5) (aCons (eCallK f_in_round [0] 0 1 aNil (aCons (eFn vTuple (aCons (eVar 2) aNil)) aNil)) (aCons (eVar 3) aNil)))) (aCons (eLst (aCons (eVar 4) (aCons (eVar 4) (aCons (eVar 2) aNil)))) aNil))))) (sRet (eC (.bl false))) sNop)
def A8 : DS := (sExpr (eBm "list" mAppend (eVar 5) (aCons (eTup (aCons (eC (.int 1)) (aCons (eC (.int 0)) aNil))) aNil)))
def A9 : DS := (sIf (tNot' (tB' (eCall (f__law_same 6) (aCons (eCall f_in_round (aCons (eVar 3) aNil)) (aCons (eVar 4) aNil))))) (sRet (eC (.bl false))) sNop)
def A10_1 : DS := (sAsg (eCall f__law_pick (aCons (eVar 1) (aCons (eBin vAdd (eVar 2) (eLst (aCons (eCall f__law_dir (aCons (eVar 1) aNil)) (aCons (eCall f__law_dir (aCons (eVar 1) aNil)) (aCons (eTup (aCons (eC (.int 1)) (aCons (eC (.int 0)) aNil))) (aCons (eTup (aCons (eUn vNeg (eC (.int 1))) (aCons (eC (.int 0)) aNil))) aNil)))))) aNil))) (gN 7))
def A10_2 : DS := (sAsg (eCall f__law_pick (aCons (eVar 1) (aCons (eBin vAdd (eBin vMul (eLst (aCons (eVar 7) aNil)) (eC (.int 5))) (eLst (aCons (eCall f__law_odd (aCons (eVar 1) aNil)) (aCons (eTup (aCons (eC (.int 2)) (aCons (eC (.int 4)) aNil))) (aCons (eTup (aCons (eC (.int 0)) (aCons (eC (.int 0)) aNil))) (aCons (eTup (aCons (eC (.int 1000)) (aCons (eC (.int 1)) aNil))) (aCons (eTup (aCons (eC (.bl true)) (aCons (eC (.int 1)) aNil))) aNil))))))) aNil))) (gN 7))
def A10_3 : DS := (sAsg (eTup (aCons (eC (.str "no")) (aCons (eC (.str "InvalidDirection")) (aCons (eVar 7) aNil)))) (gN 8))
def A10_4 : DS := (sIf (tAnd' (tB' (eBin vNe (eVar 4) (eLst aNil))) (tB' (eCall f__law_is_dir (aCons (eVar 7) aNil)))) (sAsg (eTup (aCons (eC (.str "told")) (aCons (eIf (tB' (eBin vIn (eVar 7) (eVar 4))) (eVar 7) (eBin vIx (eBin vAdd (eLc (iSeq (eVar 4)) (gN 12) (tB' (eCall f__law_ahead (aCons (eVar 7) (aCons (eVar 12) aNil)))) (eVar 12) [12]) (eVar 4)) (eC (.int 0)))) aNil))) (gN 8)) sNop)
def A10_5 : DS := (sIf (tNot' (tB' (eCall (f__law_same 6) (aCons (eGot csL fs__law_got (eCall f_next_in_round (aCons (eVar 3) (aCons (eVar 7) aNil)))) (aCons (eVar 8) aNil))))) (sRet (eC (.bl false))) sNop)
def A10_6 : DS := (sIf (tNot' (tB' (eCall (f__law_same 6) (aCons (eGot csL fs__law_got (eCallK f_next_in_round [1, 0] 0 2 aNil (aCons (eVar 7) (aCons (eFn vTuple (aCons (eRev (eVar 4)) aNil)) aNil)))) (aCons (eVar 8) aNil))))) (sRet (eC (.bl false))) sNop)
def A10_7 : DS := (sAsg (eCall f__law_pick (aCons (eVar 1) (aCons (eBin vAdd (eBin vMul (eLst (aCons (eCall f__law_pair (aCons (eVar 1) aNil)) aNil)) (eC (.int 5))) (eLst (aCons (eCall f__law_pick (aCons (eVar 1) (aCons (eLst (aCons (eC .non) (aCons (eC (.int 7)) (aCons (eC (.str "ab")) (aCons (eTup (aCons (eC (.int 1)) aNil)) (aCons (eTup (aCons (eC (.int 1)) (aCons (eC (.int 2)) (aCons (eC (.int 3)) aNil)))) (aCons (eTup (aCons (eC (.bl true)) (aCons (eC (.int 2)) aNil))) (aCons (eTup (aCons (eC (.str "1")) (aCons (eC (.int 2)) aNil))) (aCons (eLst aNil) (aCons (eTup (aCons (eC (.int 2)) (aCons (eC .non) aNil))) (aCons (eLst (aCons (eC (.int 2)) (aCons (eC (.int 4)) aNil))) (aCons (eLst (aCons (eC (.int 1)) (aCons (eC (.int 0)) aNil))) aNil)))))))))))) aNil))) aNil))) aNil))) (gN 9))
def A10_8 : DS := (sIf (tNot' (tB' (eCall (f__law_same 6) (aCons (eLst (aCons (eGot csL fs__law_got (eCall f_reduced (aCons (eVar 9) aNil))) (aCons (eGot csL fs__law_got (eCallK f_reduced [0] 0 1 aNil (aCons (eVar 9) aNil))) aNil))) (aCons (eBin vMul (eLst (aCons (eCall f__law_reduced_due (aCons (eVar 9) aNil)) aNil)) (eC (.int 2))) aNil))))) (sRet (eC (.bl false))) sNop)
def A10_9 : DS := (sPar3 10 11 12 (aCons (eCall f__law_pair (aCons (eVar 1) aNil)) (aCons (eCall f__law_pair (aCons (eVar 1) aNil)) (aCons (eCall f__law_dir (aCons (eVar 1) aNil)) aNil))))
def A10_10 : DS := (sIf (tNot' (tB' (eCall (f__law_same 6) (aCons (eLst (aCons (eCall f_cross (aCons (eVar 10) (aCons (eVar 11) aNil))) (aCons (eCallK f_cross [1, 0] 0 2 aNil (aCons (eVar 10) (aCons (eVar 11) aNil))) aNil))) (aCons (eLst (aCons (eBin vSub (eBin vMul (eBin vIx (eVar 10) (eC (.int 0))) (eBin vIx (eVar 11) (eC (.int 1)))) (eBin vMul (eBin vIx (eVar 10) (eC (.int 1))) (eBin vIx (eVar 11) (eC (.int 0))))) (aCons (eBin vSub (eBin vMul (eBin vIx (eVar 11) (eC (.int 0))) (eBin vIx (eVar 10) (eC (.int 1)))) (eBin vMul (eBin vIx (eVar 11) (eC (.int 1))) (eBin vIx (eVar 10) (eC (.int 0))))) aNil))) aNil))))) (sRet (eC (.bl false))) sNop)
def A10_11 : DS := (sIf (tNot' (tB' (eCall (f__law_same 6) (aCons (eLst (aCons (eCall f_turned_half (aCons (eVar 12) aNil)) (aCons (eCallK f_turned_half [0] 0 1 aNil (aCons (eCall f_turned_half (aCons (eVar 12) aNil)) aNil)) aNil))) (aCons (eLst (aCons (eTup (aCons (eBin vSub (eC (.int 0)) (eBin vIx (eVar 12) (eC (.int 0)))) (aCons (eBin vSub (eC (.int 0)) (eBin vIx (eVar 12) (eC (.int 1)))) aNil))) (aCons (eVar 12) aNil))) aNil))))) (sRet (eC (.bl false))) sNop)
def A10b : DS := sSeq A10_1 (sSeq A10_2 (sSeq A10_3 (sSeq A10_4 (sSeq A10_5 (sSeq A10_6 (sSeq A10_7 (sSeq A10_8 (sSeq A10_9 (sSeq A10_10 (A10_11))))))))))
def A10 : DS := sForT (iRng1' (aCons (eC (.int 8)) aNil)) (gN 6) A10b
def A11 : DS := (sRet (eBin vEq (eVar 3) (eVar 2)))
theorem b_law_eq : b_law = sSeq A1 (sSeq A2 (sSeq A3 (sSeq A4 (sSeq A5 (sSeq A6 (sSeq A7 (sSeq A8 (sSeq A9 (sSeq A10 (A11)))))))))) := rfl

abbrev ev (s so ha du fi tu d w x a b e k : Option DV) : En := [s, some (.cell 0), so, ha, du, fi, tu, d, w, x, a, b, e, k]
abbrev ptsD (l : List Pt) : DV := .lst (l.map ptD)
theorem Sml_pt {p : Pt} (h : s30 p) : sml (ptD p) := fun a b e => by cases e; exact h
theorem Val.case {v : DV} (V : Val v) : dirB v = false ∨ ∃ p, v = ptD p ∧ isD p = true := by
  cases h : dirB v with
  | false => exact .inl rfl
  | true =>
    right
    unfold dirB at h
    split at h
    · rename_i x y
      exact ⟨(x, y), rfl, h⟩
    · cases h
section
variable {μ : Sto} {s so ha du fi tu d w x a b_ e k : Option DV}
theorem p1_ok {S : List Pt} (hS : ∀ d ∈ S, isD d = true) (hl : S.length ≤ 40) (b : Bx) : ∃ p b', isD p = true ∧ A10_1 (ev s (some (ptsD S)) ha du fi tu d w x a b_ e k) (enc b :: μ) = .nx (ev s (some (ptsD S)) ha du fi tu (some (ptD p)) w x a b_ e k) (enc b' :: μ) := by
  obtain ⟨d1, b1, e1, h1⟩ := dir_ok (μ := μ) b
  obtain ⟨d2, b2, e2, h2⟩ := dir_ok (μ := μ) b1
  obtain ⟨z, b3, e3, hz⟩ := pick_ok (μ := μ) (b := b2) (S.map ptD ++ [ptD d1, ptD d2, .tup [.int 1, .int 0], .tup [.int (-1), .int 0]]) (by rw [List.length_append, List.length_map]; show 0 < S.length + 4; omega) (by rw [List.length_append, List.length_map]; show S.length + 4 < _; omega)
  obtain ⟨p, rfl, hp⟩ : ∃ p, z = ptD p ∧ isD p = true := by
    rcases List.mem_append.mp hz with h | h
    · obtain ⟨p, hp, rfl⟩ := List.mem_map.mp h
      exact ⟨p, rfl, hS p hp⟩
    · simp only [List.mem_cons, List.not_mem_nil, or_false] at h
      rcases h with h | h | h | h
      · exact ⟨d1, h, h1⟩
      · exact ⟨d2, h, h2⟩
      · exact ⟨(1, 0), h, by decide⟩
      · exact ⟨(-1, 0), h, by decide⟩
  refine ⟨p, b3, hp, ?_⟩
  have k4 : ∀ (a b c d : DV) μ, mkL [a, b, c, d] μ = .ok (.lst [a, b, c, d]) μ := fun _ _ _ _ _ => mkL_small (by show 4 ≤ _; decide)
  have hv : ∀ μ, vAdd (ptsD S) (.lst [ptD d1, ptD d2, .tup [.int 1, .int 0], .tup [.int (-1), .int 0]]) μ = some (.lst (S.map ptD ++ [ptD d1, ptD d2, .tup [.int 1, .int 0], .tup [.int (-1), .int 0]])) := fun μ => vAdd_l (by rw [List.length_map]; show S.length + 4 ≤ _; omega)
  unfold A10_1
  generalize S.map ptD ++ [ptD d1, ptD d2, .tup [.int 1, .int 0], .tup [.int (-1), .int 0]] = L at hv e3
  simp [e1, e2, k4, hv, e3]
theorem p2_ok {v0 : DV} (hv : Val v0) (b : Bx) : ∃ v b', Val v ∧ A10_2 (ev s so ha du fi tu (some v0) w x a b_ e k) (enc b :: μ) = .nx (ev s so ha du fi tu (some v) w x a b_ e k) (enc b' :: μ) := by
  obtain ⟨d1, b1, e1, h1⟩ := odd_ok (μ := μ) b
  obtain ⟨z, b3, e3, hz⟩ := pick_ok (μ := μ) (b := b1) [v0, v0, v0, v0, v0, d1, .tup [.int 2, .int 4], .tup [.int 0, .int 0], .tup [.int 1000, .int 1], .tup [.bl true, .int 1]] (by show 0 < 10; decide) (by show 10 < _; decide)
  refine ⟨z, b3, ?_, ?_⟩
  · simp only [List.mem_cons, List.not_mem_nil, or_false] at hz
    rcases hz with h | h | h | h | h | h | h | h | h | h <;> subst h
    · exact hv
    · exact hv
    · exact hv
    · exact hv
    · exact hv
    · exact h1
    · exact Val.pt (p := (2, 4))
    · exact Val.pt (p := (0, 0))
    · exact Val.pt (p := (1000, 1))
    · exact Val.tup rfl (by show 2 ≤ _; decide)
  have k5 : ∀ (a b c d e : DV) μ, mkL [a, b, c, d, e] μ = .ok (.lst [a, b, c, d, e]) μ := fun _ _ _ _ _ _ => mkL_small (by show 5 ≤ _; decide)
  have hA : ∀ (a b c d e f g h i j : DV) μ, vAdd (.lst [a, b, c, d, e]) (.lst [f, g, h, i, j]) μ = some (.lst [a, b, c, d, e, f, g, h, i, j]) := fun _ _ _ _ _ _ _ _ _ _ _ => vAdd_l (by show 5 + 5 ≤ _; decide)
  unfold A10_2
  simp [rep5, e1, k5, hA, e3]
theorem p3_ok {v : DV} : A10_3 (ev s so ha du fi tu (some v) w x a b_ e k) μ = .nx (ev s so ha du fi tu (some v) (some (noD v)) x a b_ e k) μ := by
  unfold A10_3
  simp
def Wt (S : List Pt) (v w : DV) : Prop := ((dirB v = false ∨ S = []) ∧ w = noD v) ∨ ∃ p, v = ptD p ∧ isD p = true ∧ S ≠ [] ∧ w = tellD (if p ∈ S then p else nxt p S)
theorem p4_ok {S : List Pt} {v : DV} (V : Val v) (hS : ∀ d ∈ S, isD d = true) (hl : S.length ≤ 40) : ∃ w, Wt S v w ∧ A10_4 (ev s so ha (some (ptsD (rounded S))) fi tu (some v) (some (noD v)) x a b_ e k) μ = .nx (ev s so ha (some (ptsD (rounded S))) fi tu (some v) (some w) x a b_ e k) μ := by
  have hp : ∀ d ∈ S, Prm d := fun d hd => isD_prm (hS d hd)
  have hm := fun x => mem_rounded (x := x) hp
  have hsr := rounded_srt hp
  have hrl := rounded_len hp
  have hne := ne_nil (μ := μ) (l := rounded S)
  have hd := dir2 (μ := μ) V.p
  unfold A10_4
  by_cases h0 : S = []
  · subst h0
    have hr : rounded [] = [] := rfl
    rw [hr] at hne ⊢
    have hne : vNe (ptsD []) (.lst []) μ = some (.bl false) := hne
    exact ⟨noD v, .inl ⟨.inr rfl, rfl⟩, by simp [hne]⟩
  · have hr0 : (!(rounded S).isEmpty) = true := by
      cases hr : rounded S with
      | nil =>
        cases hS' : S with
        | nil => exact absurd hS' h0
        | cons d r =>
          have := (hm d).mpr (by rw [hS']; exact List.mem_cons_self)
          rw [hr] at this; cases this
      | cons d r => rfl
    rw [hr0] at hne
    rcases V.case with hv | ⟨p, rfl, hv⟩
    · rw [hv] at hd
      exact ⟨noD v, .inl ⟨.inl hv, rfl⟩, by simp [hne, hd]⟩
    · have hv' : dirB (ptD p) = true := hv
      rw [hv'] at hd
      have hin : vIn (ptD p) (ptsD (rounded S)) μ = some (.bl (decide (p ∈ rounded S))) := (Sq.lst).mem p
      by_cases hpS : p ∈ S
      · rw [decide_eq_true ((hm p).mpr hpS)] at hin
        exact ⟨tellD p, .inr ⟨p, rfl, hv, h0, by rw [if_pos hpS]⟩, by simp [hne, hd, hin]⟩
      · rw [decide_eq_false (fun z => hpS ((hm p).mp z))] at hin
        obtain ⟨r, hr⟩ := nxt_due (d := p) hsr hm h0
        have hc : eLc (iSeq (eVar 4)) (gN 12) (tB' (eCall f__law_ahead (aCons (eVar 7) (aCons (eVar 12) aNil)))) (eVar 12) [12] (ev s so ha (some (ptsD (rounded S))) fi tu (some (ptD p)) (some (noD (ptD p))) x a b_ e k) μ = .ok (.lst (((rounded S).filter fun e => ahd p e).map ptD)) μ := by
          have wp : wipeE (ev s so ha (some (ptsD (rounded S))) fi tu (some (ptD p)) (some (noD (ptD p))) x a b_ e k) [12] = ev s so ha (some (ptsD (rounded S))) fi tu (some (ptD p)) (some (noD (ptD p))) x a b_ none k := rfl
          have := compD_filterL (μ := μ) (ρ := ev s so ha (some (ptsD (rounded S))) fi tu (some (ptD p)) (some (noD (ptD p))) x a b_ none k) (t := gN 12) (tt := tB' (eCall f__law_ahead (aCons (eVar 7) (aCons (eVar 12) aNil)))) (te := eVar 12) ptD ptD (fun e => ahd p e) (rounded S) (fun y hy => ⟨_, rfl, by simp [lahead_ok (isD_bp hv)], fun _ => by simp⟩)
          rw [eLc_ap, wp, iSeq_ap]
          simp only [eVar_ap, List.getElem?_cons_succ, List.getElem?_cons_zero, seqi_ok, wk_lst, of_some]
          rw [lc_l (by rw [List.length_map]; omega), this, mk_ok]
        have hA : vAdd (.lst (((rounded S).filter fun e => ahd p e).map ptD)) (ptsD (rounded S)) μ = some (ptsD (nxt p S :: r)) := by
          have hf := List.length_filter_le (fun e => ahd p e) (rounded S)
          rw [← hr, vAdd_l (by rw [List.length_map, List.length_map]; omega), ← List.map_append]
        have hx : vIx (ptsD (nxt p S :: r)) (.int 0) μ = some (ptD (nxt p S)) := lst0
        generalize eLc (iSeq (eVar 4)) (gN 12) (tB' (eCall f__law_ahead (aCons (eVar 7) (aCons (eVar 12) aNil)))) (eVar 12) [12] = E at hc ⊢
        exact ⟨tellD (nxt p S), .inr ⟨p, rfl, hv, h0, by rw [if_neg hpS]⟩, by simp [hne, hd, hin, hc, hA, hx]⟩
theorem same_w {S : List Pt} {v w : DV} (V : Val v) (h : Wt S v w) (μ : Sto) : f__law_same 6 [w, w] μ = .ok (.bl true) μ := by
  rcases h with ⟨_, rfl⟩ | ⟨p, _, _, _, rfl⟩
  · exact same_noD V 2
  · exact same_tell 2
theorem next_got {S : List Pt} {v w a : DV} {ds : List Pt} (V : Val v) (h : Wt S v w) (Q : Sq μ a ds) (hm : ∀ x, x ∈ ds ↔ x ∈ S) (hn : ∀ p, S ≠ [] → nxt p ds = nxt p S) (hS : ∀ d ∈ S, isD d = true) (hN : μ.all CO.noE = true) {fl : DE} {ρ : En} (hf : fl ρ μ = f_next_in_round [a, v] μ) : eGot csL fs__law_got fl ρ μ = .ok w μ := by
  rcases h with ⟨h1, rfl⟩ | ⟨p, rfl, hp, h0, rfl⟩
  · refine got_no V.e hN ?_
    rw [hf]
    refine next_no Q V.p (h1.imp id fun z => ?_)
    cases hd : ds with
    | nil => rfl
    | cons d r =>
      have := (hm d).mp (by rw [hd]; exact List.mem_cons_self)
      rw [z] at this; cases this
  · refine got_told ?_
    have hne : ds ≠ [] := fun z => by
      cases hS' : S with
      | nil => exact h0 hS'
      | cons d r =>
        have := (hm d).mpr (by rw [hS']; exact List.mem_cons_self)
        rw [z] at this; cases this
    rw [hf, next_yes Q hp hne (fun y hy => isD_bp (hS y ((hm y).mp hy))) (isD_bp hp), hn p h0]
    by_cases hpS : p ∈ S
    · rw [if_pos hpS, if_pos ((hm p).mpr hpS)]
    · rw [if_neg hpS, if_neg fun z => hpS ((hm p).mp z)]
theorem p5_ok {S : List Pt} {v w : DV} (V : Val v) (h : Wt S v w) (hS : ∀ d ∈ S, isD d = true) (hN : μ.all CO.noE = true) : A10_5 (ev s so (some (ptsD S)) du fi tu (some v) (some w) x a b_ e k) μ = .nx (ev s so (some (ptsD S)) du fi tu (some v) (some w) x a b_ e k) μ := by
  have g : eGot csL fs__law_got (eCall f_next_in_round (aCons (eVar 3) (aCons (eVar 7) aNil))) (ev s so (some (ptsD S)) du fi tu (some v) (some w) x a b_ e k) μ = .ok w μ :=
    next_got V h (Sq.lst (ds := S)) (fun _ => .rfl) (fun _ _ => rfl) hS hN (by simp)
  have hs := same_w V h μ
  unfold A10_5
  generalize eGot csL fs__law_got (eCall f_next_in_round (aCons (eVar 3) (aCons (eVar 7) aNil))) = G at g ⊢
  simp [g, hs]
theorem p6_ok {S : List Pt} {v w : DV} (V : Val v) (h : Wt S v w) (hS : ∀ d ∈ S, isD d = true) (hN : μ.all CO.noE = true) : A10_6 (ev s so ha (some (ptsD (rounded S))) fi tu (some v) (some w) x a b_ e k) μ = .nx (ev s so ha (some (ptsD (rounded S))) fi tu (some v) (some w) x a b_ e k) μ := by
  have hp : ∀ d ∈ S, Prm d := fun d hd => isD_prm (hS d hd)
  have hm := fun x => mem_rounded (x := x) hp
  have hsr := rounded_srt hp
  have hm2 : ∀ x, x ∈ (rounded S).reverse ↔ x ∈ S := fun x => by rw [List.mem_reverse, hm]
  have hn : ∀ p, S ≠ [] → nxt p (rounded S).reverse = nxt p S := fun p h0 => by
    obtain ⟨r, hr⟩ := nxt_due (d := p) hsr hm h0
    obtain ⟨r', hr'⟩ := nxt_due (d := p) (ds := (rounded S).reverse) hsr (fun x => by rw [List.mem_reverse]) (fun z => by
      cases hS' : S with
      | nil => exact h0 hS'
      | cons d r =>
        have := (hm2 d).mpr (by rw [hS']; exact List.mem_cons_self)
        rw [z] at this; cases this)
    rw [hr] at hr'
    exact (List.cons.inj hr').1.symm
  have pm : ∀ a b : DV, permL [1, 0] [a, b] = [b, a] := fun _ _ => rfl
  have hrv : revD μ (ptsD (rounded S)) = some (.lst ((rounded S).map ptD).reverse) := rfl
  have ht : vTuple [.lst ((rounded S).map ptD).reverse] μ = some (.tup ((rounded S).reverse.map ptD)) := by rw [List.map_reverse]; rfl
  have g : eGot csL fs__law_got (eCallK f_next_in_round [1, 0] 0 2 aNil (aCons (eVar 7) (aCons (eFn vTuple (aCons (eRev (eVar 4)) aNil)) aNil))) (ev s so ha (some (ptsD (rounded S))) fi tu (some v) (some w) x a b_ e k) μ = .ok w μ :=
    next_got V h (Sq.tup (ds := (rounded S).reverse)) hm2 hn hS hN (by
      simp only [eCallK_ap, aNil_ap, ck1_ok, aCons_ap, eVar_ap, List.getElem?_cons_succ, List.getElem?_cons_zero, ac1_ok, eFn_ap, eRev, eUn_ap, un_ok, hrv, of_some, ac2_ok, mk_ok, ht, ck2_ok, List.nil_append, pm]
      rfl)
  have hs := same_w V h μ
  unfold A10_6
  generalize eGot csL fs__law_got (eCallK f_next_in_round [1, 0] 0 2 aNil (aCons (eVar 7) (aCons (eFn vTuple (aCons (eRev (eVar 4)) aNil)) aNil))) = G at g ⊢
  simp [g, hs]
theorem p7_ok (b : Bx) : ∃ v b', Val v ∧ sml v ∧ A10_7 (ev s so ha du fi tu d w x a b_ e k) (enc b :: μ) = .nx (ev s so ha du fi tu d w (some v) a b_ e k) (enc b' :: μ) := by
  obtain ⟨p, b1, e1, h1⟩ := pair_ok (μ := μ) b
  obtain ⟨q, b2, e2, h2⟩ := pick_ok (μ := μ) (b := b1) xL (by show 0 < 11; decide) (by show 11 < _; decide)
  obtain ⟨V2, S2⟩ := xL_val q h2
  obtain ⟨z, b3, e3, hz⟩ := pick_ok (μ := μ) (b := b2) [ptD p, ptD p, ptD p, ptD p, ptD p, q] (by show 0 < 6; decide) (by show 6 < _; decide)
  have e2 : f__law_pick [.cell 0, .lst [.non, .int 7, .str "ab", .tup [.int 1], .tup [.int 1, .int 2, .int 3], .tup [.bl true, .int 2], .tup [.str "1", .int 2], .lst [], .tup [.int 2, .non], .lst [.int 2, .int 4], .lst [.int 1, .int 0]]] (enc b1 :: μ) = .ok q (enc b2 :: μ) := e2
  have V1 : Val (ptD p) := Val.pt
  have S1 := Sml_pt h1
  have hz' : Val z ∧ sml z := by
    simp only [List.mem_cons, List.not_mem_nil, or_false] at hz
    rcases hz with h | h | h | h | h | h <;> rw [h]
    · exact ⟨V1, S1⟩
    · exact ⟨V1, S1⟩
    · exact ⟨V1, S1⟩
    · exact ⟨V1, S1⟩
    · exact ⟨V1, S1⟩
    · exact ⟨V2, S2⟩
  refine ⟨z, b3, hz'.1, hz'.2, ?_⟩
  have k11 : ∀ (a1 a2 a3 a4 a5 a6 a7 a8 a9 b1 b2 : DV) μ, mkL [a1, a2, a3, a4, a5, a6, a7, a8, a9, b1, b2] μ = .ok (.lst [a1, a2, a3, a4, a5, a6, a7, a8, a9, b1, b2]) μ := by
    intros
    exact mkL_small (by show 11 ≤ _; decide)
  have hA : ∀ (a b c d e f : DV) μ, vAdd (.lst [a, b, c, d, e]) (.lst [f]) μ = some (.lst [a, b, c, d, e, f]) := fun _ _ _ _ _ _ _ => vAdd_l (by show 5 + 1 ≤ _; decide)
  unfold A10_7
  simp [rep5, e1, k11, e2, hA, e3]
theorem p8_ok {v : DV} (V : Val v) (hs : sml v) (hN : μ.all CO.noE = true) : A10_8 (ev s so ha du fi tu d w (some v) a b_ e k) μ = .nx (ev s so ha du fi tu d w (some v) a b_ e k) μ := by
  have hr := reduced_ok (μ := μ) V.p hs
  have hd := due_ok (μ := μ) V.p hs
  have gt : ∀ (fl : DE) (ρ : En), fl ρ μ = f_reduced [v] μ → eGot csL fs__law_got fl ρ μ = .ok (dueV v) μ := fun fl ρ hf => by
    rw [hr] at hf
    unfold redR at hf
    unfold dueV
    cases hv : redV v with
    | none => rw [hv] at hf; exact got_no V.e hN hf
    | some p => rw [hv] at hf; exact got_told hf
  have g1 := gt (eCall f_reduced (aCons (eVar 9) aNil)) (ev s so ha du fi tu d w (some v) a b_ e k) (by simp)
  have pm : ∀ a : DV, permL [0] [a] = [a] := fun _ => rfl
  have g2 := gt (eCallK f_reduced [0] 0 1 aNil (aCons (eVar 9) aNil)) (ev s so ha du fi tu d w (some v) a b_ e k) (by simp [pm])
  have hsm : f__law_same 5 [dueV v, dueV v] μ = .ok (.bl true) μ := by
    unfold dueV
    cases redV v with
    | none => exact same_noD V 1
    | some p => exact same_tell 1
  have hs : f__law_same 6 [.lst [dueV v, dueV v], .lst [dueV v, dueV v]] μ = .ok (.bl true) μ := by
    refine same_ll 4 LL.lst rfl (fun i h1 h2 => ?_) (by show 2 ≤ _; decide)
    have hi : i = 0 ∨ i = 1 := by have : i < 2 := h1; omega
    rcases hi with rfl | rfl <;> exact hsm
  unfold A10_8
  generalize eGot csL fs__law_got (eCall f_reduced (aCons (eVar 9) aNil)) = G1 at g1 ⊢
  generalize eGot csL fs__law_got (eCallK f_reduced [0] 0 1 aNil (aCons (eVar 9) aNil)) = G2 at g2 ⊢
  simp [g1, g2, hd, rep2, hs]
theorem p9_ok (b : Bx) : ∃ p q r b', s30 p ∧ s30 q ∧ A10_9 (ev s so ha du fi tu d w x a b_ e k) (enc b :: μ) = .nx (ev s so ha du fi tu d w x (some (ptD p)) (some (ptD q)) (some (ptD r)) k) (enc b' :: μ) := by
  obtain ⟨p, b1, e1, h1⟩ := pair_ok (μ := μ) b
  obtain ⟨q, b2, e2, h2⟩ := pair_ok (μ := μ) b1
  obtain ⟨r, b3, e3, h3⟩ := dir_ok (μ := μ) b2
  refine ⟨p, q, r, b3, h1, h2, ?_⟩
  unfold A10_9
  simp [e1, e2, e3]
theorem pa_ok {p q : Pt} (hp : s30 p) (hq : s30 q) : A10_10 (ev s so ha du fi tu d w x (some (ptD p)) (some (ptD q)) e k) μ = .nx (ev s so ha du fi tu d w x (some (ptD p)) (some (ptD q)) e k) μ := by
  have c1 := cross_ok (μ := μ) (p := p) (q := q) (s30_bp hp)
  have c2 := cross_ok (μ := μ) (p := q) (q := p) (s30_bp hq)
  have pm : ∀ a b : DV, permL [1, 0] [a, b] = [b, a] := fun _ _ => rfl
  have m1 : ∀ y μ, vMul (.int p.1) (.int y) μ = some (.int (p.1 * y)) := fun y μ => vMul_l (by have := hp.1; omega)
  have m2 : ∀ y μ, vMul (.int p.2) (.int y) μ = some (.int (p.2 * y)) := fun y μ => vMul_l (by have := hp.2; omega)
  have m3 : ∀ y μ, vMul (.int q.1) (.int y) μ = some (.int (q.1 * y)) := fun y μ => vMul_l (by have := hq.1; omega)
  have m4 : ∀ y μ, vMul (.int q.2) (.int y) μ = some (.int (q.2 * y)) := fun y μ => vMul_l (by have := hq.2; omega)
  have hs : f__law_same 6 [.lst [.int (crs p q), .int (crs q p)], .lst [.int (crs p q), .int (crs q p)]] μ = .ok (.bl true) μ := same_list 4 rfl (by show 2 ≤ _; decide)
  unfold A10_10
  have f1 : p.1 * q.2 - p.2 * q.1 = crs p q := rfl
  have f2 : q.1 * p.2 - q.2 * p.1 = crs q p := rfl
  simp [c1, c2, pm, m1, m2, m3, m4, f1, f2, hs]
theorem pb_ok {r : Pt} : A10_11 (ev s so ha du fi tu d w x a b_ (some (ptD r)) k) μ = .nx (ev s so ha du fi tu d w x a b_ (some (ptD r)) k) μ := by
  have t1 := fun p => turned_ok (μ := μ) (p := p)
  have pm : ∀ a : DV, permL [0] [a] = [a] := fun _ => rfl
  have hs : f__law_same 6 [.lst [ptD (-r.1, -r.2), ptD r], .lst [ptD (-r.1, -r.2), ptD r]] μ = .ok (.bl true) μ := by
    refine same_ll 4 LL.lst rfl (fun i h1 h2 => ?_) (by show 2 ≤ _; decide)
    have hi : i = 0 ∨ i = 1 := by have : i < 2 := h1; omega
    rcases hi with rfl | rfl <;> exact same_pt _
  have hz : (.tup [.int (-r.1), .int (-r.2)] : DV) = ptD (-r.1, -r.2) := rfl
  unfold A10_11
  simp [t1, pm, hz, hs]
end
end Lw

set_option Elab.async false
set_option linter.all false
set_option maxRecDepth 100000
set_option maxHeartbeats 4000000
/-! k02: ahead of the turns. -/
namespace Lw
open PySem PySem.Spec PyProof.Rows L2 SD
theorem low1 {b : Bx} : lowS [enc b] := fun c hc => by
  have : c = enc b := by simpa using hc
  rw [this]
  have h : ∀ ns : List Int, lowL 0 (ns.map .int) = true := low_ints
  unfold enc CO.low
  simp [lowL, DV.low, h]
theorem compD_inv2 {ρ : En} {t : DG} {tt : DT} {te : DE} (I : Sto → Prop) (p : DV → Prop) : ∀ (ds : List DV) (μ : Sto), I μ → (∀ d ∈ ds, ∀ μ, I μ → ∃ ρ1, t d ρ μ = some ρ1 ∧ (tt ρ1 μ = .ok false μ ∨ (tt ρ1 μ = .ok true μ ∧ ∃ y μ', te ρ1 μ = .ok y μ' ∧ I μ' ∧ p y))) →
    ∃ ys μ', compD t tt te ρ ds μ = .ok ys μ' ∧ I μ' ∧ ys.length ≤ ds.length ∧ ∀ y ∈ ys, p y
  | [], μ, hI, _ => ⟨[], μ, rfl, hI, Nat.le_refl _, fun _ h => nomatch h⟩
  | d :: ds, μ, hI, h => by
    obtain ⟨ρ1, e1, e2⟩ := h d (by simp) μ hI
    rcases e2 with e2 | ⟨e2, y, μ1, e3, h3, hp⟩
    · obtain ⟨ys, μ2, e4, h4, hl, hq⟩ := compD_inv2 I p ds μ hI fun d hd => h d (List.mem_cons_of_mem _ hd)
      refine ⟨ys, μ2, ?_, h4, by rw [List.length_cons]; omega, hq⟩
      unfold compD
      rw [e1]
      simp only
      rw [e2]
      exact e4
    · obtain ⟨ys, μ2, e4, h4, hl, hq⟩ := compD_inv2 I p ds μ1 h3 fun d hd => h d (List.mem_cons_of_mem _ hd)
      refine ⟨y :: ys, μ2, ?_, h4, by rw [List.length_cons, List.length_cons]; omega, fun z hz => ?_⟩
      · unfold compD
        rw [e1]
        simp only
        rw [e2]
        show (te ρ1 μ).nox.bind _ = _
        rw [e3]
        show (compD t tt te ρ ds μ1).bind _ = _
        rw [e4]
        rfl
      · rcases List.mem_cons.mp hz with rfl | hz
        · exact hp
        · exact hq z hz
def IsP (y : DV) : Prop := ∃ d, y = ptD d ∧ isD d = true
theorem lift : ∀ {ys : List DV}, (∀ y ∈ ys, IsP y) → ∃ l : List Pt, ys = l.map ptD ∧ ∀ d ∈ l, isD d = true
  | [], _ => ⟨[], rfl, fun _ h => nomatch h⟩
  | y :: ys, h => by
    obtain ⟨d, rfl, hd⟩ := h y List.mem_cons_self
    obtain ⟨l, rfl, hl⟩ := lift fun z hz => h z (List.mem_cons_of_mem _ hz)
    refine ⟨d :: l, rfl, fun z hz => ?_⟩
    rcases List.mem_cons.mp hz with e | e
    · rw [e]; exact hd
    · exact hl z e
section
variable {s so ha du fi tu d w x a b_ e k : Option DV}
theorem a2_ok (b : Bx) : ∃ S b', (∀ d ∈ S, isD d = true) ∧ S.length ≤ 8 ∧ A2 (ev s so ha du fi tu d w x a b_ e k) [enc b] = .nx (ev s (some (ptsD S)) ha du fi tu d w x a b_ e k) [enc b'] := by
  obtain ⟨n, b1, e1, n0, n1⟩ := take_ok (μ := []) (b := b) 9 (by decide) (by decide)
  obtain ⟨m, rfl⟩ := Int.eq_ofNat_of_zero_le n0
  obtain ⟨ys, μ', ec, ⟨b', rfl⟩, hl, hp⟩ := compD_inv2 (ρ := ev s so ha du fi tu d w x a b_ e none) (t := gN 13) (tt := tYes') (te := eCall f__law_dir (aCons (eVar 1) aNil)) (fun μ => ∃ b, μ = [enc b]) IsP ((List.range m).map fun (i : Nat) => DV.int (i : Int)) [enc b1] ⟨b1, rfl⟩ (by
    rintro z hz μ ⟨b, rfl⟩
    obtain ⟨p, b2, e2, h2⟩ := dir_ok (μ := []) b
    exact ⟨_, rfl, .inr ⟨rfl, ptD p, _, by simp [e2], ⟨b2, rfl⟩, p, rfl, h2⟩⟩)
  obtain ⟨S, rfl, hS⟩ := lift hp
  rw [List.length_map, List.length_map, List.length_range] at hl
  refine ⟨S, b', hS, by omega, ?_⟩
  have wp : ∀ k, wipeE (ev s so ha du fi tu d w x a b_ e k) [13] = ev s so ha du fi tu d w x a b_ e none := fun _ => rfl
  have hr := rng_n (n := m) (by omega)
  have hlc := fun t tt te ρ μ => lc_rng (μ := μ) (n := m) (t := t) (tt := tt) (te := te) (ρ := ρ) (by omega)
  unfold A2
  generalize hte : eCall f__law_dir (aCons (eVar 1) aNil) = te at ec
  simp only [sAsg_ap, eLc_ap, wp, iRng1_ap, aCons_ap, eCall_ap, eVar_ap, List.getElem?_cons_succ, List.getElem?_cons_zero, ac1_ok, eC_ap, aNil_ap, ac2_ok, mk_ok, e1, rg1_ok]
  rw [hr, of_some, hlc, ec, mk_ok, asg_ok]
  rfl
theorem a3_ok {S : List Pt} (hS : ∀ d ∈ S, isD d = true) (hl : S.length ≤ 8) (b : Bx) : ∃ T b', (∀ d ∈ T, isD d = true) ∧ T.length ≤ 10 ∧ A3 (ev s (some (ptsD S)) ha du fi tu d w x a b_ e k) [enc b] = .nx (ev s (some (ptsD T)) ha du fi tu d w x a b_ e k) [enc b'] := by
  obtain ⟨n, b1, e1, n0, n1⟩ := take_ok (μ := []) (b := b) 3 (by decide) (by decide)
  obtain ⟨m, rfl⟩ := Int.eq_ofNat_of_zero_le n0
  obtain ⟨ys, μ', ec, ⟨b', rfl⟩, hl2, hp⟩ := compD_inv2 (ρ := ev s (some (ptsD S)) ha du fi tu d w x a b_ e none) (t := gN 13) (tt := tB' (eBin vNe (eVar 2) (eLst aNil))) (te := eCall f__law_pick (aCons (eVar 1) (aCons (eVar 2) aNil))) (fun μ => ∃ b, μ = [enc b]) IsP ((List.range m).map fun (i : Nat) => DV.int (i : Int)) [enc b1] ⟨b1, rfl⟩ (by
    rintro z hz μ ⟨b, rfl⟩
    have hn := ne_nil (μ := [enc b]) (l := S)
    refine ⟨_, rfl, ?_⟩
    cases hs : S with
    | nil =>
      subst hs
      have hn : vNe (ptsD []) (.lst []) [enc b] = some (.bl false) := hn
      exact .inl (by simp [hn])
    | cons p r =>
      have hn : vNe (ptsD S) (.lst []) [enc b] = some (.bl true) := by rw [hn, hs]; rfl
      rw [← hs]
      obtain ⟨q, b2, e2, h2⟩ := pick_ok (μ := []) (b := b) (S.map ptD) (by rw [List.length_map, hs]; simp) (by rw [List.length_map]; omega)
      obtain ⟨q, hq, rfl⟩ := List.mem_map.mp h2
      exact .inr ⟨by simp [hn], ptD q, _, by simp [e2], ⟨b2, rfl⟩, q, rfl, hS q hq⟩)
  obtain ⟨T, rfl, hT⟩ := lift hp
  rw [List.length_map, List.length_map, List.length_range] at hl2
  refine ⟨S ++ T, b', fun z hz => ?_, by rw [List.length_append]; omega, ?_⟩
  · rcases List.mem_append.mp hz with h | h
    · exact hS z h
    · exact hT z h
  have wp : ∀ k, wipeE (ev s (some (ptsD S)) ha du fi tu d w x a b_ e k) [13] = ev s (some (ptsD S)) ha du fi tu d w x a b_ e none := fun _ => rfl
  have hr := rng_n (n := m) (by omega)
  have hlc := fun t tt te ρ μ => lc_rng (μ := μ) (n := m) (t := t) (tt := tt) (te := te) (ρ := ρ) (by omega)
  have hA : ∀ μ, vAdd (ptsD S) (.lst (T.map ptD)) μ = some (ptsD (S ++ T)) := fun μ => by
    rw [vAdd_l (by rw [List.length_map, List.length_map]; omega), ← List.map_append]
  unfold A3
  simp only [sAsg_ap, eBin_ap, eVar_ap, List.getElem?_cons_succ, List.getElem?_cons_zero, bin1_ok, eLc_ap, wp, iRng1_ap, aCons_ap, eCall_ap, ac1_ok, eC_ap, aNil_ap, ac2_ok, mk_ok, e1, rg1_ok]
  rw [hr, of_some, hlc, ec, mk_ok, bin2_ok, hA, of_some, asg_ok]
  rfl
theorem a4_ok {S : List Pt} (hS : ∀ d ∈ S, isD d = true) (hl : S.length ≤ 10) (b : Bx) : ∃ T b', (∀ d ∈ T, isD d = true) ∧ T.length ≤ 20 ∧ A4 (ev s (some (ptsD S)) ha du fi tu d w x a b_ e k) [enc b] = .nx (ev s (some (ptsD T)) ha du fi tu d w x a b_ e k) [enc b'] := by
  obtain ⟨n, b1, e1, n0, n1⟩ := take_ok (μ := []) (b := b) 4 (by decide) (by decide)
  obtain ⟨m, rfl⟩ := Int.eq_ofNat_of_zero_le n0
  have hsl : ∀ μ, vSlc (ptsD S) none (some (m : Int)) μ = some (ptsD (S.take (min m S.length))) := fun μ => by
    show some (DV.lst (SD.cutD (S.map ptD) none (some (m : Int)))) = _
    unfold SD.cutD
    rw [HT.sIx_nat, HT.sIx_none, List.drop_zero, List.length_map, Nat.sub_zero, ← List.map_take]
  generalize hU : S.take (min m S.length) = U at hsl
  have hUS : ∀ d ∈ U, isD d = true := fun d hd => hS d (List.mem_of_mem_take (by rw [hU]; exact hd))
  have hUl : U.length ≤ 10 := by rw [← hU, List.length_take]; omega
  have hc : compD (gN 7) tYes' (eTup (aCons (eBin vSub (eC (.int 0)) (eBin vIx (eVar 7) (eC (.int 0)))) (aCons (eBin vSub (eC (.int 0)) (eBin vIx (eVar 7) (eC (.int 1)))) aNil))) (ev s (some (ptsD S)) ha du fi tu none w x a b_ e k) (U.map ptD) [enc b1] = .ok ((U.map fun d => (0 - d.1, 0 - d.2)).map ptD) [enc b1] := by
    rw [List.map_map]
    exact compD_mapL ptD (fun p => ptD (0 - p.1, 0 - p.2)) U fun p hp => ⟨_, rfl, by simp [-Int.zero_sub]; rfl⟩
  refine ⟨S ++ U.map fun d => (0 - d.1, 0 - d.2), b1, fun z hz => ?_, by rw [List.length_append, List.length_map]; omega, ?_⟩
  · rcases List.mem_append.mp hz with h | h
    · exact hS z h
    · obtain ⟨y, hy, rfl⟩ := List.mem_map.mp h
      exact isD_neg (hUS y hy)
  have wp : wipeE (ev s (some (ptsD S)) ha du fi tu d w x a b_ e k) [7] = ev s (some (ptsD S)) ha du fi tu none w x a b_ e k := rfl
  have hA : ∀ μ, vAdd (ptsD S) (.lst ((U.map fun d => (0 - d.1, 0 - d.2)).map ptD)) μ = some (ptsD (S ++ U.map fun d => (0 - d.1, 0 - d.2))) := fun μ => by
    rw [vAdd_l (by rw [List.length_map, List.length_map, List.length_map]; omega), ← List.map_append]
  have ho : ∀ i μ, R.o1 (.ok (.int i) μ) = .ok (some i) μ := fun _ _ => rfl
  unfold A4
  simp only [sAsg_ap, eBin_ap, eVar_ap, List.getElem?_cons_succ, List.getElem?_cons_zero, bin1_ok, eLc_ap, wp, iSeq_ap, eSl_ap, sl1_ok, oNone_ap, sl2_ok, oSome_ap, aCons_ap, eCall_ap, ac1_ok, eC_ap, aNil_ap, ac2_ok, mk_ok, e1, ho, sl3_ok, hsl, of_some, seqi_ok, wk_lst]
  rw [lc_l (by rw [List.length_map]; omega), hc, mk_ok, bin2_ok, hA, of_some, asg_ok]
  rfl
theorem a5_ok {S : List Pt} (hS : ∀ d ∈ S, isD d = true) (hl : S.length ≤ 20) (b : Bx) : A5 (ev s (some (ptsD S)) ha du fi tu d w x a b_ e k) [enc b] = .nx (ev s (some (ptsD S)) (some (ptsD S)) (some (ptsD (rounded S))) fi tu d w x a b_ e k) [enc b] := by
  have e1 := lround_ok (μ := [enc b]) (ds := S) low1 (by omega) fun d hd => isD_bp (hS d hd)
  have hv : ∀ xs μ, vList [.lst xs] μ = some (.lst xs) := fun _ _ => rfl
  unfold A5
  simp [hv, e1]
theorem a6_ok {S : List Pt} (hS : ∀ d ∈ S, isD d = true) (hl : S.length ≤ 20) (b : Bx) : A6 (ev s so (some (ptsD S)) du fi tu d w x a b_ e k) [enc b] = .nx (ev s so (some (ptsD S)) du (some (.cell 1)) tu d w x a b_ e k) [enc b, .lst ((rounded S).map ptD)] := by
  have e1 := in_round_ok (μ := [enc b]) (a := ptsD S) (ds := S) low1 rfl (by omega) (fun d hd => isD_prm (hS d hd)) fun d hd => isD_bp (hS d hd)
  have e1 : f_in_round [ptsD S] [enc b] = .ok (.cell 1) [enc b, .lst ((rounded S).map ptD)] := e1
  unfold A6
  simp [e1]
theorem a7_ok {S : List Pt} (hS : ∀ d ∈ S, isD d = true) (hl : S.length ≤ 20) (b : Bx) : A7 (ev s (some (ptsD S)) (some (ptsD S)) (some (ptsD (rounded S))) (some (.cell 1)) tu d w x a b_ e k) [enc b, .lst ((rounded S).map ptD)] = .nx (ev s (some (ptsD S)) (some (ptsD S)) (some (ptsD (rounded S))) (some (.cell 1)) tu d w x a b_ e k) [enc b, .lst ((rounded S).map ptD), .lst ((rounded S).map ptD)] := by
  have lw : lowS [enc b, .lst ((rounded S).map ptD)] := lowS_add (μ := [enc b]) low1
  have e1 := in_round_ok (a := .tup (S.map ptD)) (ds := S) lw rfl (by omega) (fun d hd => isD_prm (hS d hd)) fun d hd => isD_bp (hS d hd)
  have e1 : f_in_round [.tup (S.map ptD)] [enc b, .lst ((rounded S).map ptD)] = .ok (.cell 2) [enc b, .lst ((rounded S).map ptD), .lst ((rounded S).map ptD)] := e1
  have pm : ∀ a : DV, permL [0] [a] = [a] := fun _ => rfl
  have ht : ∀ μ, vTuple [ptsD S] μ = some (.tup (S.map ptD)) := fun _ => rfl
  have hrl := rounded_len (ds := S) fun d hd => isD_prm (hS d hd)
  obtain ⟨μ, hμ⟩ : ∃ μ : Sto, μ = [enc b, .lst ((rounded S).map ptD), .lst ((rounded S).map ptD)] := ⟨_, rfl⟩
  have hs : f__law_same 6 [.lst [.cell 1, .cell 2, ptsD S], .lst [ptsD (rounded S), ptsD (rounded S), ptsD S]] μ = .ok (.bl true) μ := by
    refine same_ll 4 LL.lst rfl (fun i h1 h2 => ?_) (by show 3 ≤ _; decide)
    have hi : i = 0 ∨ i = 1 ∨ i = 2 := by have : i < 3 := h1; omega
    rcases hi with rfl | rfl | rfl
    · exact same_pts 2 (LL.cell (by rw [hμ]; rfl)) (by omega)
    · exact same_pts 2 (LL.cell (by rw [hμ]; rfl)) (by omega)
    · exact same_pts 2 LL.lst (by omega)
  rw [← hμ] at e1 ⊢
  unfold A7
  simp [ht, pm, e1, hs]
theorem a8_ok {l : List Pt} (hl : l.length ≤ 1000) {c0 : CO} {ν : Sto} : A8 (ev s so ha du (some (.cell 1)) tu d w x a b_ e k) (c0 :: .lst (l.map ptD) :: ν) = .nx (ev s so ha du (some (.cell 1)) tu d w x a b_ e k) (c0 :: .lst ((l ++ [(1, 0)]).map ptD) :: ν) := by
  have hr : recv "list" (.cell 1) (c0 :: .lst (l.map ptD) :: ν) = true := rfl
  have hz : ∀ μ, mkT [.int 1, .int 0] μ = .ok (ptD (1, 0)) μ := fun μ => mkT2
  have ha : mAppend (.cell 1) [ptD (1, 0)] (c0 :: .lst (l.map ptD) :: ν) = some (.non, c0 :: .lst ((l ++ [(1, 0)]).map ptD) :: ν) := by
    show (if okLen ((l.map ptD).length + 1) = true then some (DV.non, c0 :: CO.lst (l.map ptD ++ [ptD (1, 0)]) :: ν) else none) = _
    rw [if_pos (okLen_small (by rw [List.length_map]; omega)), List.map_append]
    rfl
  unfold A8
  simp only [sExpr_ap, eBm_ap, eVar_ap, ev, List.getElem?_cons_succ, List.getElem?_cons_zero, bm1_ok, hr, if_true, aCons_ap, eTup_ap, eC_ap, ac1_ok, aNil_ap, ac2_ok, mk_ok, hz, bm2_ok, ha, ofS_some, xpr_ok]
theorem a9_ok {S : List Pt} (hS : ∀ d ∈ S, isD d = true) (hl : S.length ≤ 20) (b : Bx) {l m : List Pt} : A9 (ev s so (some (ptsD S)) (some (ptsD (rounded S))) fi tu d w x a b_ e k) [enc b, .lst (l.map ptD), .lst (m.map ptD)] = .nx (ev s so (some (ptsD S)) (some (ptsD (rounded S))) fi tu d w x a b_ e k) [enc b, .lst (l.map ptD), .lst (m.map ptD), .lst ((rounded S).map ptD)] := by
  have lw : lowS [enc b, .lst (l.map ptD), .lst (m.map ptD)] := lowS_add (μ := [enc b, .lst (l.map ptD)]) (lowS_add (μ := [enc b]) low1)
  have e1 := in_round_ok (a := ptsD S) (ds := S) lw rfl (by omega) (fun d hd => isD_prm (hS d hd)) fun d hd => isD_bp (hS d hd)
  have e1 : f_in_round [ptsD S] [enc b, .lst (l.map ptD), .lst (m.map ptD)] = .ok (.cell 3) [enc b, .lst (l.map ptD), .lst (m.map ptD), .lst ((rounded S).map ptD)] := e1
  have hrl := rounded_len (ds := S) fun d hd => isD_prm (hS d hd)
  have hs : f__law_same 6 [.cell 3, ptsD (rounded S)] [enc b, .lst (l.map ptD), .lst (m.map ptD), .lst ((rounded S).map ptD)] = .ok (.bl true) [enc b, .lst (l.map ptD), .lst (m.map ptD), .lst ((rounded S).map ptD)] := same_pts 3 (LL.cell rfl) (by omega)
  unfold A9
  simp [e1, hs]
end
end Lw

set_option Elab.async false
set_option linter.all false
set_option maxRecDepth 100000
set_option maxHeartbeats 4000000
namespace Lw
open PySem PySem.Spec PyProof.Rows L2 SD
theorem eqv_pts : ∀ {l : List Pt}, PyData.eqvAll (l.map ptY) (l.map ptY) = true
  | [] => by simp [PyData.eqvAll]
  | p :: l => by
    rw [List.map_cons]
    have h := eqv_pt (p := p) (q := p)
    simp only [PyData.eqvAll, h, eqv_pts, decide_true, Bool.and_self]
theorem eq_pts {μ : Sto} {l : List Pt} : vEq (ptsD l) (ptsD l) μ = some (.bl true) := by
  have e1 : toPyC μ (ptsD l) = some (.list (l.map ptY)) := by show toPy (.lst (l.map ptD)) = _; unfold toPy; rw [toPy_pts]; rfl
  show (eqP (ptsD l) (ptsD l) μ).map DV.bl = _
  unfold eqP
  rw [e1]
  simp only [shaped_pts, Bool.and_self, if_true, Option.map_some, PyData.eqv, eqv_pts]
/-- a slot behind a turn -/
def tr4 (o : Option DV) : Option DV := match o with
  | some d => if d.low 4 = true then some d else none
  | none => none
theorem noE_enc' {b : Bx} {ν : Sto} (h : ν.all CO.noE = true) : (enc b :: ν).all CO.noE = true := by rw [List.all_cons, h, noE_enc]; rfl
theorem turn_ok {S : List Pt} (hS : ∀ d ∈ S, isD d = true) (hl : S.length ≤ 20) {ν : Sto} (hN : ν.all CO.noE = true) (s fi tu d w x a b_ e k : Option DV) (b : Bx) :
    ∃ y7 y8 y9 ya yb yc b', A10b (ev s (some (ptsD S)) (some (ptsD S)) (some (ptsD (rounded S))) fi tu d w x a b_ e k) (enc b :: ν) = .nx (ev s (some (ptsD S)) (some (ptsD S)) (some (ptsD (rounded S))) fi tu y7 y8 y9 ya yb yc k) (enc b' :: ν) := by
  obtain ⟨p, b1, hp, e1⟩ := p1_ok (μ := ν) (s := s) (ha := some (ptsD S)) (du := some (ptsD (rounded S))) (fi := fi) (tu := tu) (d := d) (w := w) (x := x) (a := a) (b_ := b_) (e := e) (k := k) hS (by omega) b
  obtain ⟨v, b2, V, e2⟩ := p2_ok (μ := ν) (s := s) (so := some (ptsD S)) (ha := some (ptsD S)) (du := some (ptsD (rounded S))) (fi := fi) (tu := tu) (w := w) (x := x) (a := a) (b_ := b_) (e := e) (k := k) (Val.pt (p := p)) b1
  have e3 := p3_ok (μ := enc b2 :: ν) (s := s) (so := some (ptsD S)) (ha := some (ptsD S)) (du := some (ptsD (rounded S))) (fi := fi) (tu := tu) (w := w) (x := x) (a := a) (b_ := b_) (e := e) (k := k) (v := v)
  obtain ⟨w', W, e4⟩ := p4_ok (μ := enc b2 :: ν) (s := s) (so := some (ptsD S)) (ha := some (ptsD S)) (fi := fi) (tu := tu) (x := x) (a := a) (b_ := b_) (e := e) (k := k) V hS (by omega)
  have e5 := p5_ok (μ := enc b2 :: ν) (s := s) (so := some (ptsD S)) (du := some (ptsD (rounded S))) (fi := fi) (tu := tu) (x := x) (a := a) (b_ := b_) (e := e) (k := k) V W hS (noE_enc' hN)
  have e6 := p6_ok (μ := enc b2 :: ν) (s := s) (so := some (ptsD S)) (ha := some (ptsD S)) (fi := fi) (tu := tu) (x := x) (a := a) (b_ := b_) (e := e) (k := k) V W hS (noE_enc' hN)
  obtain ⟨z, b3, Z, zs, e7⟩ := p7_ok (μ := ν) (s := s) (so := some (ptsD S)) (ha := some (ptsD S)) (du := some (ptsD (rounded S))) (fi := fi) (tu := tu) (d := some v) (w := some w') (x := x) (a := a) (b_ := b_) (e := e) (k := k) b2
  have e8 := p8_ok (μ := enc b3 :: ν) (s := s) (so := some (ptsD S)) (ha := some (ptsD S)) (du := some (ptsD (rounded S))) (fi := fi) (tu := tu) (d := some v) (w := some w') (a := a) (b_ := b_) (e := e) (k := k) Z zs (noE_enc' hN)
  obtain ⟨p', q', r', b4, hp', hq', e9⟩ := p9_ok (μ := ν) (s := s) (so := some (ptsD S)) (ha := some (ptsD S)) (du := some (ptsD (rounded S))) (fi := fi) (tu := tu) (d := some v) (w := some w') (x := some z) (a := a) (b_ := b_) (e := e) (k := k) b3
  have ea := pa_ok (μ := enc b4 :: ν) (s := s) (so := some (ptsD S)) (ha := some (ptsD S)) (du := some (ptsD (rounded S))) (fi := fi) (tu := tu) (d := some v) (w := some w') (x := some z) (e := some (ptD r')) (k := k) hp' hq'
  have eb := pb_ok (μ := enc b4 :: ν) (s := s) (so := some (ptsD S)) (ha := some (ptsD S)) (du := some (ptsD (rounded S))) (fi := fi) (tu := tu) (d := some v) (w := some w') (x := some z) (a := some (ptD p')) (b_ := some (ptD q')) (k := k) (r := r')
  refine ⟨some v, some w', some z, some (ptD p'), some (ptD q'), some (ptD r'), b4, ?_⟩
  unfold A10b
  rw [sSeq_ap, e1, seq_nx, sSeq_ap, e2, seq_nx, sSeq_ap, e3, seq_nx, sSeq_ap, e4, seq_nx, sSeq_ap, e5, seq_nx, sSeq_ap, e6, seq_nx, sSeq_ap, e7, seq_nx, sSeq_ap, e8, seq_nx, sSeq_ap, e9, seq_nx, sSeq_ap, ea, seq_nx, eb]
theorem low_ptsD {n : Nat} {l : List Pt} : (ptsD l).low n = true := low_pts
theorem plain (ns : List Int) (h : ns.length ≤ 63) : ∃ μ, f_law [.scr (ns.map .int)] [] = .ok (.bl true) μ := by
  obtain ⟨b, hb⟩ := box_ok ns 120320203
  refine ⟨[], ?_⟩
  unfold f_law
  rw [runF1, b_law_eq]
  have e1 : A1 ([some (.scr (ns.map .int))] ++ List.replicate 13 none) [] = .nx (ev (some (.scr (ns.map .int))) none none none none none none none none none none none none) [enc b] := by
    unfold A1
    simp only [sAsg_ap, eCall_ap, aCons_ap, eVar_ap, aNil_ap, eC_ap, List.cons_append, List.nil_append, List.replicate, List.getElem?_cons_zero, ac1_ok, ac2_ok, mk_ok, hb, asg_ok, gN_ap, List.set_cons_succ, List.set_cons_zero]
  obtain ⟨S1, b1, h1, l1, e2⟩ := a2_ok (s := some (.scr (ns.map .int))) (so := none) (ha := none) (du := none) (fi := none) (tu := none) (d := none) (w := none) (x := none) (a := none) (b_ := none) (e := none) (k := none) b
  obtain ⟨S2, b2, h2, l2, e3⟩ := a3_ok (s := some (.scr (ns.map .int))) (ha := none) (du := none) (fi := none) (tu := none) (d := none) (w := none) (x := none) (a := none) (b_ := none) (e := none) (k := none) h1 l1 b1
  obtain ⟨S, b3, hS, hl, e4⟩ := a4_ok (s := some (.scr (ns.map .int))) (ha := none) (du := none) (fi := none) (tu := none) (d := none) (w := none) (x := none) (a := none) (b_ := none) (e := none) (k := none) h2 l2 b2
  have e5 := a5_ok (s := some (.scr (ns.map .int))) (ha := none) (du := none) (fi := none) (tu := none) (d := none) (w := none) (x := none) (a := none) (b_ := none) (e := none) (k := none) hS hl b3
  have e6 := a6_ok (s := some (.scr (ns.map .int))) (so := some (ptsD S)) (du := some (ptsD (rounded S))) (fi := none) (tu := none) (d := none) (w := none) (x := none) (a := none) (b_ := none) (e := none) (k := none) hS hl b3
  have e7 := a7_ok (s := some (.scr (ns.map .int))) (tu := none) (d := none) (w := none) (x := none) (a := none) (b_ := none) (e := none) (k := none) hS hl b3
  have hrl := rounded_len (ds := S) fun d hd => isD_prm (hS d hd)
  have e8 := a8_ok (s := some (.scr (ns.map .int))) (so := some (ptsD S)) (ha := some (ptsD S)) (du := some (ptsD (rounded S))) (tu := none) (d := none) (w := none) (x := none) (a := none) (b_ := none) (e := none) (k := none) (l := rounded S) (by omega) (c0 := enc b3) (ν := [.lst ((rounded S).map ptD)])
  have e9 := a9_ok (s := some (.scr (ns.map .int))) (so := some (ptsD S)) (fi := some (.cell 1)) (tu := none) (d := none) (w := none) (x := none) (a := none) (b_ := none) (e := none) (k := none) hS hl b3 (l := rounded S ++ [(1, 0)]) (m := rounded S)
  obtain ⟨ν, hν⟩ : ∃ ν : Sto, ν = [.lst ((rounded S ++ [(1, 0)]).map ptD), .lst ((rounded S).map ptD), .lst ((rounded S).map ptD)] := ⟨_, rfl⟩
  have hN : ν.all CO.noE = true := by
    rw [hν]
    simp only [List.all_cons, List.all_nil, CO.noE, noE_pts, Bool.and_self]
  have lw : lowS ν := by
    rw [hν]
    exact lowS_add (lowS_add (lowS_add lowS_nil))
  have ln : ν.length = 3 := by rw [hν]; rfl
  rw [← hν] at e9
  have ls : (DV.scr (ns.map .int)).low 4 = true := lowL_mono (Nat.zero_le _) (low_ints ns)
  have e10 : ∃ x7 x8 x9 xa xb xc xk x6 b', A10 (ev (some (.scr (ns.map .int))) (some (ptsD S)) (some (ptsD S)) (some (ptsD (rounded S))) (some (.cell 1)) none none none none none none none none) (enc b3 :: ν) = .nx (ev (some (.scr (ns.map .int))) (some (ptsD S)) (some (ptsD S)) (some (ptsD (rounded S))) (some (.cell 1)) x6 x7 x8 x9 xa xb xc xk) (enc b' :: ν) := by
    obtain ⟨ρ', μ', el, ⟨x6, x7, x8, x9, xa, xb, xc, xk, hρ⟩, b', hμ⟩ := loopT_inv (t := gN 6) (f := A10b) (n0 := 4) (ds := (List.range 8).map fun (i : Nat) => DV.int (i : Int)) (fun ρ μ => (∃ x6 x7 x8 x9 xa xb xc xk, ρ = ev (some (.scr (ns.map .int))) (some (ptsD S)) (some (ptsD S)) (some (ptsD (rounded S))) (some (.cell 1)) x6 x7 x8 x9 xa xb xc xk) ∧ ∃ b, μ = enc b :: ν) (by
      rintro d hd ρ μ ⟨⟨x6, x7, x8, x9, xa, xb, xc, xk, rfl⟩, b, rfl⟩
      obtain ⟨y7, y8, y9, ya, yb, yc, b', q⟩ := turn_ok hS hl hN (some (.scr (ns.map .int))) (some (.cell 1)) (some d) x7 x8 x9 xa xb xc xk b
      have htk : (enc b' :: ν).take 4 = enc b' :: ν := List.take_of_length_le (by rw [List.length_cons, ln]; decide)
      refine ⟨_, rfl, _, _, q, ?_, ⟨tr4 (some d), tr4 y7, tr4 y8, tr4 y9, tr4 ya, tr4 yb, tr4 yc, tr4 xk, ?_⟩, b', htk⟩
      case refine_2 =>
        show [tr4 (some (.scr (ns.map .int))), tr4 (some (.cell 0)), tr4 (some (ptsD S)), tr4 (some (ptsD S)), tr4 (some (ptsD (rounded S))), tr4 (some (.cell 1)), tr4 (some d), tr4 y7, tr4 y8, tr4 y9, tr4 ya, tr4 yb, tr4 yc, tr4 xk] = _
        have h1 : tr4 (some (.scr (ns.map .int))) = some (.scr (ns.map .int)) := if_pos ls
        have h2 : ∀ l, tr4 (some (ptsD l)) = some (ptsD l) := fun l => if_pos low_ptsD
        rw [h1, h2, h2]
        rfl
      case refine_1 =>
        unfold trimOk
        rw [htk]
        have h1 : (enc b' :: ν).all (CO.low 4) = true := lowS_all (fun c hc => by
          rcases List.mem_cons.mp hc with e | e
          · exact low1 (b := b') c (by rw [e]; exact List.mem_cons_self)
          · exact lw c e) 4
        rw [h1, List.length_cons, ln]
        rfl) 9 0 (ev (some (.scr (ns.map .int))) (some (ptsD S)) (some (ptsD S)) (some (ptsD (rounded S))) (some (.cell 1)) none none none none none none none none) (enc b3 :: ν) rfl (Nat.zero_le _) ⟨⟨_, _, _, _, _, _, _, _, rfl⟩, b3, rfl⟩
    subst hρ hμ
    refine ⟨x7, x8, x9, xa, xb, xc, xk, x6, b', ?_⟩
    have r8 : rngOf1 [.int 8] = some (.fix ((List.range 8).map fun (i : Nat) => DV.int (i : Int))) := rng_n (n := 8) (by decide)
    have hl4 : (enc b3 :: ν).length = 4 := by rw [List.length_cons, ln]
    have el' : R.forT (.ok (.fix ((List.range 8).map fun (i : Nat) => DV.int (i : Int))) (enc b3 :: ν)) (gN 6) A10b (ev (some (.scr (ns.map .int))) (some (ptsD S)) (some (ptsD S)) (some (ptsD (rounded S))) (some (.cell 1)) none none none none none none none none) = .nx (ev (some (.scr (ns.map .int))) (some (ptsD S)) (some (ptsD S)) (some (ptsD (rounded S))) (some (.cell 1)) x6 x7 x8 x9 xa xb xc xk) (enc b' :: ν) := by
      rw [forT_fix, hl4]
      exact el
    unfold A10
    rw [sForT_ap, iRng1_ap, aCons_ap, eC_ap, ac1_ok, aNil_ap, ac2_ok, rg1_ok, r8, of_some, el']
  obtain ⟨x7, x8, x9, xa, xb, xc, xk, x6, b', e10⟩ := e10
  have e11 : A11 (ev (some (.scr (ns.map .int))) (some (ptsD S)) (some (ptsD S)) (some (ptsD (rounded S))) (some (.cell 1)) x6 x7 x8 x9 xa xb xc xk) (enc b' :: ν) = .rt (.bl true) (enc b' :: ν) := by
    have := eq_pts (μ := enc b' :: ν) (l := S)
    unfold A11
    simp only [sRet_ap, eBin_ap, eVar_ap, List.getElem?_cons_succ, List.getElem?_cons_zero, bin1_ok, bin2_ok, this, of_some, ret_ok]
  have hf : SR.fin .fz 0 (.rt (.bl true) (enc b' :: ν)) = .ok (.bl true) [] := rfl
  rw [sSeq_ap, e1, seq_nx, sSeq_ap, e2, seq_nx, sSeq_ap, e3, seq_nx, sSeq_ap, e4, seq_nx, sSeq_ap, e5, seq_nx, sSeq_ap, e6, seq_nx, sSeq_ap, e7, seq_nx, sSeq_ap, e8, seq_nx, sSeq_ap, e9, seq_nx, sSeq_ap, e10, seq_nx, e11]
  exact hf
end Lw

set_option Elab.async false
set_option linter.all false
set_option maxRecDepth 100000
set_option maxHeartbeats 4000000
namespace Lw
open PySem PySem.Spec PyProof.Rows L2 SD
def loose0 : List Str := ["__name__", "LotError", "Missing", "InvalidDirection", "STEEPEST", "is_whole", "is_number", "is_pair", "divisor", "is_direction", "cross", "turned_half", "reduced", "half_of", "is_ahead", "merged", "in_round", "next_in_round", "_law_box", "_law_take", "_law_pick", "_law_same", "_law_fields", "_law_got", "_law_odd", "_law_gcd", "_law_dir", "_law_cross", "_law_is_whole", "_law_is_dir"]
def loose1 : List Str := ["_law_ahead", "_law_round", "_law_reduced_due", "_law_pair"]
def loose : List Str := loose0 ++ loose1
abbrev R0 : PySem.W.OpenRow := PySem.W.OpenLaw.row PySem.Challenge.rw_stucklots_k02_rounds_told
abbrev hk : PySem.W.Hook := He.hookX 6 fa fn [] tfX (allX csX)
def ob (s : PySem.W.SharedT) : He.AlX := He.obsX 6 fa fn [] tfX (allX csX) (HandSHeadRun.getT s)
theorem ob_eq (s : PySem.W.SharedT) : ob s = hk.obs s.abs := He.obsX_eq (HandSHeadRun.getT_eq s)
theorem run (w : World) : HandSHeadRun.RunEq R0 (PySem.W.view R0.prog [37]) hk ob 4000 loose w := by
  intro os
  kernel_rfl
theorem lawAt {w : World} {K : PySem.W.Frag} {h : Heap} {mg : Str → Option Value} {f : Addr} (X : K.In h) (G : h.Ns mainGlobals mg) (hfa : mg ("law" : Str) = some (.ref f)) (c : He.SaysX fa fn [] tfX (allX csX) w h K) :
    LamX.LawAtS PySem.Challenge.rw_stucklots_k02_rounds_told w K (L2.CX PySem.Challenge.rw_stucklots_k02_rounds_told.prog w) 8 63 "script" mg f h := by
  have T : Hx fa fn csX K mg := ⟨⟨h, X, G, c.t.d⟩, c.more⟩
  have e := hfa.symm.trans (T.glo 44)
  cases e
  obtain ⟨fd, F⟩ := fd_law T
  have b := FunD.bindsA (ps := ["script"]) F fun _ _ _ _ _ _ us hl => match us, hl with | [_], _ => rfl
  exact law_atS (g := gK K) (F := f_law) X c rfl rfl (fun s v => b s [v] rfl) plain fun base _ _ TBs => gf_okC (p := ("law", none)) F sc_law (fb_law T TBs)
end Lw
open PySem PySem.W PySem.Calls PyProof.Rows
set_option maxRecDepth 100000 in
set_option maxHeartbeats 0 in
theorem PySem.Challenge.cw_stucklots_k02_rounds_told_holds : PySem.Challenge.rw_stucklots_k02_rounds_told.Holds := by
  w_on; o_law
  refine HandSHeadRun.head_any (r := OpenLaw.row PySem.Challenge.rw_stucklots_k02_rounds_told) (q := view (OpenLaw.row PySem.Challenge.rw_stucklots_k02_rounds_told).prog [37]) (H := Lw.hk) (ob := Lw.ob) (M := 4000) (loose := Lw.loose) (d := HandSHeadRun.topDef (OpenLaw.row PySem.Challenge.rw_stucklots_k02_rounds_told).prog 37) (kwd := []) Lw.ob_eq
    (by kernel_rfl) (fun s => by kernel_rfl) Lw.run (by kernel_rfl) (by kernel_rfl) (by kernel_rfl) (by rfl) (by first | assumption | decide +kernel) (by decide +kernel) ⟨rfl, rfl, rfl, rfl, rfl, by decide +kernel⟩ ?hw ?hc
  case hw => w_witness2
  case hc =>
    refine LamX.walk_ofTsE (l := PySem.Challenge.rw_stucklots_k02_rounds_told) (n := 63) (k := 8) (x := "script") (CX := fun w => L2.CX PySem.Challenge.rw_stucklots_k02_rounds_told.prog w) rfl (by decide) (by kernel_rfl) ⟨rfl, by decide, by decide⟩ ?F (fun _ _ _ _ _ z => SD.noCX z)
    intro w mg fa h Y G hmg0
    obtain ⟨K, KX, c⟩ := Y
    have hmg : mg ("law" : PySem.Str) = some (.ref fa) := by
      have e : (HandSHeadRun.topDef (OpenLaw.row PySem.Challenge.rw_stucklots_k02_rounds_told).prog 37).name = ("law" : PySem.Str) := by kernel_rfl
      rw [← e]
      exact hmg0
    exact ⟨K, KX, Lw.lawAt KX G hmg c⟩
