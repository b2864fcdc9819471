import PyProof.Rows.All
import Wide.All
import OpenK.AllK
import Wide.FinOn
import HandS.ForMost
import HandS.Exc
import HandS.WordsExc
import HandS.IsInst
import HandS.Lambda
import HandS.TupAny
import HandS.More
import HandS.Strs
import HandS.CallSlots
import HandS.Defaults
import HandS.Deep
import HandS.Wide
import HandS.StrMore
import HandS.DictComp
import HandS.Conv
import HandS.Head0
import HandS.Head1
import HandS.Head2
import HandS.HeadEnd
import HandS.HeadHook1
import HandS.HeadHook2
import HandS.Style
import HandS.SortInts
import HandS.NoneIn
import KE.KUnpackStar
import HandS.ExcValue
import HandS.ExcInit
import HandS.ExcField
import HandS.HotCalls
import HandS.TryMany
import HandS.HeadWalk
import HandS.HeadHook4
import HandS.TupSets
import HandS.SetBool
import HandS.SortRule
import HandS.Star
import HandS.Property
import HandS.MakeKw
import PyProof.InstSpecial
import PyProof.InstEq
import PyProof.InstNe
import HandS.ClsMeth
import HandS.FStr
import HandS.Iter
import HandS.MakeKwOnly
import KE.GoesEnum
import PyProof.EnumMake
import HandS.Zip
import HandS.ExcSuper
import HandS.SlotsOwn
import PySem.Challenge.RW_stucklots_k21_whole_arcs_joined_and_cove
set_option Elab.async false
set_option linter.all false
set_option maxRecDepth 100000
set_option maxHeartbeats 4000000
namespace SD
open PySem PySem.Spec PyProof.Rows L2

/-- built-in types -/
inductive T7 where | non | bl | int | str | tup | lst | dct
  deriving DecidableEq, Inhabited
def T7.name : T7 → String
  | .non => "NoneType" | .bl => "bool" | .int => "int" | .str => "str" | .tup => "tuple" | .lst => "list" | .dct => "dict"
/-- deep data -/
inductive DV where
  | non | bl (b : Bool) | int (i : Int) | str (x : Str)
  | tup (xs : List DV) | lst (xs : List DV) | scr (xs : List DV)
  | dct (ks : List Key) (xs : List DV)
  | cell (i : Nat)
  | obj (c : Nat) (ns : List Str) (xs : List DV)
  | gl (n : Nat) | ty (t : T7)
  | exn (c : Nat) (ns : List Str) (xs : List DV)
  deriving Inhabited

/-- what lives in the store -/
inductive CO where
  | dead
  | lst (xs : List DV)
  | ins (c : Nat) (ns : List Str) (xs : List DV)
  | dct (ks : List Key) (xs : List DV)
  deriving Inhabited
abbrev Sto := List CO
/-- the cells' addresses; those of hidden lists that a comprehension is filling -/
structure KA where
  cs : List (Option Addr)
  gh : List Addr
def KA.has (κ : KA) (a : Addr) : Prop := some a ∈ κ.cs ∨ a ∈ κ.gh

/-- the written part, the addresses of classes and defs by number -/
structure Gc where
  K : PySem.W.Frag
  cls : Nat → Addr
  /-- the tables of code objects, the name that all of a table's bear -/
  T : List (Addr × Str)
  /-- the exception that is handled, its dict, its class -/
  ex : Option (Addr × Addr × Nat)

/-- o stands at a, and a is no cell -/
def At (κ : KA) (H : Hp) (a : Addr) (o : HO) : Prop := H a = some o ∧ ¬ κ.has a
def FrL (g : Gc) (κ : KA) (H : Hp) (a : Addr) (vs : List V) : Prop :=
  At κ H a (.lst vs) ∨ (∃ ob, At κ H a (.frz ob (.lst vs))) ∨
    ∃ (o : Obj) (its : Array Value) (n : Nat), g.K.lookup a = some o ∧ o.cls = .type "list" ∧ o.dict = none ∧ o.data = .seq its n ∧ its.size ≤ sizeLine ∧ Vals vs its.toList
def FrT (g : Gc) (κ : KA) (H : Hp) (a : Addr) (vs : List V) : Prop :=
  (∃ ob : Obj, ob.dict = none ∧ At κ H a (.frz ob (.tup vs))) ∨
    ∃ (o : Obj) (its : Array Value) (n : Nat), g.K.lookup a = some o ∧ o.cls = .type "tuple" ∧ o.dict = none ∧ o.data = .seq its n ∧ its.size ≤ sizeLine ∧ Vals vs its.toList
theorem FrL.sq {g : Gc} {κ : KA} {H : Hp} {a : Addr} {vs : List V} (h : FrL g κ H a vs) : SqL g.K H a vs := by
  rcases h with h | ⟨ob, h⟩ | h
  · exact .inl (.inl h.1)
  · exact .inl (.inr ⟨ob, h.1⟩)
  · exact .inr h
theorem FrT.sq {g : Gc} {κ : KA} {H : Hp} {a : Addr} {vs : List V} (h : FrT g κ H a vs) : SqT g.K H a vs := by
  rcases h with ⟨ob, _, h⟩ | ⟨o, its, n, h1, h2, _, h3⟩
  · exact .inl (.inr ⟨ob, h.1⟩)
  · exact .inr ⟨o, its, n, h1, h2, h3⟩

mutual
/-- the value v stands for the data d -/
def Rel (g : Gc) (κ : KA) (H : Hp) : DV → V → Prop
  | .non, v => v = .non
  | .bl b, v => v = .bl b
  | .int i, v => v = .int i
  | .str x, v => v = .str x
  | .ty t, v => v = .ty t.name
  | .gl n, v => v = .ref (g.cls n)
  | .tup xs, v => ∃ a vs, v = .ref a ∧ FrT g κ H a vs ∧ RelL g κ H xs vs
  | .lst xs, v => ∃ a vs, v = .ref a ∧ At κ H a (.lst vs) ∧ RelL g κ H xs vs
  | .scr xs, v => ∃ a vs, v = .ref a ∧ FrL g κ H a vs ∧ RelL g κ H xs vs
  | .dct ks xs, v => ∃ a vs, v = .ref a ∧ At κ H a (.dK (ks.zip vs)) ∧ ks.length = vs.length ∧ RelL g κ H xs vs
  | .cell i, v => i < κ.cs.length ∧ ∀ a, κ.cs[i]? = some (some a) → v = .ref a
  | .obj c ns xs, v => ∃ a dx vs, v = .ref a ∧ At κ H a (.ins (g.cls c) dx (ns.zip vs)) ∧ ns.length = vs.length ∧ RelL g κ H xs vs
  | .exn c ns xs, v => ∃ a d vs, g.ex = some (a, d, c) ∧ v = .ref a ∧ At κ H d (.xd (ns.zip vs)) ∧ ns.length = vs.length ∧ RelL g κ H xs vs
def RelL (g : Gc) (κ : KA) (H : Hp) : List DV → List V → Prop
  | [], vs => vs = []
  | x :: xs, vs => ∃ v r, vs = v :: r ∧ Rel g κ H x v ∧ RelL g κ H xs r
end

/-- a cell's content -/
def RelC (g : Gc) (κ : KA) (H : Hp) : CO → Option Addr → Prop
  | .dead, a => a = none
  | .lst xs, a => ∃ p vs, a = some p ∧ H p = some (.lst vs) ∧ RelL g κ H xs vs
  | .ins c ns xs, a => ∃ p dx vs, a = some p ∧ H p = some (.ins (g.cls c) dx (ns.zip vs)) ∧ ns.length = vs.length ∧ RelL g κ H xs vs
  | .dct ks xs, a => ∃ p vs, a = some p ∧ H p = some (.dK (ks.zip vs)) ∧ ks.length = vs.length ∧ RelL g κ H xs vs

/-- a table of code objects: all of the name q -/
def TabK (κ : KA) (H : Hp) (P : Addr) (q : Str) : Prop := ∃ ps : Array Value, H P = some (.tbl ps) ∧ TriplesOk ps.toList ∧ ∀ (pos : Pos) (cv : Value), codeAmong pos ps.toList = some cv → ∃ c, cv = .ref c ∧ At κ H c (LamX.CodeO c q)
theorem TabK.move {κ κ' : KA} {H H' : Hp} {P : Addr} {q : Str} (t : TabK κ H P q) (hP : H' P = H P) (h : ∀ c, At κ H c (LamX.CodeO c q) → At κ' H' c (LamX.CodeO c q)) : TabK κ' H' P q := by
  obtain ⟨ps, h1, h2, h3⟩ := t
  refine ⟨ps, hP.trans h1, h2, fun pos cv hc => ?_⟩
  obtain ⟨c, e1, e2⟩ := h3 pos cv hc
  exact ⟨c, e1, h c e2⟩
theorem TabK.tbl {κ : KA} {H : Hp} {P : Addr} {q : Str} (t : TabK κ H P q) : ∃ ps, H P = some (.tbl ps) := let ⟨ps, h, _⟩ := t; ⟨ps, h⟩
def NoTbl (H : Hp) (a : Addr) : Prop := ∀ ps, H a ≠ some (.tbl ps)
structure StoOk (g : Gc) (κ : KA) (H : Hp) (μ : Sto) : Prop where
  len : κ.cs.length = μ.length
  inj : ∀ (i j : Nat) (a : Addr), κ.cs[i]? = some (some a) → κ.cs[j]? = some (some a) → i = j
  at_ : ∀ (i : Nat) (c : CO), μ[i]? = some c → ∃ a, κ.cs[i]? = some a ∧ RelC g κ H c a
  gst : ∀ a ∈ κ.gh, (∃ o, H a = some o) ∧ some a ∉ κ.cs
  tbs : ∀ p ∈ g.T, p.1 ∈ κ.gh ∧ TabK κ H p.1 p.2

/-- what may have come to pass: what is frozen stays, cells may die, new ones may come -/
structure Ext0 (κ : KA) (H : Hp) (κ' : KA) (H' : Hp) : Prop where
  keep : ∀ a o, H a = some o → ¬ κ.has a → H' a = some o
  sep : ∀ a o, H a = some o → ¬ κ.has a → ¬ κ'.has a
  len : κ.cs.length ≤ κ'.cs.length
  old : ∀ (i : Nat) (a : Addr), i < κ.cs.length → κ'.cs[i]? = some (some a) → κ.cs[i]? = some (some a)
structure Ext (κ : KA) (H : Hp) (κ' : KA) (H' : Hp) : Prop extends Ext0 κ H κ' H' where
  ghs : κ'.gh = κ.gh
  ghv : ∀ a ∈ κ.gh, NoTbl H a → H' a = H a

theorem Ext.refl {κ : KA} {H : Hp} : Ext κ H κ H := ⟨⟨fun _ _ h _ => h, fun _ _ _ h => h, Nat.le_refl _, fun _ _ _ h => h⟩, rfl, fun _ _ _ => rfl⟩
theorem Ext0.trans {κ κ1 κ2 : KA} {H H1 H2 : Hp} (a : Ext0 κ H κ1 H1) (b : Ext0 κ1 H1 κ2 H2) : Ext0 κ H κ2 H2 where
  keep := fun x o h n => b.keep x o (a.keep x o h n) (a.sep x o h n)
  sep := fun x o h n => b.sep x o (a.keep x o h n) (a.sep x o h n)
  len := Nat.le_trans a.len b.len
  old := fun i x h e => a.old i x h (b.old i x (Nat.lt_of_lt_of_le h a.len) e)
theorem Ext.trans {κ κ1 κ2 : KA} {H H1 H2 : Hp} (a : Ext κ H κ1 H1) (b : Ext κ1 H1 κ2 H2) : Ext κ H κ2 H2 :=
  ⟨a.toExt0.trans b.toExt0, b.ghs.trans a.ghs, fun x hx n => (b.ghv x (by rw [a.ghs]; exact hx) (fun ps => by rw [a.ghv x hx n]; exact n ps)).trans (a.ghv x hx n)⟩
theorem Ext0.at {κ κ1 : KA} {H H1 : Hp} (e : Ext0 κ H κ1 H1) {a : Addr} {o : HO} (h : At κ H a o) : At κ1 H1 a o := ⟨e.keep a o h.1 h.2, e.sep a o h.1 h.2⟩
theorem FrL.ext0 {g : Gc} {κ κ1 : KA} {H H1 : Hp} {a : Addr} {vs : List V} (e : Ext0 κ H κ1 H1) (h : FrL g κ H a vs) : FrL g κ1 H1 a vs := by
  rcases h with h | ⟨ob, h⟩ | h
  · exact .inl (e.at h)
  · exact .inr (.inl ⟨ob, e.at h⟩)
  · exact .inr (.inr h)
theorem FrT.ext0 {g : Gc} {κ κ1 : KA} {H H1 : Hp} {a : Addr} {vs : List V} (e : Ext0 κ H κ1 H1) (h : FrT g κ H a vs) : FrT g κ1 H1 a vs := by
  rcases h with ⟨ob, d, h⟩ | h
  · exact .inl ⟨ob, d, e.at h⟩
  · exact .inr h

section
variable {g : Gc} {κ κ1 : KA} {H H1 : Hp}
mutual
theorem Rel.ext0 (e : Ext0 κ H κ1 H1) : ∀ {d : DV} {v : V}, Rel g κ H d v → Rel g κ1 H1 d v
  | .non, _, h => by simpa only [Rel] using h
  | .bl _, _, h => by simpa only [Rel] using h
  | .int _, _, h => by simpa only [Rel] using h
  | .str _, _, h => by simpa only [Rel] using h
  | .ty _, _, h => by simpa only [Rel] using h
  | .gl _, _, h => by simpa only [Rel] using h
  | .tup xs, v, h => by
    simp only [Rel] at h ⊢
    obtain ⟨a, vs, h1, h2, h3⟩ := h
    exact ⟨a, vs, h1, h2.ext0 e, RelL.ext0 e h3⟩
  | .lst xs, v, h => by
    simp only [Rel] at h ⊢
    obtain ⟨a, vs, h1, h2, h3⟩ := h
    exact ⟨a, vs, h1, e.at h2, RelL.ext0 e h3⟩
  | .scr xs, v, h => by
    simp only [Rel] at h ⊢
    obtain ⟨a, vs, h1, h2, h3⟩ := h
    exact ⟨a, vs, h1, h2.ext0 e, RelL.ext0 e h3⟩
  | .dct ks xs, v, h => by
    simp only [Rel] at h ⊢
    obtain ⟨a, vs, h1, h2, hl, h3⟩ := h
    exact ⟨a, vs, h1, e.at h2, hl, RelL.ext0 e h3⟩
  | .cell i, v, h => by
    simp only [Rel] at h ⊢
    exact ⟨Nat.lt_of_lt_of_le h.1 e.len, fun a ha => h.2 a (e.old i a h.1 ha)⟩
  | .obj c ns xs, v, h => by
    simp only [Rel] at h ⊢
    obtain ⟨a, dx, vs, h1, h2, hl, h3⟩ := h
    exact ⟨a, dx, vs, h1, e.at h2, hl, RelL.ext0 e h3⟩
  | .exn c ns xs, v, h => by
    simp only [Rel] at h ⊢
    obtain ⟨a, d, vs, h0, h1, h2, hl, h3⟩ := h
    exact ⟨a, d, vs, h0, h1, e.at h2, hl, RelL.ext0 e h3⟩
theorem RelL.ext0 (e : Ext0 κ H κ1 H1) : ∀ {xs : List DV} {vs : List V}, RelL g κ H xs vs → RelL g κ1 H1 xs vs
  | [], _, h => by simpa only [RelL] using h
  | x :: xs, vs, h => by
    simp only [RelL] at h ⊢
    obtain ⟨v, r, h1, h2, h3⟩ := h
    exact ⟨v, r, h1, Rel.ext0 e h2, RelL.ext0 e h3⟩
end
end
theorem FrL.ext {g : Gc} {κ κ1 : KA} {H H1 : Hp} {a : Addr} {vs : List V} (e : Ext κ H κ1 H1) (h : FrL g κ H a vs) : FrL g κ1 H1 a vs := h.ext0 e.toExt0
theorem FrT.ext {g : Gc} {κ κ1 : KA} {H H1 : Hp} {a : Addr} {vs : List V} (e : Ext κ H κ1 H1) (h : FrT g κ H a vs) : FrT g κ1 H1 a vs := h.ext0 e.toExt0
theorem Rel.ext {g : Gc} {κ κ1 : KA} {H H1 : Hp} {d : DV} {v : V} (e : Ext κ H κ1 H1) (h : Rel g κ H d v) : Rel g κ1 H1 d v := h.ext0 e.toExt0
theorem RelL.ext {g : Gc} {κ κ1 : KA} {H H1 : Hp} {d : List DV} {v : List V} (e : Ext κ H κ1 H1) (h : RelL g κ H d v) : RelL g κ1 H1 d v := h.ext0 e.toExt0
theorem RelL.length {g : Gc} {κ : KA} {H : Hp} : ∀ {xs : List DV} {vs : List V}, RelL g κ H xs vs → xs.length = vs.length
  | [], _, h => by simp only [RelL] at h; subst h; rfl
  | x :: xs, vs, h => by
    simp only [RelL] at h
    obtain ⟨v, r, h1, h2, h3⟩ := h
    subst h1
    simp [RelL.length h3]
theorem RelL.cons {g : Gc} {κ : KA} {H : Hp} {x : DV} {xs : List DV} {v : V} {vs : List V} (a : Rel g κ H x v) (b : RelL g κ H xs vs) : RelL g κ H (x :: xs) (v :: vs) := by
  simp only [RelL]; exact ⟨v, vs, rfl, a, b⟩
theorem RelL.nil {g : Gc} {κ : KA} {H : Hp} : RelL g κ H [] [] := by simp only [RelL]
theorem RelL.of_cons {g : Gc} {κ : KA} {H : Hp} {x : DV} {xs : List DV} {vs : List V} (h : RelL g κ H (x :: xs) vs) : ∃ v r, vs = v :: r ∧ Rel g κ H x v ∧ RelL g κ H xs r := by
  simpa only [RelL] using h
theorem RelL.of_nil {g : Gc} {κ : KA} {H : Hp} {vs : List V} (h : RelL g κ H [] vs) : vs = [] := by simpa only [RelL] using h
theorem RelL.append {g : Gc} {κ : KA} {H : Hp} : ∀ {xs ys : List DV} {vs ws : List V}, RelL g κ H xs vs → RelL g κ H ys ws → RelL g κ H (xs ++ ys) (vs ++ ws)
  | [], _, _, _, a, b => by cases a.of_nil; exact b
  | x :: xs, _, _, _, a, b => by
    obtain ⟨v, r, rfl, h1, h2⟩ := a.of_cons
    exact (RelL.cons h1 (RelL.append h2 b))
theorem RelL.get {g : Gc} {κ : KA} {H : Hp} : ∀ {xs : List DV} {vs : List V} {i : Nat} {d : DV}, RelL g κ H xs vs → xs[i]? = some d → ∃ v, vs[i]? = some v ∧ Rel g κ H d v
  | [], _, _, _, _, e => by simp at e
  | x :: xs, _, 0, d, a, e => by
    obtain ⟨v, r, rfl, h1, h2⟩ := a.of_cons
    simp at e; subst e; exact ⟨v, rfl, h1⟩
  | x :: xs, _, i + 1, d, a, e => by
    obtain ⟨v, r, rfl, h1, h2⟩ := a.of_cons
    obtain ⟨w, h3, h4⟩ := RelL.get (i := i) h2 (by simpa using e)
    exact ⟨w, by simpa using h3, h4⟩
theorem RelL.set {g : Gc} {κ : KA} {H : Hp} {d : DV} {v : V} (r : Rel g κ H d v) : ∀ {xs : List DV} {vs : List V} (i : Nat), RelL g κ H xs vs → RelL g κ H (xs.set i d) (vs.set i v)
  | [], _, _, a => by cases a.of_nil; exact a
  | x :: xs, _, 0, a => by
    obtain ⟨v', r', rfl, h1, h2⟩ := a.of_cons
    exact RelL.cons r h2
  | x :: xs, _, i + 1, a => by
    obtain ⟨v', r', rfl, h1, h2⟩ := a.of_cons
    exact RelL.cons h1 (RelL.set r i h2)
theorem RelL.take {g : Gc} {κ : KA} {H : Hp} : ∀ {xs : List DV} {vs : List V} (n : Nat), RelL g κ H xs vs → RelL g κ H (xs.take n) (vs.take n)
  | xs, vs, 0, a => by simp [RelL]
  | [], _, n + 1, a => by cases a.of_nil; simp [RelL]
  | x :: xs, _, n + 1, a => by
    obtain ⟨v', r', rfl, h1, h2⟩ := a.of_cons
    exact RelL.cons h1 (RelL.take n h2)
theorem RelL.drop {g : Gc} {κ : KA} {H : Hp} : ∀ {xs : List DV} {vs : List V} (n : Nat), RelL g κ H xs vs → RelL g κ H (xs.drop n) (vs.drop n)
  | xs, vs, 0, a => a
  | [], _, n + 1, a => by cases a.of_nil; simp [RelL]
  | x :: xs, _, n + 1, a => by
    obtain ⟨v', r', rfl, h1, h2⟩ := a.of_cons
    exact RelL.drop n h2
theorem RelL.ints {g : Gc} {κ : KA} {H : Hp} : ∀ (ns : List Int), RelL g κ H (ns.map DV.int) (ns.map V.int)
  | [] => RelL.nil
  | n :: ns => RelL.cons (by simp [Rel]) (RelL.ints ns)

theorem RelC.ext0 {g : Gc} {κ κ1 : KA} {H H1 : Hp} (e : Ext0 κ H κ1 H1) {c : CO} {a : Option Addr} (k : ∀ p, a = some p → H1 p = H p) (h : RelC g κ H c a) : RelC g κ1 H1 c a := by
  cases c with
  | dead => exact h
  | lst xs =>
    obtain ⟨p, vs, rfl, h1, h2⟩ := h
    exact ⟨p, vs, rfl, (k p rfl).trans h1, h2.ext0 e⟩
  | ins c ns xs =>
    obtain ⟨p, dx, vs, rfl, h1, hl, h2⟩ := h
    exact ⟨p, dx, vs, rfl, (k p rfl).trans h1, hl, h2.ext0 e⟩
  | dct ks xs =>
    obtain ⟨p, vs, rfl, h1, hl, h2⟩ := h
    exact ⟨p, vs, rfl, (k p rfl).trans h1, hl, h2.ext0 e⟩
/-- a live cell stands in H -/
theorem StoOk.live {g : Gc} {κ : KA} {H : Hp} {μ : Sto} (s : StoOk g κ H μ) {i : Nat} {p : Addr} (h : κ.cs[i]? = some (some p)) : ∃ o, H p = some o := by
  have hi : i < μ.length := by rw [← s.len]; exact (List.getElem?_eq_some_iff.mp h).1
  obtain ⟨a, h1, h2⟩ := s.at_ i _ (List.getElem?_eq_getElem hi)
  rw [h] at h1; cases h1
  revert h2
  cases μ[i] with
  | dead => intro h2; exact nomatch h2
  | lst xs => intro ⟨q, vs, e, h3, _⟩; cases e; exact ⟨_, h3⟩
  | ins c ns xs => intro ⟨q, dx, vs, e, h3, _⟩; cases e; exact ⟨_, h3⟩
  | dct ks xs => intro ⟨q, vs, e, h3, _⟩; cases e; exact ⟨_, h3⟩
theorem StoOk.fresh {g : Gc} {κ : KA} {H : Hp} {μ : Sto} (s : StoOk g κ H μ) {p : Addr} (h : H p = none) : ¬ κ.has p := fun m => by
  rcases m with m | m
  · obtain ⟨i, hi⟩ := List.getElem?_of_mem m
    obtain ⟨o, ho⟩ := s.live hi
    rw [h] at ho; cases ho
  · obtain ⟨⟨o, ho⟩, _⟩ := s.gst p m
    rw [h] at ho; cases ho

/-- a new object that is no cell -/
theorem Ext0.new {κ : KA} {H : Hp} {p : Addr} {o : HO} (h : H p = none) : Ext0 κ H κ (upd H p o) :=
  ⟨fun a o' ha _ => by rw [upd_ne (ne_of_none ha h)]; exact ha, fun _ _ _ n => n, Nat.le_refl _, fun _ _ _ e => e⟩
theorem Ext.new {g : Gc} {κ : KA} {H : Hp} {μ : Sto} {p : Addr} {o : HO} (s : StoOk g κ H μ) (h : H p = none) : Ext κ H κ (upd H p o) :=
  ⟨Ext0.new h, rfl, fun a ha _ => by obtain ⟨⟨u, hu⟩, _⟩ := s.gst a ha; exact upd_ne (ne_of_none hu h)⟩
theorem StoOk.new {g : Gc} {κ : KA} {H : Hp} {μ : Sto} {p : Addr} {o : HO} (s : StoOk g κ H μ) (h : H p = none) : StoOk g κ (upd H p o) μ :=
  ⟨s.len, s.inj, fun i c hc => by
    obtain ⟨a, h1, h2⟩ := s.at_ i c hc
    refine ⟨a, h1, h2.ext0 (Ext0.new h) fun q hq => ?_⟩
    subst hq
    obtain ⟨o', ho'⟩ := s.live h1
    exact upd_ne (ne_of_none ho' h), fun a ha => by
    obtain ⟨⟨u, hu⟩, hn⟩ := s.gst a ha
    exact ⟨⟨u, by rw [upd_ne (ne_of_none hu h)]; exact hu⟩, hn⟩, fun q hq => by
    obtain ⟨m, t⟩ := s.tbs q hq
    obtain ⟨ps, e⟩ := t.tbl
    exact ⟨m, t.move (upd_ne (ne_of_none e h)) fun c z => (Ext0.new h).at z⟩⟩
/-- a new cell -/
def KA.more (κ : KA) (p : Addr) : KA := ⟨κ.cs ++ [some p], κ.gh⟩
theorem Ext.newCell {g : Gc} {κ : KA} {H : Hp} {μ : Sto} {p : Addr} {o : HO} (s : StoOk g κ H μ) (h : H p = none) : Ext κ H (κ.more p) (upd H p o) where
  keep := fun a o' ha _ => by rw [upd_ne (ne_of_none ha h)]; exact ha
  sep := fun a o' ha n m => by
    rcases m with m | m
    · rcases List.mem_append.mp m with m | m
      · exact n (.inl m)
      · have : a = p := by simpa using m
        rw [this, h] at ha; cases ha
    · exact n (.inr m)
  len := by simp [KA.more]
  old := fun i a hi e => by
    have e : (κ.cs ++ [some p])[i]? = some (some a) := e
    rwa [List.getElem?_append_left hi] at e
  ghs := rfl
  ghv := fun a ha _ => by obtain ⟨⟨u, hu⟩, _⟩ := s.gst a ha; exact upd_ne (ne_of_none hu h)
theorem StoOk.newCell {g : Gc} {κ : KA} {H : Hp} {μ : Sto} {p : Addr} {o : HO} {c : CO} (s : StoOk g κ H μ) (h : H p = none) (hc : RelC g (κ.more p) (upd H p o) c (some p)) : StoOk g (κ.more p) (upd H p o) (μ ++ [c]) where
  len := by simp [KA.more, s.len]
  inj := fun i j a hi hj => by
    have key : ∀ (i : Nat), (κ.cs ++ [some p])[i]? = some (some a) → (i < κ.cs.length ∧ κ.cs[i]? = some (some a)) ∨ (i = κ.cs.length ∧ a = p) := fun i hi => by
      by_cases hl : i < κ.cs.length
      · rw [List.getElem?_append_left hl] at hi; exact .inl ⟨hl, hi⟩
      · rw [List.getElem?_append_right (by omega)] at hi
        have : i - κ.cs.length = 0 := by
          have := (List.getElem?_eq_some_iff.mp hi).1
          simp at this; omega
        rw [this] at hi
        have e : p = a := by simpa using hi
        exact .inr ⟨by omega, e.symm⟩
    have nk : ∀ i : Nat, κ.cs[i]? = some (some p) → False := fun i hi => s.fresh h (.inl (List.mem_of_getElem? hi))
    rcases key i hi with ⟨h1, h2⟩ | ⟨h1, h2⟩ <;> rcases key j hj with ⟨h3, h4⟩ | ⟨h3, h4⟩
    · exact s.inj i j a h2 h4
    · rw [h4] at h2; exact (nk _ h2).elim
    · rw [h2] at h4; exact (nk _ h4).elim
    · omega
  at_ := fun i c' hc' => by
    by_cases hl : i < μ.length
    · rw [List.getElem?_append_left hl] at hc'
      obtain ⟨a, h1, h2⟩ := s.at_ i c' hc'
      refine ⟨a, ?_, h2.ext0 (Ext.newCell s h).toExt0 fun q hq => ?_⟩
      · show (κ.cs ++ [some p])[i]? = some a
        rw [List.getElem?_append_left (by rw [s.len]; exact hl)]; exact h1
      · subst hq
        obtain ⟨o', ho'⟩ := s.live h1
        exact upd_ne (ne_of_none ho' h)
    · rw [List.getElem?_append_right (by omega)] at hc'
      have e0 : i - μ.length = 0 := by
        have := (List.getElem?_eq_some_iff.mp hc').1
        simp at this; omega
      rw [e0] at hc'
      have ec : c = c' := by simpa using hc'
      subst ec
      refine ⟨some p, ?_, hc⟩
      show (κ.cs ++ [some p])[i]? = some (some p)
      rw [List.getElem?_append_right (by rw [s.len]; omega), s.len, e0]; rfl
  gst := fun a ha => by
    obtain ⟨⟨u, hu⟩, hn⟩ := s.gst a ha
    refine ⟨⟨u, by rw [upd_ne (ne_of_none hu h)]; exact hu⟩, fun m => ?_⟩
    rcases List.mem_append.mp m with m | m
    · exact hn m
    · have : a = p := by simpa using m
      rw [this, h] at hu; cases hu
  tbs := fun q hq => by
    obtain ⟨m, t⟩ := s.tbs q hq
    obtain ⟨ps, e⟩ := t.tbl
    exact ⟨m, t.move (upd_ne (ne_of_none e h)) fun c z => (Ext.newCell s h).at z⟩
/-- a cell is written -/
theorem Ext0.write {κ : KA} {H : Hp} {p : Addr} {o : HO} (h : κ.has p) : Ext0 κ H κ (upd H p o) :=
  ⟨fun a o' ha n => by rw [upd_ne (fun e => n (by rw [e]; exact h))]; exact ha, fun _ _ _ n => n, Nat.le_refl _, fun _ _ _ e => e⟩
theorem Ext.write {g : Gc} {κ : KA} {H : Hp} {μ : Sto} {i : Nat} {p : Addr} {o : HO} (s : StoOk g κ H μ) (h : κ.cs[i]? = some (some p)) : Ext κ H κ (upd H p o) :=
  ⟨Ext0.write (.inl (List.mem_of_getElem? h)), rfl, fun a ha _ => upd_ne fun e => (s.gst a ha).2 (by rw [e]; exact List.mem_of_getElem? h)⟩
theorem StoOk.write {g : Gc} {κ : KA} {H : Hp} {μ : Sto} {i : Nat} {p : Addr} {o : HO} {c : CO} (s : StoOk g κ H μ) (h : κ.cs[i]? = some (some p)) (hc : RelC g κ (upd H p o) c (some p)) : StoOk g κ (upd H p o) (μ.set i c) :=
  ⟨by simp [s.len], s.inj, fun j c' hc' => by
    by_cases hj : j = i
    · subst hj
      have hl : j < μ.length := by rw [← s.len]; exact (List.getElem?_eq_some_iff.mp h).1
      rw [List.getElem?_set_self hl] at hc'
      cases hc'
      exact ⟨some p, h, hc⟩
    · rw [List.getElem?_set_ne (fun e => hj e.symm)] at hc'
      obtain ⟨a, h1, h2⟩ := s.at_ j c' hc'
      refine ⟨a, h1, h2.ext0 (Ext.write s h).toExt0 fun q hq => ?_⟩
      subst hq
      exact upd_ne fun e => hj (s.inj j i q h1 (by rw [e]; exact h)), fun a ha => by
    obtain ⟨⟨u, hu⟩, hn⟩ := s.gst a ha
    exact ⟨⟨u, by rw [upd_ne (fun e => hn (by rw [e]; exact List.mem_of_getElem? h))]; exact hu⟩, hn⟩, fun q hq => by
    obtain ⟨m, t⟩ := s.tbs q hq
    exact ⟨m, t.move (upd_ne fun e => (s.gst _ m).2 (by rw [e]; exact List.mem_of_getElem? h)) fun c z => (Ext.write s h).at z⟩⟩
/-- a hidden list comes, changes, is known at last -/
def KA.hide (κ : KA) (p : Addr) : KA := ⟨κ.cs, p :: κ.gh⟩
theorem Ext0.hide {κ : KA} {H : Hp} {p : Addr} {o : HO} (h : H p = none) : Ext0 κ H (κ.hide p) (upd H p o) where
  keep := fun a o' ha _ => by rw [upd_ne (ne_of_none ha h)]; exact ha
  sep := fun a o' ha n m => by
    rcases m with m | m
    · exact n (.inl m)
    · rcases List.mem_cons.mp m with m | m
      · rw [m, h] at ha; cases ha
      · exact n (.inr m)
  len := Nat.le_refl _
  old := fun _ _ _ e => e
theorem StoOk.hide {g : Gc} {κ : KA} {H : Hp} {μ : Sto} {p : Addr} {o : HO} (s : StoOk g κ H μ) (h : H p = none) : StoOk g (κ.hide p) (upd H p o) μ where
  len := s.len
  inj := s.inj
  at_ := fun i c hc => by
    obtain ⟨a, h1, h2⟩ := s.at_ i c hc
    refine ⟨a, h1, h2.ext0 (Ext0.hide h) fun q hq => ?_⟩
    subst hq
    obtain ⟨o', ho'⟩ := s.live h1
    exact upd_ne (ne_of_none ho' h)
  gst := fun a ha => by
    rcases List.mem_cons.mp ha with e | ha
    · subst e
      exact ⟨⟨o, upd_same⟩, fun m => s.fresh h (.inl m)⟩
    · obtain ⟨⟨u, hu⟩, hn⟩ := s.gst a ha
      exact ⟨⟨u, by rw [upd_ne (ne_of_none hu h)]; exact hu⟩, hn⟩
  tbs := fun q hq => by
    obtain ⟨m, t⟩ := s.tbs q hq
    obtain ⟨ps, e⟩ := t.tbl
    exact ⟨List.mem_cons_of_mem _ m, t.move (upd_ne (ne_of_none e h)) fun c z => (Ext0.hide h).at z⟩
theorem StoOk.fill {g : Gc} {κ : KA} {H : Hp} {μ : Sto} {p : Addr} {o : HO} (s : StoOk g κ H μ) (h : p ∈ κ.gh) (nt : NoTbl H p) : StoOk g κ (upd H p o) μ where
  len := s.len
  inj := s.inj
  at_ := fun i c hc => by
    obtain ⟨a, h1, h2⟩ := s.at_ i c hc
    refine ⟨a, h1, h2.ext0 (Ext0.write (.inr h)) fun q hq => ?_⟩
    subst hq
    exact upd_ne fun e => (s.gst p h).2 (by rw [← e]; exact List.mem_of_getElem? h1)
  gst := fun a ha => by
    obtain ⟨⟨u, hu⟩, hn⟩ := s.gst a ha
    by_cases e : a = p
    · subst e; exact ⟨⟨o, upd_same⟩, hn⟩
    · exact ⟨⟨u, by rw [upd_ne e]; exact hu⟩, hn⟩
  tbs := fun q hq => by
    obtain ⟨m, t⟩ := s.tbs q hq
    obtain ⟨ps, e⟩ := t.tbl
    exact ⟨m, t.move (upd_ne fun z => nt ps (by rw [← z]; exact e)) fun c z => (Ext0.write (.inr h)).at z⟩
theorem Ext0.show' {κ : KA} {H : Hp} {p : Addr} : Ext0 (κ.hide p) H κ H where
  keep := fun _ _ h _ => h
  sep := fun a o h n m => n (m.elim .inl fun m => .inr (List.mem_cons_of_mem _ m))
  len := Nat.le_refl _
  old := fun _ _ _ e => e
theorem StoOk.show' {g : Gc} {κ : KA} {H : Hp} {μ : Sto} {p : Addr} (s : StoOk g (κ.hide p) H μ) (nt : NoTbl H p) : StoOk g κ H μ where
  len := s.len
  inj := s.inj
  at_ := fun i c hc => by
    obtain ⟨a, h1, h2⟩ := s.at_ i c hc
    exact ⟨a, h1, h2.ext0 Ext0.show' fun _ _ => rfl⟩
  gst := fun a ha => s.gst a (List.mem_cons_of_mem _ ha)
  tbs := fun q hq => by
    obtain ⟨m, t⟩ := s.tbs q hq
    refine ⟨(List.mem_cons.mp m).resolve_left fun e => ?_, t.move rfl fun c z => Ext0.show'.at z⟩
    obtain ⟨ps, h⟩ := t.tbl
    exact nt ps (by rw [← e]; exact h)

mutual
def DV.low (n : Nat) : DV → Bool
  | .tup xs => lowL n xs
  | .lst xs => lowL n xs
  | .scr xs => lowL n xs
  | .dct _ xs => lowL n xs
  | .obj _ _ xs => lowL n xs
  | .exn _ _ xs => lowL n xs
  | .cell i => decide (i < n)
  | _ => true
def lowL (n : Nat) : List DV → Bool
  | [] => true
  | x :: xs => x.low n && lowL n xs
end
def CO.low (n : Nat) : CO → Bool
  | .dead => true
  | .lst xs => lowL n xs
  | .ins _ _ xs => lowL n xs
  | .dct _ xs => lowL n xs
mutual
theorem DV.low_mono {m n : Nat} (h : m ≤ n) : ∀ {d : DV}, d.low m = true → d.low n = true
  | .non, _ => rfl
  | .bl _, _ => rfl
  | .int _, _ => rfl
  | .str _, _ => rfl
  | .ty _, _ => rfl
  | .gl _, _ => rfl
  | .tup xs, e => by simp only [DV.low] at e ⊢; exact lowL_mono h e
  | .lst xs, e => by simp only [DV.low] at e ⊢; exact lowL_mono h e
  | .scr xs, e => by simp only [DV.low] at e ⊢; exact lowL_mono h e
  | .dct _ xs, e => by simp only [DV.low] at e ⊢; exact lowL_mono h e
  | .obj _ _ xs, e => by simp only [DV.low] at e ⊢; exact lowL_mono h e
  | .exn _ _ xs, e => by simp only [DV.low] at e ⊢; exact lowL_mono h e
  | .cell i, e => by simp only [DV.low, decide_eq_true_eq] at e ⊢; omega
theorem lowL_mono {m n : Nat} (h : m ≤ n) : ∀ {xs : List DV}, lowL m xs = true → lowL n xs = true
  | [], _ => rfl
  | x :: xs, e => by
    simp only [lowL, Bool.and_eq_true] at e ⊢
    exact ⟨DV.low_mono h e.1, lowL_mono h e.2⟩
end
section
variable {g : Gc} {κ : KA} {H : Hp} {n : Nat}
def KA.cut (κ : KA) (n : Nat) : KA := ⟨κ.cs.take n, κ.gh⟩
theorem mem_take_of {p : Addr} (h : ¬ κ.has p) : ¬ (κ.cut n).has p := fun m => h (m.elim (fun m => .inl (List.mem_of_mem_take m)) .inr)
theorem At.cut {a : Addr} {o : HO} (h : At κ H a o) : At (κ.cut n) H a o := ⟨h.1, mem_take_of h.2⟩
mutual
theorem Rel.cut (hn : n ≤ κ.cs.length) : ∀ {d : DV} {v : V}, Rel g κ H d v → d.low n = true → Rel g (κ.cut n) H d v
  | .non, _, h, _ => by simpa only [Rel] using h
  | .bl _, _, h, _ => by simpa only [Rel] using h
  | .int _, _, h, _ => by simpa only [Rel] using h
  | .str _, _, h, _ => by simpa only [Rel] using h
  | .ty _, _, h, _ => by simpa only [Rel] using h
  | .gl _, _, h, _ => by simpa only [Rel] using h
  | .tup xs, v, h, b => by
    simp only [Rel] at h ⊢
    simp only [DV.low] at b
    obtain ⟨a, vs, h1, h2, h3⟩ := h
    refine ⟨a, vs, h1, ?_, RelL.cut hn h3 b⟩
    rcases h2 with ⟨ob, d, h2⟩ | h2
    · exact .inl ⟨ob, d, h2.cut⟩
    · exact .inr h2
  | .lst xs, v, h, b => by
    simp only [Rel] at h ⊢
    simp only [DV.low] at b
    obtain ⟨a, vs, h1, h2, h3⟩ := h
    exact ⟨a, vs, h1, h2.cut, RelL.cut hn h3 b⟩
  | .scr xs, v, h, b => by
    simp only [Rel] at h ⊢
    simp only [DV.low] at b
    obtain ⟨a, vs, h1, h2, h3⟩ := h
    refine ⟨a, vs, h1, ?_, RelL.cut hn h3 b⟩
    rcases h2 with h2 | ⟨ob, h2⟩ | h2
    · exact .inl h2.cut
    · exact .inr (.inl ⟨ob, h2.cut⟩)
    · exact .inr (.inr h2)
  | .dct ks xs, v, h, b => by
    simp only [Rel] at h ⊢
    simp only [DV.low] at b
    obtain ⟨a, vs, h1, h2, hl, h3⟩ := h
    exact ⟨a, vs, h1, h2.cut, hl, RelL.cut hn h3 b⟩
  | .cell i, v, h, b => by
    simp only [Rel] at h ⊢
    simp only [DV.low, decide_eq_true_eq] at b
    refine ⟨by simp [KA.cut]; omega, fun a ha => h.2 a ?_⟩
    have ha : (κ.cs.take n)[i]? = some (some a) := ha
    rwa [List.getElem?_take_of_lt b] at ha
  | .obj c ns xs, v, h, b => by
    simp only [Rel] at h ⊢
    simp only [DV.low] at b
    obtain ⟨a, dx, vs, h1, h2, hl, h3⟩ := h
    exact ⟨a, dx, vs, h1, h2.cut, hl, RelL.cut hn h3 b⟩
  | .exn c ns xs, v, h, b => by
    simp only [Rel] at h ⊢
    simp only [DV.low] at b
    obtain ⟨a, d, vs, h0, h1, h2, hl, h3⟩ := h
    exact ⟨a, d, vs, h0, h1, h2.cut, hl, RelL.cut hn h3 b⟩
theorem RelL.cut (hn : n ≤ κ.cs.length) : ∀ {xs : List DV} {vs : List V}, RelL g κ H xs vs → lowL n xs = true → RelL g (κ.cut n) H xs vs
  | [], _, h, _ => by simpa only [RelL] using h
  | x :: xs, vs, h, b => by
    simp only [RelL] at h ⊢
    simp only [lowL, Bool.and_eq_true] at b
    obtain ⟨v, r, h1, h2, h3⟩ := h
    exact ⟨v, r, h1, Rel.cut hn h2 b.1, RelL.cut hn h3 b.2⟩
end
theorem Ext.cut {κ κ' : KA} {H H' : Hp} (e : Ext κ H κ' H') : Ext κ H (κ'.cut κ.cs.length) H' where
  keep := e.keep
  sep := fun a o h n => mem_take_of (e.sep a o h n)
  len := by have := e.len; simp [KA.cut]; omega
  old := fun i a hi h => e.old i a hi (by
    have h : (κ'.cs.take κ.cs.length)[i]? = some (some a) := h
    rwa [List.getElem?_take_of_lt hi] at h)
  ghs := e.ghs
  ghv := e.ghv
theorem StoOk.cut {μ : Sto} (s : StoOk g κ H μ) (hn : n ≤ κ.cs.length) (hb : ∀ c ∈ μ.take n, c.low n = true) : StoOk g (κ.cut n) H (μ.take n) where
  len := by simp [s.len, KA.cut]
  inj := fun i j a hi hj => by
    have hi : (κ.cs.take n)[i]? = some (some a) := hi
    have hj : (κ.cs.take n)[j]? = some (some a) := hj
    have hli := (List.getElem?_eq_some_iff.mp hi).1
    have hlj := (List.getElem?_eq_some_iff.mp hj).1
    rw [List.length_take] at hli hlj
    rw [List.getElem?_take_of_lt (by omega)] at hi hj
    exact s.inj i j a hi hj
  at_ := fun i c hc => by
    have hli := (List.getElem?_eq_some_iff.mp hc).1
    rw [List.length_take] at hli
    have hm := List.mem_of_getElem? hc
    rw [List.getElem?_take_of_lt (by omega)] at hc
    obtain ⟨a, h1, h2⟩ := s.at_ i c hc
    refine ⟨a, by show (κ.cs.take n)[i]? = some a; rw [List.getElem?_take_of_lt (by omega)]; exact h1, ?_⟩
    have b := hb c hm
    cases c with
    | dead => exact h2
    | lst xs =>
      obtain ⟨p, vs, rfl, h3, h4⟩ := h2
      exact ⟨p, vs, rfl, h3, h4.cut hn b⟩
    | ins c ns xs =>
      obtain ⟨p, dx, vs, rfl, h3, hl, h4⟩ := h2
      exact ⟨p, dx, vs, rfl, h3, hl, h4.cut hn b⟩
    | dct ks xs =>
      obtain ⟨p, vs, rfl, h3, hl, h4⟩ := h2
      exact ⟨p, vs, rfl, h3, hl, h4.cut hn b⟩
  gst := fun a ha => by
    obtain ⟨h1, h2⟩ := s.gst a ha
    exact ⟨h1, fun m => h2 (List.mem_of_mem_take m)⟩
  tbs := fun q hq => by
    obtain ⟨m, t⟩ := s.tbs q hq
    exact ⟨m, t.move rfl fun c z => z.cut⟩
end
end SD

set_option Elab.async false
set_option linter.all false
set_option maxRecDepth 100000
set_option maxHeartbeats 4000000
namespace L2
open PySem PySem.Spec PyProof.Rows
section
variable {X : Cx} {es : List Expr} {t : TA} {pos : Pos}
/-- (e, ..): a new tuple whose object is known -/
def tTupF (t : TA) : TE := fun σ H Q => t σ H fun xs H1 => xs.length ≤ sizeLine ∧ ∀ (p : Addr) (ob : Obj), H1 p = none → ob.dict = none → Q (.ref p) (upd H1 p (.frz ob (.tup xs)))
theorem pe_tupF {k : Nat} (h : PA X es t) : PE X (.Tuple es k pos) (tTupF t) := by
  refine ⟨fun pins s σ H Q I hq => wpAny_Tuple_spliced (thn (h.run pos pins s σ H _ I hq) fun us s1 z => ?_)⟩
  obtain ⟨xs, H1, I1, r, hz, q⟩ := z
  refine ⟨by rw [← r.length]; exact hz, ?_⟩
  have fr : H1 s1.heap.objs.size = none := I1.hok.fresh (Nat.le_refl _)
  have gt : (s1.heap.push { cls := .type "tuple", data := .seq us.toArray }).get? s1.heap.objs.size = some { cls := .type "tuple", data := .seq us.toArray } := Heap.get?_push_size _ rfl
  refine ⟨.ref s1.heap.objs.size, upd H1 s1.heap.objs.size (.frz { cls := .type "tuple", data := .seq us.toArray } (.tup xs)), I1.laid (t' := s1.toks) (fun b u e => Heap.get?_push_of_some _ e) (Nat.le_refl _) ?_, rfl, q _ _ fr rfl⟩
  exact ⟨gt, hz, us, r, _, gt, rfl, _, rfl⟩
/-- a new tuple laid, told in full -/
theorem Inv.tupF {pins : List (Addr × Obj)} {σ : St} {H : Hp} {s : Shared} {xs : List V} {us : List Value} {G : Heap} {tk : Nat} (I : Inv X pins σ H { s with heap := G }) (r : Vals xs us) (hz : xs.length ≤ sizeLine) :
    ∃ ob : Obj, ob.dict = none ∧ H G.objs.size = none ∧ Inv X pins σ (upd H G.objs.size (.frz ob (.tup xs))) { s with heap := G.push { cls := .type "tuple", data := .seq us.toArray }, toks := tk } := by
  have gt : (G.push { cls := .type "tuple", data := .seq us.toArray }).get? G.objs.size = some { cls := .type "tuple", data := .seq us.toArray } := Heap.get?_push_size _ rfl
  exact ⟨{ cls := .type "tuple", data := .seq us.toArray }, rfl, I.hok.fresh (Nat.le_refl _), I.laid (t' := tk) (fun b u e => Heap.get?_push_of_some _ e) (Nat.le_refl _) ⟨gt, hz, us, r, _, gt, rfl, _, rfl⟩⟩
/-- t[a:b], not the whole -/
theorem sl_tupF : SlR X (fun x lo hi H Q => ∃ (a : Addr) (xs : List V), x = .ref a ∧ SqT X.K H a xs ∧ ¬ (HT.sIx xs.length 0 lo = 0 ∧ HT.sIx xs.length xs.length hi = xs.length) ∧
    ∀ (p : Addr) (ob : Obj), H p = none → ob.dict = none → Q (.ref p) (upd H p (.frz ob (.tup (cutV xs lo hi))))) := by
  intro pins s σ H x v vl vu lo hi sl Q I rx hs pl pu h
  obtain ⟨a, xs, e, hx, hw, q⟩ := h
  subst e
  cases rx
  obtain ⟨its, r, ht, hz⟩ := I.tuple hx
  have hl : its.toArray.size = xs.length := (List.size_toArray).trans r.length.symm
  refine ⟨"tuple", _, PyProof.Rows.slot_tuple_getitem.lookup, ht.typeIs, HT.getItem_tuple_cut ht hs pl pu (by rw [hl]; exact hw) ?_ (by rw [hl]; exact hz)⟩
  rw [hl]
  obtain ⟨ob, d, n, J⟩ := Inv.tupF (tk := s.toks) (s := s) I ((r.drop (HT.sIx xs.length 0 lo)).take (HT.sIx xs.length xs.length hi - HT.sIx xs.length 0 lo)) (Nat.le_trans (cutV_length xs lo hi) hz)
  exact ⟨.ref s.heap.objs.size, _, J, rfl, q _ _ n d⟩
/-- t[a:b]; the whole of it is t itself -/
theorem sl_tupFA : SlR X (fun x lo hi H Q => ∃ (a : Addr) (xs : List V), x = .ref a ∧ SqT X.K H a xs ∧ (HT.sIx xs.length 0 lo = 0 ∧ HT.sIx xs.length xs.length hi = xs.length → Q (.ref a) H) ∧
    (¬ (HT.sIx xs.length 0 lo = 0 ∧ HT.sIx xs.length xs.length hi = xs.length) → ∀ (p : Addr) (ob : Obj), H p = none → ob.dict = none → Q (.ref p) (upd H p (.frz ob (.tup (cutV xs lo hi)))))) := by
  intro pins s σ H x v vl vu lo hi sl Q I rx hs pl pu h
  obtain ⟨a, xs, e, hx, q1, q2⟩ := h
  by_cases hw : HT.sIx xs.length 0 lo = 0 ∧ HT.sIx xs.length xs.length hi = xs.length
  · exact sl_tupA pins s σ H x v vl vu lo hi sl Q I rx hs pl pu ⟨a, xs, e, hx, q1, fun n => absurd hw n⟩
  · exact sl_tupF pins s σ H x v vl vu lo hi sl Q I rx hs pl pu ⟨a, xs, e, hx, hw, q2 hw⟩
/-- t + u -/
theorem op_catF : OpR X (binaryOp .Add) (fun x y H Q => ∃ (a b : Addr) (xs ys : List V), x = .ref a ∧ y = .ref b ∧ SqT X.K H a xs ∧ SqT X.K H b ys ∧ xs.length + ys.length ≤ sizeLine ∧ (xs = [] → Q (.ref b) H) ∧ (xs ≠ [] → ys = [] → Q (.ref a) H) ∧
    (xs ≠ [] → ys ≠ [] → ∀ (p : Addr) (ob : Obj), H p = none → ob.dict = none → Q (.ref p) (upd H p (.frz ob (.tup (xs ++ ys)))))) := by
  intro pins s σ H x y v u Q I rx ry h
  obtain ⟨a, b, xs, ys, e1, e2, ha, hb, hz, q0, q1, q2⟩ := h
  by_cases hx : xs = []
  · exact op_catA pins s σ H x y v u Q I rx ry ⟨a, b, xs, ys, e1, e2, ha, hb, hz, q0, q1, fun n => absurd hx n⟩
  · by_cases hy : ys = []
    · exact op_catA pins s σ H x y v u Q I rx ry ⟨a, b, xs, ys, e1, e2, ha, hb, hz, q0, q1, fun _ n => absurd hy n⟩
    · subst e1 e2
      cases rx
      cases ry
      obtain ⟨its, r1, p1, _⟩ := I.tuple ha
      obtain ⟨its2, r2, p2, _⟩ := I.tuple hb
      refine HT.cat_tup p1 p2 (fun z => hx (r1.nil_iff.mp z)) (fun z => absurd (r2.nil_iff.mp z) hy) (fun z => ?_) (by rw [← r1.length, ← r2.length]; exact hz)
      obtain ⟨ob, d, n, J⟩ := Inv.tupF (tk := s.toks) (s := s) I (r1.append r2) (by rw [List.length_append]; exact hz)
      exact ⟨.ref s.heap.objs.size, _, J, rfl, q2 hx hy _ _ n d⟩
/-- t.m(e, ..), t a tuple told in full -/
def TupF (K : PySem.W.Frag) (H : Hp) (a : Addr) (zs : List V) : Prop :=
  (∃ ob : Obj, ob.dict = none ∧ H a = some (.frz ob (.tup zs))) ∨
    ∃ (o : Obj) (its : Array Value) (n : Nat), K.lookup a = some o ∧ o.cls = .type "tuple" ∧ o.dict = none ∧ o.data = .seq its n ∧ its.size ≤ sizeLine ∧ Vals zs its.toList
/-- isinstance(x, t), t any tuple of classes -/
theorem call_isiS : CallR X (.builtin "isinstance") (fun xs H Q => ∃ (x : V) (tp : Addr) (cs : List V) (t : Value) (ws : List Value) (b : Bool), xs = [x, .ref tp] ∧ SqT X.K H tp cs ∧ Paired ClsV cs ws ∧ TyX X.K H x t ∧ PySem.W.kitAny X.K t ws = some b ∧ Q (.bl b) H) := by
  intro pins s σ H xs us Q I r h
  obtain ⟨x, tp, cs, t, ws, b, rfl, hT, k, ty, e, q⟩ := h
  obtain ⟨u1, u2, rfl, r1, r2⟩ := vals2 r
  cases (show u2 = Value.ref tp from r2)
  obtain ⟨P, Z, p, hx⟩ := kit_of I r1 ty
  obtain ⟨its, rv, ⟨o, h1, h2, n, h3⟩, _⟩ := I.tuple hT
  have e3 := ClsV.all k rv
  subst e3
  obtain ⟨oc, od, dt, sl⟩ := o
  simp only at h2 h3
  subst h2 h3
  exact PySem.W.kia_tup Z I.kIn p h1 e hx fun tk => ⟨.bl b, H, I.tok tk, rfl, q⟩
end
end L2

set_option Elab.async false
set_option linter.all false
set_option maxRecDepth 100000
set_option maxHeartbeats 4000000
namespace SD
open PySem PySem.Spec PyProof.Rows L2

inductive R (α : Type) where
  | ok (a : α) (μ : Sto)
  | ex (c : Nat) (ns : List Str) (xs : List DV) (μ : Sto)
  | stuck
def R.bind {α β : Type} (r : R α) (k : α → Sto → R β) : R β := match r with
  | .ok a μ => k a μ
  | .ex c ns xs μ => .ex c ns xs μ
  | .stuck => .stuck
def R.of {α : Type} (o : Option α) (μ : Sto) : R α := match o with
  | some a => .ok a μ
  | none => .stuck
def R.ofS {α : Type} (o : Option (α × Sto)) : R α := match o with
  | some (a, μ) => .ok a μ
  | none => .stuck
abbrev En := List (Option DV)
abbrev DE := En → Sto → R DV
abbrev DT := En → Sto → R Bool
abbrev DA := En → Sto → R (List DV)

/-- slots -/
structure RelE (g : Gc) (κ : KA) (H : Hp) (ρ : En) (σ : L2.St) : Prop where
  len : ρ.length = σ.length
  at_ : ∀ (i : Nat) (d : DV), ρ[i]? = some (some d) → ∃ v, σ[i]? = some (some v) ∧ Rel g κ H d v
theorem RelE.ext {g : Gc} {κ κ1 : KA} {H H1 : Hp} {ρ : En} {σ : L2.St} (e : Ext κ H κ1 H1) (h : RelE g κ H ρ σ) : RelE g κ1 H1 ρ σ := ⟨h.len, fun i d hd => by
  obtain ⟨v, h1, h2⟩ := h.at_ i d hd
  exact ⟨v, h1, h2.ext e⟩⟩
theorem RelE.set {g : Gc} {κ : KA} {H : Hp} {ρ : En} {σ : L2.St} {i : Nat} {d : DV} {v : V} (h : RelE g κ H ρ σ) (r : Rel g κ H d v) : RelE g κ H (ρ.set i (some d)) (σ.set i (some v)) := ⟨by simp [h.len], fun j e he => by
  by_cases hj : j = i
  · subst hj
    have hl : j < ρ.length := by have := (List.getElem?_eq_some_iff.mp he).1; simpa using this
    rw [List.getElem?_set_self hl] at he
    cases he
    exact ⟨v, by rw [List.getElem?_set_self (by rw [← h.len]; exact hl)], r⟩
  · rw [List.getElem?_set_ne (fun e => hj e.symm)] at he ⊢
    exact h.at_ j e he⟩
theorem RelE.unset {g : Gc} {κ : KA} {H : Hp} {ρ : En} {σ : L2.St} {i : Nat} (h : RelE g κ H ρ σ) : RelE g κ H (ρ.set i none) (σ.set i none) := ⟨by simp [h.len], fun j e he => by
  by_cases hj : j = i
  · subst hj
    have hl : j < ρ.length := by have := (List.getElem?_eq_some_iff.mp he).1; simpa using this
    rw [List.getElem?_set_self hl] at he
    cases he
  · rw [List.getElem?_set_ne (fun e => hj e.symm)] at he ⊢
    exact h.at_ j e he⟩

/-- what is wanted of a result -/
def wpR {α : Type} (g : Gc) (W : WX) (σ : L2.St) (κ : KA) (H : Hp) (r : R α) (Φ : α → Sto → KA → Hp → Prop) : Prop := match r with
  | .ok a μ' => ∀ κ' H', Ext κ H κ' H' → StoOk g κ' H' μ' → Φ a μ' κ' H'
  | .ex c ns xs μ' => ∀ κ' H', Ext κ H κ' H' → StoOk g κ' H' μ' → ∀ d vs, At κ' H' d (.xd (ns.zip vs)) → ns.length = vs.length → RelL g κ' H' xs vs → W (.ref (g.cls c)) (some d) σ H'
  | .stuck => False
section
variable {g : Gc} {W : WX} {σ : L2.St} {κ κ1 : KA} {H H1 : Hp}
theorem wpR.bind {α β : Type} {r : R α} {k : α → Sto → R β} {Φ : β → Sto → KA → Hp → Prop} (h : wpR g W σ κ H (r.bind k) Φ) :
    wpR g W σ κ H r (fun a μ' κ' H' => wpR g W σ κ' H' (k a μ') Φ) := by
  cases r with
  | ok a μ =>
    intro κ' H' e s
    have h : wpR g W σ κ H (k a μ) Φ := h
    show wpR g W σ κ' H' (k a μ) Φ
    revert h
    cases k a μ with
    | ok b μ2 => intro h κ2 H2 e2 s2; exact h κ2 H2 (e.trans e2) s2
    | ex c ns xs μ2 => intro h κ2 H2 e2 s2; exact h κ2 H2 (e.trans e2) s2
    | stuck => intro h; exact h
  | ex c ns xs μ => exact h
  | stuck => exact h
theorem wpR.mono {α : Type} {r : R α} {Φ Ψ : α → Sto → KA → Hp → Prop} (h : wpR g W σ κ H r Φ) (f : ∀ a μ' κ' H', Ext κ H κ' H' → StoOk g κ' H' μ' → Φ a μ' κ' H' → Ψ a μ' κ' H') : wpR g W σ κ H r Ψ := by
  cases r with
  | ok a μ => intro κ' H' e s; exact f a μ κ' H' e s (h κ' H' e s)
  | ex c ns xs μ => exact h
  | stuck => exact h
theorem wpR.ext {α : Type} {r : R α} {Φ : α → Sto → KA → Hp → Prop} (e : Ext κ H κ1 H1) (h : wpR g W σ κ H r Φ) : wpR g W σ κ1 H1 r Φ := by
  cases r with
  | ok a μ => intro κ2 H2 e2 s2; exact h κ2 H2 (e.trans e2) s2
  | ex c ns xs μ => intro κ2 H2 e2 s2; exact h κ2 H2 (e.trans e2) s2
  | stuck => exact h
end

/-- the readings -/
def tE (g : Gc) (W : WX) (f : DE) : TE := fun σ H Q => ∃ κ ρ μ, RelE g κ H ρ σ ∧ StoOk g κ H μ ∧ wpR g W σ κ H (f ρ μ) (fun d _ κ' H' => ∀ v, Rel g κ' H' d v → Q v H')
def tT (g : Gc) (W : WX) (f : DT) : TT := fun σ H Q => ∃ κ ρ μ, RelE g κ H ρ σ ∧ StoOk g κ H μ ∧ wpR g W σ κ H (f ρ μ) (fun b _ _ H' => Q b H')
def tA (g : Gc) (W : WX) (f : DA) : TA := fun σ H Q => ∃ κ ρ μ, RelE g κ H ρ σ ∧ StoOk g κ H μ ∧ wpR g W σ κ H (f ρ μ) (fun ds _ κ' H' => ∀ vs, RelL g κ' H' ds vs → Q vs H')
/-- the judgements -/
structure XG (g : Gc) (X : Cx) : Prop where
  K : X.K = g.K
abbrev GE (g : Gc) (W : WX) (X : Cx) (e : Expr) (f : DE) : Prop := PE X e (tE g W f)
abbrev GT (g : Gc) (W : WX) (X : Cx) (e : Expr) (f : DT) : Prop := PT X e (tT g W f)
abbrev GW (g : Gc) (W : WX) (X : Cx) (e : Expr) (f : DT) : Prop := PW X e (tT g W f)
abbrev GA (g : Gc) (W : WX) (X : Cx) (es : List Expr) (f : DA) : Prop := PA X es (tA g W f)

theorem PE.imp {X : Cx} {e : Expr} {t u : TE} (h : PE X e t) (f : ∀ σ H Q, u σ H Q → t σ H Q) : PE X e u := ⟨fun pins s σ H Q I q => h.run pins s σ H Q I (f _ _ _ q)⟩
theorem PT.imp {X : Cx} {e : Expr} {t u : TT} (h : PT X e t) (f : ∀ σ H Q, u σ H Q → t σ H Q) : PT X e u := ⟨fun pins s σ H Q I q => h.run pins s σ H Q I (f _ _ _ q)⟩
theorem PW.imp {X : Cx} {e : Expr} {t u : TT} (h : PW X e t) (f : ∀ σ H Q, u σ H Q → t σ H Q) : PW X e u := ⟨fun wh pins s σ H Q I q => h.run wh pins s σ H Q I (f _ _ _ q)⟩
theorem PA.imp {X : Cx} {es : List Expr} {t u : TA} (h : PA X es t) (f : ∀ σ H Q, u σ H Q → t σ H Q) : PA X es u := ⟨fun pos pins s σ H Q I q => h.run pos pins s σ H Q I (f _ _ _ q)⟩
theorem PS.imp {X : Cx} {st : Stmt} {t u : TS} (h : PS X st t) (f : ∀ D σ H, u D σ H → t D σ H) : PS X st u := ⟨fun pins s σ H D I q => h.run pins s σ H D I (f _ _ _ q)⟩
theorem PSs.imp {X : Cx} {st : List Stmt} {t u : TS} (h : PSs X st t) (f : ∀ D σ H, u D σ H → t D σ H) : PSs X st u := ⟨fun pins s σ H D I q => h.run pins s σ H D I (f _ _ _ q)⟩

section
variable {g : Gc} {W : WX} {X : Cx} {a b c e : Expr} {es : List Expr} {fa fb fc : DE} {pos : Pos}

def eVar (i : Nat) : DE := fun ρ μ => match ρ[i]? with
  | some (some d) => .ok d μ
  | _ => .stuck
theorem ge_var {i : Nat} (h : PE X e (tVar i)) : GE g W X e (eVar i) := by
  refine PE.imp h fun σ H Q q => ?_
  obtain ⟨κ, ρ, μ, he, hs, hw⟩ := q
  unfold eVar at hw
  cases e1 : ρ[i]? with
  | none => rw [e1] at hw; exact hw.elim
  | some o =>
    cases o with
    | none => rw [e1] at hw; exact hw.elim
    | some d =>
      rw [e1] at hw
      obtain ⟨v, h1, h2⟩ := he.at_ i d e1
      exact ⟨v, h1, hw κ H Ext.refl hs v h2⟩
def eC (d : DV) : DE := fun _ μ => .ok d μ
theorem ge_c {d : DV} {v : V} (h : PE X e (tC v)) (r : ∀ κ H, Rel g κ H d v := by intro κ H; simp only [Rel]) : GE g W X e (eC d) := by
  refine PE.imp h fun σ H Q q => ?_
  obtain ⟨κ, ρ, μ, he, hs, hw⟩ := q
  exact hw κ H Ext.refl hs v (r κ H)

abbrev V1 := DV → Sto → Option DV
abbrev V2 := DV → DV → Sto → Option DV
/-- a reading by values: the result may be new, the store stays -/
def rOut (g : Gc) (κ : KA) (H : Hp) (μ : Sto) (o : Option DV) (Q : VK) : Prop := match o with
  | some z => ∀ κ' H', Ext κ H κ' H' → StoOk g κ' H' μ → ∀ v, Rel g κ' H' z v → Q v H'
  | none => False
def r2 (g : Gc) (f : V2) : R2 := fun x y H Q => ∃ κ d e μ, Rel g κ H d x ∧ Rel g κ H e y ∧ StoOk g κ H μ ∧ rOut g κ H μ (f d e μ) Q
def r1 (g : Gc) (f : V1) : V → Hp → VK → Prop := fun x H Q => ∃ κ d μ, Rel g κ H d x ∧ StoOk g κ H μ ∧ rOut g κ H μ (f d μ) Q
def eUn (f : V1) (a : DE) : DE := fun ρ μ => (a ρ μ).bind fun x μ1 => R.of (f x μ1) μ1
def eBin (f : V2) (a b : DE) : DE := fun ρ μ => (a ρ μ).bind fun x μ1 => (b ρ μ1).bind fun y μ2 => R.of (f x y μ2) μ2
theorem out_of {κ : KA} {H : Hp} {μ : Sto} {o : Option DV} {Q : VK} {σ : L2.St} (h : wpR g W σ κ H (R.of o μ) (fun d _ κ' H' => ∀ v, Rel g κ' H' d v → Q v H')) : rOut g κ H μ o Q := by
  cases o with
  | none => exact h
  | some z => exact h
theorem ge_un {f : V1} {op : UnaryOp} (ho : UnR X (unaryOp op) (r1 g f)) (ha : GE g W X a fa) : GE g W X (.UnaryOp op a pos) (eUn f fa) := by
  refine PE.imp (pe_un ho ha) fun σ H Q q => ?_
  obtain ⟨κ, ρ, μ, he, hs, hw⟩ := q
  refine ⟨κ, ρ, μ, he, hs, hw.bind.mono fun x μ1 κ1 H1 e1 s1 h1 v rv => ?_⟩
  exact ⟨κ1, x, μ1, rv, s1, out_of h1⟩
theorem bin_read {f : V2} {r : R2} (hr : ∀ x y H Q, r2 g f x y H Q → r x y H Q) {σ : L2.St} {H : Hp} {Q : VK} (q : tE g W (eBin f fa fb) σ H Q) : tOp r (tE g W fa) (tE g W fb) σ H Q := by
  obtain ⟨κ, ρ, μ, he, hs, hw⟩ := q
  refine ⟨κ, ρ, μ, he, hs, hw.bind.mono fun x μ1 κ1 H1 e1 s1 h1 v rv => ?_⟩
  refine ⟨κ1, ρ, μ1, he.ext e1, s1, h1.bind.mono fun y μ2 κ2 H2 e2 s2 h2 w rw => ?_⟩
  exact hr _ _ _ _ ⟨κ2, x, y, μ2, rv.ext e2, rw, s2, out_of h2⟩
theorem ge_bin {f : V2} {op : Operator} (ho : OpR X (binaryOp op) (r2 g f)) (ha : GE g W X a fa) (hb : GE g W X b fb) : GE g W X (.BinOp a op b pos) (eBin f fa fb) :=
  PE.imp (pe_op ho ha hb) fun _ _ _ q => bin_read (fun _ _ _ _ h => h) q
theorem ge_cmp {f : V2} {op : CmpOp} (ho : OpR X (compareOp op) (r2 g f)) (ha : GE g W X a fa) (hb : GE g W X b fb) (hm : behindInMarks op b = false) : GE g W X (.Compare a [op] [b] pos) (eBin f fa fb) :=
  PE.imp (pe_cmpR ho ha hb hm) fun _ _ _ q => bin_read (fun _ _ _ _ h => h) q

/-- a value that is a bool, as a test -/
def asB : DV → Option Bool
  | .bl b => some b
  | _ => none
def tB' (f : DE) : DT := fun ρ μ => (f ρ μ).bind fun d μ1 => R.of (asB d) μ1
theorem asB_eq {d : DV} {k : Bool} (h : asB d = some k) : d = .bl k := by
  cases d <;> simp [asB] at h
  subst h; rfl
theorem test_read {t : TE} {f : DE} (ht : ∀ σ H Q, tE g W f σ H Q → t σ H Q) {σ : L2.St} {H : Hp} {Q : Bool → Hp → Prop} (q : tT g W (tB' f) σ H Q) : t σ H (fun x H1 => ∃ c, x = .bl c ∧ Q c H1) := by
  obtain ⟨κ, ρ, μ, he, hs, hw⟩ := q
  refine ht _ _ _ ⟨κ, ρ, μ, he, hs, hw.bind.mono fun x μ1 κ1 H1 e1 s1 h1 v rv => ?_⟩
  cases k : asB x with
  | none => rw [k] at h1; exact h1.elim
  | some b =>
    rw [k] at h1
    have ex := asB_eq k
    subst ex
    simp only [Rel] at rv
    exact ⟨b, rv, h1 κ1 H1 Ext.refl s1⟩
theorem gt_cmp {f : V2} {op : CmpOp} (ho : OpR X (compareOp op) (r2 g f)) (ha : GE g W X a fa) (hb : GE g W X b fb) (hm : behindInMarks op b = false) : GT g W X (.Compare a [op] [b] pos) (tB' (eBin f fa fb)) :=
  PT.imp (pt_cmpR ho ha hb hm) fun _ _ _ q => test_read (fun _ _ _ z => bin_read (fun _ _ _ _ h => h) z) q
theorem gt_val {f : DE} (h : GE g W X e f) (he : ∀ whole, isTrue e X.env whole = (do let v ← whole; standAt e.pos; holding [v] (truthy v)) := by intro _; rfl) : GT g W X e (tB' f) :=
  PT.imp (pt_val h he) fun _ _ _ q => test_read (fun _ _ _ z => z) q
/-- the chain a < b < c -/
def eChain (f f' : V2) (a b c : DE) : DE := fun ρ μ => (a ρ μ).bind fun x μ1 => (b ρ μ1).bind fun y μ2 => (R.of ((f x y μ2).bind asB) μ2).bind fun k μ3 =>
  if k = true then (c ρ μ3).bind fun z μ4 => R.of (f' y z μ4) μ4 else .ok (.bl false) μ3
theorem chain_read {f f' : V2} {σ : L2.St} {H : Hp} {Q : VK} (q : tE g W (eChain f f' fa fb fc) σ H Q) : tChain (r2 g f) (r2 g f') (tE g W fa) (tE g W fb) (tE g W fc) σ H Q := by
  obtain ⟨κ, ρ, μ, he, hs, hw⟩ := q
  refine ⟨κ, ρ, μ, he, hs, hw.bind.mono fun x μ1 κ1 H1 e1 s1 h1 v rv => ?_⟩
  refine ⟨κ1, ρ, μ1, he.ext e1, s1, h1.bind.mono fun y μ2 κ2 H2 e2 s2 h2 w rw => ?_⟩
  refine ⟨κ2, x, y, μ2, rv.ext e2, rw, s2, ?_⟩
  cases k : f x y μ2 with
  | none => rw [k] at h2; exact h2.elim
  | some z =>
    intro κ3 H3 e3 s3 v3 r3
    cases kb : asB z with
    | none => rw [k] at h2; simp only [Option.bind_some, kb] at h2; exact h2.elim
    | some b =>
      rw [k] at h2
      simp only [Option.bind_some, kb] at h2
      have ez := asB_eq kb
      subst ez
      simp only [Rel] at r3
      refine ⟨b, r3, ?_⟩
      have h3 := h2.ext e3
      cases b with
      | false =>
        rw [if_neg (by decide)]
        have h4 : wpR g W σ κ3 H3 (R.ok (DV.bl false) μ2) _ := h3
        exact h4 κ3 H3 Ext.refl s3 (.bl false) (by simp [Rel])
      | true =>
        rw [if_pos rfl]
        have h4 : wpR g W σ κ3 H3 ((fc ρ μ2).bind fun z μ4 => R.of (f' y z μ4) μ4) _ := h3
        refine ⟨κ3, ρ, μ2, (he.ext e1).ext (e2.trans e3), s3, h4.bind.mono fun z μ4 κ4 H4 e4 s4 h5 v4 r4 => ?_⟩
        exact ⟨κ4, y, z, μ4, rw.ext (e3.trans e4), r4, s4, out_of h5⟩
theorem ge_chain {f f' : V2} {op op' : CmpOp} (ho : OpR X (compareOp op) (r2 g f)) (ho' : OpR X (compareOp op') (r2 g f')) (ha : GE g W X a fa) (hb : GE g W X b fb) (hc : GE g W X c fc)
    (hm : lastMarks [op, op'] [b, c] = false := by with_unfolding_all rfl) : GE g W X (.Compare a [op, op'] [b, c] pos) (eChain f f' fa fb fc) :=
  PE.imp (pe_chain ho ho' ha hb hc hm) fun _ _ _ q => chain_read q
variable {ft fu : DT} {rest : List Expr}
def tAnd' (t u : DT) : DT := fun ρ μ => (t ρ μ).bind fun b μ1 => if b = true then u ρ μ1 else .ok false μ1
def tOr' (t u : DT) : DT := fun ρ μ => (t ρ μ).bind fun b μ1 => if b = true then .ok true μ1 else u ρ μ1
def tNot' (t : DT) : DT := fun ρ μ => (t ρ μ).bind fun b μ1 => .ok (!b) μ1
theorem gw_and1 (ha : GT g W X a ft) : GW g W X (.BoolOp .And [a] pos) ft := pw_and1 ha
theorem gw_or1 (ha : GT g W X a ft) : GW g W X (.BoolOp .Or [a] pos) ft := pw_or1 ha
theorem gw_and (ha : GT g W X a ft) (hb : GW g W X (.BoolOp .And (b :: rest) pos) fu) : GW g W X (.BoolOp .And (a :: b :: rest) pos) (tAnd' ft fu) := by
  refine PW.imp (pw_and ha hb) fun σ H Q q => ?_
  obtain ⟨κ, ρ, μ, he, hs, hw⟩ := q
  refine ⟨κ, ρ, μ, he, hs, hw.bind.mono fun k μ1 κ1 H1 e1 s1 h1 => ?_⟩
  cases k with
  | true => rw [if_pos rfl] at h1 ⊢; exact ⟨κ1, ρ, μ1, he.ext e1, s1, h1⟩
  | false => rw [if_neg (by decide)] at h1 ⊢; exact h1 κ1 H1 Ext.refl s1
theorem gw_or (ha : GT g W X a ft) (hb : GW g W X (.BoolOp .Or (b :: rest) pos) fu) : GW g W X (.BoolOp .Or (a :: b :: rest) pos) (tOr' ft fu) := by
  refine PW.imp (pw_or ha hb) fun σ H Q q => ?_
  obtain ⟨κ, ρ, μ, he, hs, hw⟩ := q
  refine ⟨κ, ρ, μ, he, hs, hw.bind.mono fun k μ1 κ1 H1 e1 s1 h1 => ?_⟩
  cases k with
  | true => rw [if_pos rfl] at h1 ⊢; exact h1 κ1 H1 Ext.refl s1
  | false => rw [if_neg (by decide)] at h1 ⊢; exact ⟨κ1, ρ, μ1, he.ext e1, s1, h1⟩
theorem gt_not (ha : GT g W X a ft) : GT g W X (.UnaryOp .Not a pos) (tNot' ft) := by
  refine PT.imp (pt_not ha) fun σ H Q q => ?_
  obtain ⟨κ, ρ, μ, he, hs, hw⟩ := q
  exact ⟨κ, ρ, μ, he, hs, hw.bind.mono fun k μ1 κ1 H1 e1 s1 h1 => h1 κ1 H1 Ext.refl s1⟩
/-- as values: all but the last are bools -/
def eAnd (a b : DE) : DE := fun ρ μ => (a ρ μ).bind fun x μ1 => (R.of (asB x) μ1).bind fun k μ2 => if k = true then b ρ μ2 else .ok (.bl false) μ2
def eOr (a b : DE) : DE := fun ρ μ => (a ρ μ).bind fun x μ1 => (R.of (asB x) μ1).bind fun k μ2 => if k = true then .ok (.bl true) μ2 else b ρ μ2
def eNot (a : DE) : DE := fun ρ μ => (a ρ μ).bind fun x μ1 => (R.of (asB x) μ1).bind fun k μ2 => .ok (.bl (!k)) μ2
theorem asB_read {α : Type} {σ : L2.St} {κ : KA} {H : Hp} {x : DV} {μ : Sto} {k : Bool → Sto → R α} {Φ : α → Sto → KA → Hp → Prop} {v : V} (s : StoOk g κ H μ) (rv : Rel g κ H x v) (h : wpR g W σ κ H ((R.of (asB x) μ).bind k) Φ) :
    ∃ b, v = .bl b ∧ wpR g W σ κ H (k b μ) Φ := by
  cases e : asB x with
  | none => rw [e] at h; exact h.elim
  | some b =>
    rw [e] at h
    have ex := asB_eq e
    subst ex
    simp only [Rel] at rv
    exact ⟨b, rv, h⟩
theorem ge_one {op} {f : DE} (h : GE g W X a f) : GE g W X (.BoolOp op [a] pos) f := pe_one h
theorem ge_and (ha : GE g W X a fa) (hb : GE g W X (.BoolOp .And (b :: rest) pos) fb) : GE g W X (.BoolOp .And (a :: b :: rest) pos) (eAnd fa fb) := by
  refine PE.imp (pe_and ha hb) fun σ H Q q => ?_
  obtain ⟨κ, ρ, μ, he, hs, hw⟩ := q
  refine ⟨κ, ρ, μ, he, hs, hw.bind.mono fun x μ1 κ1 H1 e1 s1 h1 v rv => ?_⟩
  obtain ⟨k, ev, h2⟩ := asB_read s1 rv h1
  refine ⟨k, ev, ?_⟩
  cases k with
  | true => rw [if_pos rfl] at h2 ⊢; exact ⟨κ1, ρ, μ1, he.ext e1, s1, h2⟩
  | false => rw [if_neg (by decide)] at h2 ⊢; exact h2 κ1 H1 Ext.refl s1 (.bl false) (by simp [Rel])
theorem ge_or (ha : GE g W X a fa) (hb : GE g W X (.BoolOp .Or (b :: rest) pos) fb) : GE g W X (.BoolOp .Or (a :: b :: rest) pos) (eOr fa fb) := by
  refine PE.imp (pe_or ha hb) fun σ H Q q => ?_
  obtain ⟨κ, ρ, μ, he, hs, hw⟩ := q
  refine ⟨κ, ρ, μ, he, hs, hw.bind.mono fun x μ1 κ1 H1 e1 s1 h1 v rv => ?_⟩
  obtain ⟨k, ev, h2⟩ := asB_read s1 rv h1
  refine ⟨k, ev, ?_⟩
  cases k with
  | true => rw [if_pos rfl] at h2 ⊢; exact h2 κ1 H1 Ext.refl s1 (.bl true) (by simp [Rel])
  | false => rw [if_neg (by decide)] at h2 ⊢; exact ⟨κ1, ρ, μ1, he.ext e1, s1, h2⟩
theorem ge_not (ha : GE g W X a fa) : GE g W X (.UnaryOp .Not a pos) (eNot fa) := by
  refine PE.imp (pe_not ha) fun σ H Q q => ?_
  obtain ⟨κ, ρ, μ, he, hs, hw⟩ := q
  refine ⟨κ, ρ, μ, he, hs, hw.bind.mono fun x μ1 κ1 H1 e1 s1 h1 v rv => ?_⟩
  obtain ⟨k, ev, h2⟩ := asB_read s1 rv h1
  exact ⟨k, ev, h2 κ1 H1 Ext.refl s1 (.bl (!k)) (by simp [Rel])⟩
def eIf (t : DT) (a b : DE) : DE := fun ρ μ => (t ρ μ).bind fun k μ1 => if k = true then a ρ μ1 else b ρ μ1
theorem ge_ifExp (hc : GT g W X c ft) (ha : GE g W X a fa) (hb : GE g W X b fb) : GE g W X (.IfExp c a b pos) (eIf ft fa fb) := by
  refine PE.imp (pe_ifExp hc ha hb) fun σ H Q q => ?_
  obtain ⟨κ, ρ, μ, he, hs, hw⟩ := q
  refine ⟨κ, ρ, μ, he, hs, hw.bind.mono fun k μ1 κ1 H1 e1 s1 h1 => ?_⟩
  cases k with
  | true => rw [if_pos rfl] at h1 ⊢; exact ⟨κ1, ρ, μ1, he.ext e1, s1, h1⟩
  | false => rw [if_neg (by decide)] at h1 ⊢; exact ⟨κ1, ρ, μ1, he.ext e1, s1, h1⟩

variable {fr : DA}
def aNil : DA := fun _ μ => .ok [] μ
def aCons (a : DE) (r : DA) : DA := fun ρ μ => (a ρ μ).bind fun x μ1 => (r ρ μ1).bind fun xs μ2 => .ok (x :: xs) μ2
theorem ga_nil : GA g W X [] aNil := PA.imp pa_nil fun σ H Q q => by
  obtain ⟨κ, ρ, μ, he, hs, hw⟩ := q
  exact hw κ H Ext.refl hs [] RelL.nil
theorem ga_cons (ha : GE g W X e fa) (hr : GA g W X es fr) (hs : starEach (e :: es) X.env = (false, eval e X.env) :: starEach es X.env := by rfl) : GA g W X (e :: es) (aCons fa fr) := by
  refine PA.imp (pa_cons ha hr hs) fun σ H Q q => ?_
  obtain ⟨κ, ρ, μ, he, hs, hw⟩ := q
  refine ⟨κ, ρ, μ, he, hs, hw.bind.mono fun x μ1 κ1 H1 e1 s1 h1 v rv => ?_⟩
  refine ⟨κ1, ρ, μ1, he.ext e1, s1, h1.bind.mono fun xs μ2 κ2 H2 e2 s2 h2 vs rvs => ?_⟩
  exact h2 κ2 H2 Ext.refl s2 (v :: vs) (RelL.cons (rv.ext e2) rvs)
/-- a list's length lets it be -/
def okLen (n : Nat) : Bool := decide (n ≤ sizeLine)
def eTup (r : DA) : DE := fun ρ μ => (r ρ μ).bind fun xs μ1 => if okLen xs.length = true then .ok (.tup xs) μ1 else .stuck
/-- a list that never changes -/
def eLst (r : DA) : DE := fun ρ μ => (r ρ μ).bind fun xs μ1 => if okLen xs.length = true then .ok (.lst xs) μ1 else .stuck
/-- a list that may change -/
def eLstC (r : DA) : DE := fun ρ μ => (r ρ μ).bind fun xs μ1 => if okLen xs.length = true then .ok (.cell μ1.length) (μ1 ++ [.lst xs]) else .stuck
theorem rel_tup {κ : KA} {H : Hp} {p : Addr} {xs : List DV} {vs : List V} {μ : Sto} {ob : Obj} (s : StoOk g κ H μ) (hp : H p = none) (hd : ob.dict = none) (r : RelL g κ H xs vs) : Rel g κ (upd H p (.frz ob (.tup vs))) (.tup xs) (.ref p) := by
  simp only [Rel]
  exact ⟨p, vs, rfl, .inl ⟨ob, hd, upd_same, s.fresh hp⟩, r.ext (Ext.new s hp)⟩
theorem rel_lst {κ : KA} {H : Hp} {p : Addr} {xs : List DV} {vs : List V} {μ : Sto} (s : StoOk g κ H μ) (hp : H p = none) (r : RelL g κ H xs vs) : Rel g κ (upd H p (.lst vs)) (.lst xs) (.ref p) := by
  simp only [Rel]
  exact ⟨p, vs, rfl, ⟨upd_same, s.fresh hp⟩, r.ext (Ext.new s hp)⟩
theorem ge_tup {k : Nat} (h : GA g W X es fr) : GE g W X (.Tuple es k pos) (eTup fr) := by
  refine PE.imp (pe_tupF h) fun σ H Q q => ?_
  obtain ⟨κ, ρ, μ, he, hs, hw⟩ := q
  refine ⟨κ, ρ, μ, he, hs, hw.bind.mono fun xs μ1 κ1 H1 e1 s1 h1 vs rv => ?_⟩
  by_cases hl : okLen xs.length = true
  · rw [if_pos hl] at h1
    refine ⟨by rw [← rv.length]; simpa [okLen] using hl, fun p ob hp hd => ?_⟩
    exact h1 κ1 _ (Ext.new s1 hp) (s1.new hp) _ (rel_tup s1 hp hd rv)
  · rw [if_neg hl] at h1; exact h1.elim
theorem ge_lst (h : GA g W X es fr) : GE g W X (.List es pos) (eLst fr) := by
  refine PE.imp (pe_lst h) fun σ H Q q => ?_
  obtain ⟨κ, ρ, μ, he, hs, hw⟩ := q
  refine ⟨κ, ρ, μ, he, hs, hw.bind.mono fun xs μ1 κ1 H1 e1 s1 h1 vs rv => ?_⟩
  by_cases hl : okLen xs.length = true
  · rw [if_pos hl] at h1
    refine ⟨by rw [← rv.length]; simpa [okLen] using hl, fun p hp => ?_⟩
    exact h1 κ1 _ (Ext.new s1 hp) (s1.new hp) _ (rel_lst s1 hp rv)
  · rw [if_neg hl] at h1; exact h1.elim
theorem cell_new {κ : KA} {H : Hp} {p : Addr} {xs : List DV} {vs : List V} {μ : Sto} (s : StoOk g κ H μ) (hp : H p = none) (r : RelL g κ H xs vs) :
    StoOk g (κ.more p) (upd H p (.lst vs)) (μ ++ [.lst xs]) ∧ Rel g (κ.more p) (upd H p (.lst vs)) (.cell μ.length) (.ref p) := by
  refine ⟨s.newCell hp ⟨p, vs, rfl, upd_same, r.ext (Ext.newCell s hp)⟩, ?_⟩
  simp only [Rel]
  refine ⟨by simp [s.len, KA.more], fun a ha => ?_⟩
  have ha : (κ.cs ++ [some p])[μ.length]? = some (some a) := ha
  rw [← s.len, List.getElem?_append_right (Nat.le_refl _)] at ha
  simp at ha
  rw [ha]
theorem ge_lstC (h : GA g W X es fr) : GE g W X (.List es pos) (eLstC fr) := by
  refine PE.imp (pe_lst h) fun σ H Q q => ?_
  obtain ⟨κ, ρ, μ, he, hs, hw⟩ := q
  refine ⟨κ, ρ, μ, he, hs, hw.bind.mono fun xs μ1 κ1 H1 e1 s1 h1 vs rv => ?_⟩
  by_cases hl : okLen xs.length = true
  · rw [if_pos hl] at h1
    refine ⟨by rw [← rv.length]; simpa [okLen] using hl, fun p hp => ?_⟩
    obtain ⟨s2, r2⟩ := cell_new s1 hp rv
    exact h1 _ _ (Ext.newCell s1 hp) s2 _ r2
  · rw [if_neg hl] at h1; exact h1.elim

abbrev VN := List DV → Sto → Option DV
def rN (g : Gc) (f : VN) : List V → Hp → VK → Prop := fun xs H Q => ∃ κ ds μ, RelL g κ H ds xs ∧ StoOk g κ H μ ∧ rOut g κ H μ (f ds μ) Q
def eFn (f : VN) (r : DA) : DE := fun ρ μ => (r ρ μ).bind fun xs μ1 => R.of (f xs μ1) μ1
theorem fn_read {f : VN} {σ : L2.St} {H : Hp} {Q : VK} (q : tE g W (eFn f fr) σ H Q) : tA g W fr σ H (fun vs H1 => rN g f vs H1 Q) := by
  obtain ⟨κ, ρ, μ, he, hs, hw⟩ := q
  exact ⟨κ, ρ, μ, he, hs, hw.bind.mono fun xs μ1 κ1 H1 e1 s1 h1 vs rv => ⟨κ1, xs, μ1, rv, s1, out_of h1⟩⟩
variable {x : Str} {p : Pos}
theorem ge_callB {f : VN} {id : String} (hc : CallR X (.builtin id) (rN g f)) (hg : Gl X x) (hm : X.mg x = none) (hv : bootBuiltins x = some (.builtin id)) (ha : GA g W X (e :: es) fr) (hn : x ≠ "__name__" := by decide) (hdb : (x == ("__debug__" : Str)) = false := by decide)
    (he : starEach (e :: es) X.env = (false, eval e X.env) :: starEach es X.env := by rfl) (hpl : (backTo pos (starEach es X.env)).any (·.1) = false := by rfl) : GE g W X (.Call (.Name x p) (e :: es) [] pos) (eFn f fr) :=
  PE.imp (pe_callB hc hg hm hv ha hn hdb he hpl) fun _ _ _ q => fn_read q
theorem ge_callTy {f : VN} {T : String} (hc : CallR X (.type T) (rN g f)) (hg : Gl X x) (hm : X.mg x = none) (hv : bootBuiltins x = some (.type T)) (ha : GA g W X (e :: es) fr) (hn : x ≠ "__name__" := by decide) (hdb : (x == ("__debug__" : Str)) = false := by decide)
    (he : starEach (e :: es) X.env = (false, eval e X.env) :: starEach es X.env := by rfl) (hpl : (backTo pos (starEach es X.env)).any (·.1) = false := by rfl) : GE g W X (.Call (.Name x p) (e :: es) [] pos) (eFn f fr) :=
  PE.imp (pe_callTy hc hg hm hv ha hn hdb he hpl) fun _ _ _ q => fn_read q

theorem ge_ix {f : V2} (hr : IxR X (r2 g f)) (ha : GE g W X a fa) (hb : GE g W X b fb) (hs : PlainIx b := by intro _ _; rfl) : GE g W X (.Subscript a b pos) (eBin f fa fb) :=
  PE.imp (pe_ix hr ha hb hs) fun _ _ _ q => bin_read (fun _ _ _ _ h => h) q
abbrev DO := En → Sto → R (Option Int)
def tO (g : Gc) (W : WX) (f : DO) : TO := fun σ H Q => ∃ κ ρ μ, RelE g κ H ρ σ ∧ StoOk g κ H μ ∧ wpR g W σ κ H (f ρ μ) (fun o _ _ H' => Q o H')
abbrev GO (g : Gc) (W : WX) (X : Cx) (e : Option Expr) (f : DO) : Prop := PO X e (tO g W f)
theorem PO.imp {X : Cx} {e : Option Expr} {t u : TO} (h : PO X e t) (f : ∀ σ H Q, u σ H Q → t σ H Q) : PO X e u := ⟨fun pins s σ H Q I q => h.run pins s σ H Q I (f _ _ _ q)⟩
def oNone : DO := fun _ μ => .ok none μ
def asI : DV → Option Int
  | .int i => some i
  | _ => none
theorem asI_eq {d : DV} {k : Int} (h : asI d = some k) : d = .int k := by
  cases d <;> simp [asI] at h
  subst h; rfl
def oSome (a : DE) : DO := fun ρ μ => (a ρ μ).bind fun x μ1 => (R.of (asI x) μ1).bind fun i μ2 => .ok (some i) μ2
theorem go_none : GO g W X none oNone := PO.imp po_none fun σ H Q q => by
  obtain ⟨κ, ρ, μ, he, hs, hw⟩ := q
  exact hw κ H Ext.refl hs
theorem go_some (h : GE g W X e fa) : GO g W X (some e) (oSome fa) := PO.imp (po_some h) fun σ H Q q => by
  obtain ⟨κ, ρ, μ, he, hs, hw⟩ := q
  refine ⟨κ, ρ, μ, he, hs, hw.bind.mono fun x μ1 κ1 H1 e1 s1 h1 v rv => ?_⟩
  cases k : asI x with
  | none => rw [k] at h1; exact h1.elim
  | some i =>
    rw [k] at h1
    have ex := asI_eq k
    subst ex
    simp only [Rel] at rv
    exact ⟨i, rv, h1 κ1 H1 Ext.refl s1⟩
abbrev VSl := DV → Option Int → Option Int → Sto → Option DV
def rSl (g : Gc) (f : VSl) : V → Option Int → Option Int → Hp → VK → Prop := fun x lo hi H Q => ∃ κ d μ, Rel g κ H d x ∧ StoOk g κ H μ ∧ rOut g κ H μ (f d lo hi μ) Q
def eSl (f : VSl) (a : DE) (lo hi : DO) : DE := fun ρ μ => (a ρ μ).bind fun x μ1 => (lo ρ μ1).bind fun l μ2 => (hi ρ μ2).bind fun u μ3 => R.of (f x l u μ3) μ3
theorem ge_slice {f : VSl} {lo hi : Option Expr} {fl fh : DO} {p2 : Pos} (hr : SlR X (rSl g f)) (ha : GE g W X a fa) (hl : GO g W X lo fl) (hh : GO g W X hi fh) : GE g W X (.Subscript a (.Slice lo hi none p2) pos) (eSl f fa fl fh) := by
  refine PE.imp (pe_slice hr ha hl hh) fun σ H Q q => ?_
  obtain ⟨κ, ρ, μ, he, hs, hw⟩ := q
  refine ⟨κ, ρ, μ, he, hs, hw.bind.mono fun x μ1 κ1 H1 e1 s1 h1 v rv => ?_⟩
  refine ⟨κ1, ρ, μ1, he.ext e1, s1, h1.bind.mono fun l μ2 κ2 H2 e2 s2 h2 => ?_⟩
  refine ⟨κ2, ρ, μ2, (he.ext e1).ext e2, s2, h2.bind.mono fun u μ3 κ3 H3 e3 s3 h3 => ?_⟩
  exact ⟨κ3, x, μ3, rv.ext (e2.trans e3), s3, out_of h3⟩

abbrev VM := DV → List DV → Sto → Option (DV × Sto)
def rOutS (g : Gc) (κ : KA) (H : Hp) (o : Option (DV × Sto)) (Q : VK) : Prop := match o with
  | some (z, μ') => ∀ κ' H', Ext κ H κ' H' → StoOk g κ' H' μ' → ∀ v, Rel g κ' H' z v → Q v H'
  | none => False
/-- the receiver's type, as the method's lookup wants it -/
def recv (T : String) (d : DV) (μ : Sto) : Bool := match d with
  | .str _ => T == "str"
  | .lst _ => T == "list"
  | .scr _ => T == "list"
  | .cell i => match μ[i]? with
    | some (.lst _) => T == "list"
    | _ => false
  | _ => false
def eBm (T : String) (f : VM) (o : DE) (r : DA) : DE := fun ρ μ => (o ρ μ).bind fun x μ1 => if recv T x μ1 = true then (r ρ μ1).bind fun xs μ2 => R.ofS (f x xs μ2) else .stuck
def eBm0 (T : String) (f : VM) (o : DE) : DE := fun ρ μ => (o ρ μ).bind fun x μ1 => if recv T x μ1 = true then R.ofS (f x [] μ1) else .stuck
theorem FrT.tupF {κ : KA} {H : Hp} {a : Addr} {vs : List V} (h : FrT g κ H a vs) : TupF g.K H a vs := by
  rcases h with ⟨ob, d, h⟩ | h
  · exact .inl ⟨ob, d, h.1⟩
  · exact .inr h
end
end SD

set_option Elab.async false
set_option linter.all false
set_option maxRecDepth 100000
set_option maxHeartbeats 4000000
namespace SD
open PySem PySem.Spec PyProof.Rows L2

inductive SR where
  | nx (ρ : En) (μ : Sto) | bk (ρ : En) (μ : Sto) | ct (ρ : En) (μ : Sto)
  | rt (d : DV) (μ : Sto)
  | ex (c : Nat) (ns : List Str) (xs : List DV) (ρ : En) (μ : Sto)
  | stuck
abbrev DS := En → Sto → SR
def R.toS {α : Type} (r : R α) (ρ : En) (k : α → Sto → SR) : SR := match r with
  | .ok a μ => k a μ
  | .ex c ns xs μ => .ex c ns xs ρ μ
  | .stuck => .stuck
def wpS (g : Gc) (W : WX) (D : Ends) (κ : KA) (H : Hp) (r : SR) : Prop := match r with
  | .nx ρ μ => ∀ κ' H' σ', Ext κ H κ' H' → StoOk g κ' H' μ → RelE g κ' H' ρ σ' → D.nx σ' H'
  | .bk ρ μ => ∀ κ' H' σ', Ext κ H κ' H' → StoOk g κ' H' μ → RelE g κ' H' ρ σ' → D.bk σ' H'
  | .ct ρ μ => ∀ κ' H' σ', Ext κ H κ' H' → StoOk g κ' H' μ → RelE g κ' H' ρ σ' → D.ct σ' H'
  | .rt d μ => ∀ κ' H' v, Ext κ H κ' H' → StoOk g κ' H' μ → Rel g κ' H' d v → D.rt v H'
  | .ex c ns xs ρ μ => ∀ κ' H' σ', Ext κ H κ' H' → StoOk g κ' H' μ → RelE g κ' H' ρ σ' → ∀ d vs, At κ' H' d (.xd (ns.zip vs)) → ns.length = vs.length → RelL g κ' H' xs vs → W (.ref (g.cls c)) (some d) σ' H'
  | .stuck => False
section
variable {g : Gc} {W : WX} {D : Ends} {σ : L2.St} {κ κ1 : KA} {H H1 : Hp} {ρ : En} {μ : Sto}
theorem wpS.ext {r : SR} (e : Ext κ H κ1 H1) (h : wpS g W D κ H r) : wpS g W D κ1 H1 r := by
  cases r with
  | nx ρ μ => intro κ' H' σ' e2 s q; exact h κ' H' σ' (e.trans e2) s q
  | bk ρ μ => intro κ' H' σ' e2 s q; exact h κ' H' σ' (e.trans e2) s q
  | ct ρ μ => intro κ' H' σ' e2 s q; exact h κ' H' σ' (e.trans e2) s q
  | rt d μ => intro κ' H' v e2 s q; exact h κ' H' v (e.trans e2) s q
  | ex c ns xs ρ μ => intro κ' H' σ' e2 s q; exact h κ' H' σ' (e.trans e2) s q
  | stuck => exact h
theorem wpS.bind {α : Type} {r : R α} {k : α → Sto → SR} (he : RelE g κ H ρ σ) (h : wpS g W D κ H (r.toS ρ k)) : wpR g W σ κ H r (fun a μ' κ' H' => wpS g W D κ' H' (k a μ')) := by
  cases r with
  | ok a μ' => intro κ' H' e s; exact wpS.ext e h
  | ex c ns xs μ' => intro κ' H' e s d vs h1 h2 h3; exact h κ' H' σ e s (he.ext e) d vs h1 h2 h3
  | stuck => exact h
/-- the ends changed -/
theorem wpS.ends {D' : Ends} {r : SR} (h : wpS g W D κ H r)
    (hn : ∀ ρ' μ', r = .nx ρ' μ' → ∀ κ' H' σ', Ext κ H κ' H' → StoOk g κ' H' μ' → RelE g κ' H' ρ' σ' → D'.nx σ' H')
    (hb : ∀ ρ' μ', r = .bk ρ' μ' → ∀ κ' H' σ', Ext κ H κ' H' → StoOk g κ' H' μ' → RelE g κ' H' ρ' σ' → D'.bk σ' H')
    (hc : ∀ ρ' μ', r = .ct ρ' μ' → ∀ κ' H' σ', Ext κ H κ' H' → StoOk g κ' H' μ' → RelE g κ' H' ρ' σ' → D'.ct σ' H')
    (hr : D'.rt = D.rt) : wpS g W D' κ H r := by
  cases r with
  | nx ρ μ => exact hn ρ μ rfl
  | bk ρ μ => exact hb ρ μ rfl
  | ct ρ μ => exact hc ρ μ rfl
  | rt d μ => intro κ' H' v e2 s q; rw [hr]; exact h κ' H' v e2 s q
  | ex c ns xs ρ μ => exact h
  | stuck => exact h
end
def tS (g : Gc) (W : WX) (f : DS) : TS := fun D σ H => ∃ κ ρ μ, RelE g κ H ρ σ ∧ StoOk g κ H μ ∧ wpS g W D κ H (f ρ μ)
abbrev GS (g : Gc) (W : WX) (X : Cx) (st : Stmt) (f : DS) : Prop := PS X st (tS g W f)
abbrev GSs (g : Gc) (W : WX) (X : Cx) (st : List Stmt) (f : DS) : Prop := PSs X st (tS g W f)

section
variable {g : Gc} {W : WX} {X : Cx} {a b c e : Expr} {es : List Expr} {fa fb fc : DE} {ft : DT} {fr : DA} {pos : Pos} {st : Stmt} {sts stb : List Stmt} {f h fs fu : DS}

def sNop : DS := fun ρ μ => .nx ρ μ
def sSeq (f h : DS) : DS := fun ρ μ => match f ρ μ with
  | .nx ρ' μ' => h ρ' μ'
  | r => r
theorem gss_nil : GSs g W X [] sNop := PSs.imp pss_nil fun D σ H q => by
  obtain ⟨κ, ρ, μ, he, hs, hw⟩ := q
  exact hw κ H σ Ext.refl hs he
theorem gss_cons (h1 : GS g W X st f) (h2 : GSs g W X sts h) : GSs g W X (st :: sts) (sSeq f h) := PSs.imp (pss_cons h1 h2) fun D σ H q => by
  obtain ⟨κ, ρ, μ, he, hs, hw⟩ := q
  refine ⟨κ, ρ, μ, he, hs, ?_⟩
  unfold sSeq at hw
  cases e : f ρ μ with
  | nx ρ' μ' =>
    rw [e] at hw
    intro κ' H' σ' e2 s2 q2
    exact ⟨κ', ρ', μ', q2, s2, hw.ext e2⟩
  | bk ρ' μ' => rw [e] at hw; exact hw
  | ct ρ' μ' => rw [e] at hw; exact hw
  | rt d μ' => rw [e] at hw; exact hw
  | ex c ns xs ρ' μ' => rw [e] at hw; exact hw
  | stuck => rw [e] at hw; exact hw
theorem gss_one (h1 : GS g W X st f) : GSs g W X [st] f := PSs.imp (pss_one h1) fun _ _ _ q => q
def sBrk : DS := fun ρ μ => .bk ρ μ
def sCnt : DS := fun ρ μ => .ct ρ μ
def sExpr (a : DE) : DS := fun ρ μ => (a ρ μ).toS ρ fun _ μ1 => .nx ρ μ1
def sRet (a : DE) : DS := fun ρ μ => (a ρ μ).toS ρ fun d μ1 => .rt d μ1
theorem gs_ret (he : GE g W X e fa) : GS g W X (.Return (some e) pos) (sRet fa) := PS.imp (ps_ret he) fun D σ H q => by
  obtain ⟨κ, ρ, μ, he, hs, hw⟩ := q
  exact ⟨κ, ρ, μ, he, hs, (wpS.bind he hw).mono fun d μ1 κ1 H1 e1 s1 h1 v rv => h1 κ1 H1 v Ext.refl s1 rv⟩
def sRetN : DS := fun _ μ => .rt .non μ
def sIf (t : DT) (f h : DS) : DS := fun ρ μ => (t ρ μ).toS ρ fun k μ1 => if k = true then f ρ μ1 else h ρ μ1
theorem gs_if (hc : GT g W X c ft) (ha : GSs g W X sts f) (hb : GSs g W X stb h) : GS g W X (.If c sts stb pos) (sIf ft f h) := PS.imp (ps_if hc ha hb) fun D σ H q => by
  obtain ⟨κ, ρ, μ, he, hs, hw⟩ := q
  refine ⟨κ, ρ, μ, he, hs, (wpS.bind he hw).mono fun k μ1 κ1 H1 e1 s1 h1 => ?_⟩
  cases k with
  | true => rw [if_pos rfl] at h1 ⊢; exact ⟨κ1, ρ, μ1, he.ext e1, s1, h1⟩
  | false => rw [if_neg (by decide)] at h1 ⊢; exact ⟨κ1, ρ, μ1, he.ext e1, s1, h1⟩
abbrev DG := DV → En → Sto → Option En
abbrev DGs := List DV → En → Sto → Option En
/-- sl: the slots that are stored -/
def tG (g : Gc) (sl : List Nat) (f : DG) : TG := fun v σ H Q => ∃ κ d ρ μ, Rel g κ H d v ∧ RelE g κ H ρ σ ∧ StoOk g κ H μ ∧ match f d ρ μ with
  | some ρ' => ∀ σ', RelE g κ H ρ' σ' → σ'.length = σ.length → (∀ i, i ∉ sl → σ'[i]? = σ[i]?) → Q σ' H
  | none => False
def tGs (g : Gc) (sl : List Nat) (f : DGs) : TGs := fun vs σ H Q => ∃ κ ds ρ μ, RelL g κ H ds vs ∧ RelE g κ H ρ σ ∧ StoOk g κ H μ ∧ match f ds ρ μ with
  | some ρ' => ∀ σ', RelE g κ H ρ' σ' → σ'.length = σ.length → (∀ i, i ∉ sl → σ'[i]? = σ[i]?) → Q σ' H
  | none => False
abbrev GG (g : Gc) (X : Cx) (tg : Expr) (sl : List Nat) (f : DG) : Prop := PG X tg (tG g sl f)
abbrev GGs (g : Gc) (X : Cx) (tg : List Expr) (sl : List Nat) (f : DGs) : Prop := PGs X tg (tGs g sl f)
theorem PG.imp {X : Cx} {e : Expr} {t u : TG} (h : PG X e t) (f : ∀ v σ H Q, u v σ H Q → t v σ H Q) : PG X e u := ⟨fun pins s σ H v w Q I r q => h.run pins s σ H v w Q I r (f _ _ _ _ q)⟩
theorem PGs.imp {X : Cx} {e : List Expr} {t u : TGs} (h : PGs X e t) (f : ∀ v σ H Q, u v σ H Q → t v σ H Q) : PGs X e u := ⟨fun pins s σ H v w Q I r q => h.run pins s σ H v w Q I r (f _ _ _ _ q)⟩
def gN (i : Nat) : DG := fun d ρ _ => some (ρ.set i (some d))
theorem gg_name {i : Nat} {x : Str} (h : PG X (.Name x pos) (gName i)) : GG g X (.Name x pos) [i] (gN i) := PG.imp h fun v σ H Q q => by
  obtain ⟨κ, d, ρ, μ, r, he, hs, hw⟩ := q
  refine hw _ (he.set r) (by simp) fun j hj => ?_
  rw [List.getElem?_set_ne (fun e => hj (by simp [e]))]
def gNil' : DGs := fun ds ρ _ => match ds with
  | [] => some ρ
  | _ => none
def gCons' (f : DG) (fs : DGs) : DGs := fun ds ρ μ => match ds with
  | [] => none
  | d :: r => (f d ρ μ).bind fun ρ' => fs r ρ' μ
theorem ggs_nil : GGs g X [] [] gNil' := PGs.imp pgs_nil fun vs σ H Q q => by
  obtain ⟨κ, ds, ρ, μ, r, he, hs, hw⟩ := q
  cases ds with
  | nil => exact ⟨r.of_nil, hw σ he rfl fun _ _ => rfl⟩
  | cons d ds => exact hw.elim
theorem ggs_cons {e : Expr} {es : List Expr} {t : DG} {u : DGs} {s1 s2 : List Nat} (h1 : GG g X e s1 t) (h2 : GGs g X es s2 u)
    (hs : (assignEach (e :: es) X.env).map (·.2) = assign e X.env :: (assignEach es X.env).map (·.2) := by rfl) : GGs g X (e :: es) (s1 ++ s2) (gCons' t u) := PGs.imp (pgs_cons h1 h2 hs) fun vs σ H Q q => by
  obtain ⟨κ, ds, ρ, μ, r, he, hs, hw⟩ := q
  cases ds with
  | nil => exact hw.elim
  | cons d ds =>
    obtain ⟨v, vr, rfl, rv, rr⟩ := r.of_cons
    refine ⟨v, vr, rfl, κ, d, ρ, μ, rv, he, hs, ?_⟩
    simp only [gCons'] at hw
    cases e : t d ρ μ with
    | none => rw [e] at hw; exact hw.elim
    | some ρ' =>
      rw [e] at hw
      intro σ' he' hl hk
      refine ⟨κ, ds, ρ', μ, rr, he', hs, ?_⟩
      have hw : match u ds ρ' μ with
        | some ρ' => ∀ σ', RelE g κ H ρ' σ' → σ'.length = σ.length → (∀ i, i ∉ s1 ++ s2 → σ'[i]? = σ[i]?) → Q σ' H
        | none => False := hw
      cases e2 : u ds ρ' μ with
      | none => rw [e2] at hw; exact hw
      | some ρ2 =>
        rw [e2] at hw
        exact fun σ2 he2 hl2 hk2 => hw σ2 he2 (hl2.trans hl) fun i hi => (hk2 i fun m => hi (List.mem_append_right _ m)).trans (hk i fun m => hi (List.mem_append_left _ m))
def asT : DV → Option (List DV)
  | .tup xs => some xs
  | _ => none
def gTup' (f : DGs) (n : Nat) : DG := fun d ρ μ => match asT d with
  | some xs => if xs.length = n then f xs ρ μ else none
  | none => none
theorem gg_tup {es : List Expr} {k : Nat} {t : DGs} {n : Nat} {sl : List Nat} (xg : XG g X) (hc : X.calm = true) (h : GGs g X es sl t)
    (hn : (assignEach es X.env).length = n := by rfl) (hst : (assignEach es X.env).findIdx? (·.1) = none := by rfl) : GG g X (.Tuple es k pos) sl (gTup' t n) := PG.imp (pg_tup hc h hn hst) fun v σ H Q q => by
  obtain ⟨κ, d, ρ, μ, r, he, hs, hw⟩ := q
  cases d with
  | tup xs =>
    simp only [Rel] at r
    obtain ⟨a, vs, rfl, h2, h3⟩ := r
    simp only [gTup', asT] at hw
    by_cases hl : xs.length = n
    · rw [if_pos hl] at hw
      exact ⟨a, vs, rfl, by rw [xg.K]; exact h2.sq, by rw [← h3.length]; exact hl, κ, xs, ρ, μ, h3, he, hs, hw⟩
    · rw [if_neg hl] at hw; exact hw.elim
  | _ => exact hw.elim
def sAsg (a : DE) (t : DG) : DS := fun ρ μ => (a ρ μ).toS ρ fun d μ1 => match t d ρ μ1 with
  | some ρ' => .nx ρ' μ1
  | none => .stuck
theorem asg_read {t : DG} {sl : List Nat} {D : Ends} {σ : L2.St} {H : Hp} (q : tS g W (sAsg fa t) D σ H) : tAsg (tE g W fa) (tG g sl t) D σ H := by
  obtain ⟨κ, ρ, μ, he, hs, hw⟩ := q
  refine ⟨κ, ρ, μ, he, hs, (wpS.bind he hw).mono fun d μ1 κ1 H1 e1 s1 h1 v rv => ?_⟩
  refine ⟨κ1, d, ρ, μ1, rv, he.ext e1, s1, ?_⟩
  cases e : t d ρ μ1 with
  | none => rw [e] at h1; exact h1.elim
  | some ρ' => rw [e] at h1; exact fun σ' he' _ _ => h1 κ1 H1 σ' Ext.refl s1 he'
theorem gs_asg {tg : Expr} {t : DG} {sl : List Nat} (he : GE g W X e fa) (hg : GG g X tg sl t) (hs : swapsWithSole [tg] e pos.line X.env = pure false := by rfl) (hw : swappedStores [tg] e X.env = pure none := by rfl)
    (h1 : (assignEach [tg] X.env).map (·.2) = [assign tg X.env] := by rfl) : GS g W X (.Assign [tg] e pos) (sAsg fa t) := PS.imp (ps_asg he hg hs hw h1) fun D σ H q => asg_read q
/-- x, y = a, b -/
def sPar (i j : Nat) (r : DA) : DS := fun ρ μ => (r ρ μ).toS ρ fun ds μ1 => match ds with
  | [d, e] => .nx ((ρ.set i (some d)).set j (some e)) μ1
  | _ => .stuck
theorem gs_par {i j : Nat} {x y : Str} {a b : Expr} {px py pt : Pos} {kt k2 pt2} (hc : X.calm = true) (hN : X.N.Nodup) (hi : X.N[i]? = some x) (hj : X.N[j]? = some y) (hij : i ≠ j)
    (hx : X.env.scope.names.lookup x = some .local) (hy : X.env.scope.names.lookup y = some .local) (ha : GA g W X [a, b] fr)
    (hw : swappedStores [.Tuple [.Name x px, .Name y py] kt pt] (.Tuple [a, b] k2 pt2) X.env = pure (some [x, y]) := by rfl)
    (hs : swapsWithSole [.Tuple [.Name x px, .Name y py] kt pt] (.Tuple [a, b] k2 pt2) pos.line X.env = pure false := by rfl) :
    GS g W X (.Assign [.Tuple [.Name x px, .Name y py] kt pt] (.Tuple [a, b] k2 pt2) pos) (sPar i j fr) := PS.imp (ps_par hc hN hi hj hij hx hy ha hw hs) fun D σ H q => by
  obtain ⟨κ, ρ, μ, he, hs, hw⟩ := q
  refine ⟨κ, ρ, μ, he, hs, (wpS.bind he hw).mono fun ds μ1 κ1 H1 e1 s1 h1 vs rv => ?_⟩
  match ds, rv, h1 with
  | [], _, h1 => exact h1.elim
  | [_], _, h1 => exact h1.elim
  | [d, e], rv, h1 =>
    obtain ⟨v, r, rfl, q1, q2⟩ := rv.of_cons
    obtain ⟨w, r', rfl, q3, q4⟩ := q2.of_cons
    cases q4.of_nil
    exact ⟨v, w, rfl, h1 κ1 H1 _ Ext.refl s1 (((he.ext e1).set q1).set q3)⟩
  | _ :: _ :: _ :: _, _, h1 => exact h1.elim

def loopW (t : DT) (f : DS) : Nat → DS
  | 0 => fun _ _ => .stuck
  | n + 1 => fun ρ μ => (t ρ μ).toS ρ fun k μ1 => if k = true then (match f ρ μ1 with
      | .nx ρ' μ' => loopW t f n ρ' μ'
      | .ct ρ' μ' => loopW t f n ρ' μ'
      | .bk ρ' μ' => .nx ρ' μ'
      | r => r) else .nx ρ μ1
/-- n: more than the turns -/
def sWhile (n : En → Sto → Nat) (t : DT) (f : DS) : DS := fun ρ μ => loopW t f (n ρ μ) ρ μ
theorem gs_while {n : En → Sto → Nat} (hp : PassesOwn (model X.prog X.w) X.A X.env X.xe) (hc : GT g W X c ft) (hb : GSs g W X sts f) : GS g W X (.While c sts [] pos) (sWhile n ft f) := PS.imp (ps_while hp hc hb) fun D σ H q => by
  obtain ⟨κ, ρ, μ, he, hs, hw⟩ := q
  refine ⟨fun m σ H => ∃ κ ρ μ, RelE g κ H ρ σ ∧ StoOk g κ H μ ∧ wpS g W D κ H (loopW ft f m ρ μ), ⟨_, κ, ρ, μ, he, hs, hw⟩, ?_⟩
  intro m σ H q
  obtain ⟨κ, ρ, μ, he, hs, hw⟩ := q
  cases m with
  | zero => exact hw.elim
  | succ m =>
    refine ⟨κ, ρ, μ, he, hs, (wpS.bind he hw).mono fun k μ1 κ1 H1 e1 s1 h1 => ?_⟩
    cases k with
    | false => rw [if_neg (by decide)] at h1 ⊢; exact h1 κ1 H1 σ Ext.refl s1 (he.ext e1)
    | true =>
      rw [if_pos rfl] at h1 ⊢
      refine ⟨fun σ' H' => ∃ κ ρ μ, RelE g κ H' ρ σ' ∧ StoOk g κ H' μ ∧ wpS g W D κ H' (loopW ft f m ρ μ), fun σ' H' q => ⟨m, Nat.lt_succ_self _, q⟩, κ1, ρ, μ1, he.ext e1, s1, ?_⟩
      cases e : f ρ μ1 with
      | nx ρ' μ' => rw [e] at h1; exact fun κ2 H2 σ2 e2 s2 q2 => ⟨κ2, ρ', μ', q2, s2, wpS.ext e2 h1⟩
      | ct ρ' μ' => rw [e] at h1; exact fun κ2 H2 σ2 e2 s2 q2 => ⟨κ2, ρ', μ', q2, s2, wpS.ext e2 h1⟩
      | bk ρ' μ' => rw [e] at h1; exact h1
      | rt d μ' => rw [e] at h1; exact h1
      | ex c ns xs ρ' μ' => rw [e] at h1; exact h1
      | stuck => rw [e] at h1; exact h1

/-- what is walked: an item's list that stays, or a cell that is read anew at each turn -/
inductive Wk where
  | fix (ds : List DV)
  | cell (i : Nat)
/-- the item at a turn; none inside: it is at its end -/
def wkAt : Wk → Sto → Nat → Option (Option DV)
  | .fix ds, _, k => some ds[k]?
  | .cell i, μ, k => match μ[i]? with
    | some (.lst xs) => some xs[k]?
    | _ => none
def wkLen : Wk → Sto → Nat
  | .fix ds, _ => ds.length
  | .cell i, μ => match μ[i]? with
    | some (.lst xs) => xs.length
    | _ => 0
/-- J walks it, whatever has come to pass since κ0, H0 -/
structure WkOk (g : Gc) (J : It) (κ0 : KA) (H0 : Hp) (w : Wk) : Prop where
  stop : ∀ k κ H μ, Ext0 κ0 H0 κ H → StoOk g κ H μ → wkAt w μ k = some none → J.stop k H
  go : ∀ k κ H μ d, Ext0 κ0 H0 κ H → StoOk g κ H μ → wkAt w μ k = some (some d) → J.go k H
  yld : ∀ k κ H μ d x H', Ext0 κ0 H0 κ H → StoOk g κ H μ → wkAt w μ k = some (some d) → J.yld k H x H' → Ext κ H κ H' ∧ StoOk g κ H' μ ∧ Rel g κ H' d x
abbrev DI := En → Sto → R Wk
def tI (g : Gc) (W : WX) (f : DI) : TI := fun σ H R => ∃ κ ρ μ, RelE g κ H ρ σ ∧ StoOk g κ H μ ∧ wpR g W σ κ H (f ρ μ) (fun k _ κ' H' => ∀ J, WkOk g J κ' H' k → R J H')
abbrev GI (g : Gc) (W : WX) (X : Cx) (tg iter : Expr) (f : DI) : Prop := PI X tg iter (tI g W f)
theorem PI.imp {X : Cx} {tg e : Expr} {t u : TI} (h : PI X tg e t) (f : ∀ σ H R, u σ H R → t σ H R) : PI X tg e u := ⟨fun pins s σ H R I q => h.run pins s σ H R I (f _ _ _ q)⟩
theorem PI.or {X : Cx} {tg e : Expr} {t u : TI} (h : PI X tg e t) (h' : PI X tg e u) : PI X tg e (fun σ H R => t σ H R ∨ u σ H R) := ⟨fun pins s σ H R I q => q.elim (h.run pins s σ H R I) (h'.run pins s σ H R I)⟩
/-- the items that a value gives when it is walked -/
def wkOf : DV → Sto → Option Wk
  | .lst xs, _ => some (.fix xs)
  | .scr xs, _ => some (.fix xs)
  | .tup xs, _ => some (.fix xs)
  | .str x, _ => some (.fix (x.cps.toList.map fun c => .str ⟨#[c]⟩))
  | .cell i, μ => match μ[i]? with
    | some (.lst _) => some (.cell i)
    | _ => none
  | _, _ => none
def iSeq (a : DE) : DI := fun ρ μ => (a ρ μ).bind fun d μ1 => R.of (wkOf d μ1) μ1
theorem wk_list {κ : KA} {H : Hp} {a : Addr} {ds : List DV} {vs : List V} (h : FrL g κ H a vs) (r : RelL g κ H ds vs) : WkOk g (Itl g.K a) κ H (.fix ds) where
  stop := fun k κ' H' μ e s hk => ⟨vs, (h.ext0 e).sq, by
    rw [← r.length]
    exact List.getElem?_eq_none_iff.mp (Option.some.inj hk)⟩
  go := fun k κ' H' μ d e s hk => by
    obtain ⟨v, h1, h2⟩ := r.get (Option.some.inj hk)
    exact ⟨vs, v, (h.ext0 e).sq, h1⟩
  yld := fun k κ' H' μ d x H'' e s hk y => by
    obtain ⟨rfl, y⟩ := y
    refine ⟨Ext.refl, s, ?_⟩
    obtain ⟨v, h1, h2⟩ := (r.ext0 e).get (Option.some.inj hk)
    have := y vs (h.ext0 e).sq
    rw [h1] at this; cases this
    exact h2
theorem wk_tup {κ : KA} {H : Hp} {a : Addr} {ds : List DV} {vs : List V} (h : FrT g κ H a vs) (r : RelL g κ H ds vs) : WkOk g (Itt g.K a) κ H (.fix ds) where
  stop := fun k κ' H' μ e s hk => ⟨vs, (h.ext0 e).sq, by
    rw [← r.length]
    exact List.getElem?_eq_none_iff.mp (Option.some.inj hk)⟩
  go := fun k κ' H' μ d e s hk => by
    obtain ⟨v, h1, h2⟩ := r.get (Option.some.inj hk)
    exact ⟨vs, v, (h.ext0 e).sq, h1⟩
  yld := fun k κ' H' μ d x H'' e s hk y => by
    obtain ⟨rfl, y⟩ := y
    refine ⟨Ext.refl, s, ?_⟩
    obtain ⟨v, h1, h2⟩ := (r.ext0 e).get (Option.some.inj hk)
    have := y vs (h.ext0 e).sq
    rw [h1] at this; cases this
    exact h2
theorem wk_str {κ : KA} {H : Hp} {x : Str} : WkOk g (Its x) κ H (.fix (x.cps.toList.map fun c => .str ⟨#[c]⟩)) where
  stop := fun k κ' H' μ e s hk => by
    show x.cps.size ≤ k
    have := List.getElem?_eq_none_iff.mp (Option.some.inj hk)
    simpa using this
  go := fun k κ' H' μ d e s hk => by
    show k < x.cps.size
    have := (List.getElem?_eq_some_iff.mp (Option.some.inj hk)).1
    simpa using this
  yld := fun k κ' H' μ d v H'' e s hk y => by
    obtain ⟨rfl, c, hc, rfl⟩ := y
    refine ⟨Ext.refl, s, ?_⟩
    have hd := Option.some.inj hk
    rw [List.getElem?_map] at hd
    have : x.cps.toList[k]? = some c := by simpa using hc
    rw [this] at hd
    cases hd
    simp [Rel]
theorem wk_rng {κ : KA} {H : Hp} {lo : Int} {n : Nat} : WkOk g (Itr lo n) κ H (.fix ((List.range n).map fun i => .int (lo + (i : Nat)))) where
  stop := fun k κ' H' μ e s hk => by
    show n ≤ k
    have := List.getElem?_eq_none_iff.mp (Option.some.inj hk)
    simpa using this
  go := fun k κ' H' μ d e s hk => by
    show k < n
    have := (List.getElem?_eq_some_iff.mp (Option.some.inj hk)).1
    simpa using this
  yld := fun i κ' H' μ d v H'' e s hk y => by
    obtain ⟨rfl, rfl⟩ := y
    refine ⟨Ext.refl, s, ?_⟩
    have hd := Option.some.inj hk
    rw [List.getElem?_map] at hd
    cases hr : (List.range n)[i]? with
    | none => rw [hr] at hd; cases hd
    | some j =>
      rw [hr] at hd
      have hij : j = i := by
        obtain ⟨h1, h2⟩ := List.getElem?_eq_some_iff.mp hr
        simpa using h2.symm
      cases hd
      subst hij
      simp [Rel]
theorem wk_cell {κ : KA} {H : Hp} {i : Nat} {p : Addr} (h : κ.cs[i]? = some (some p)) : WkOk g (Itl g.K p) κ H (.cell i) := by
  have key : ∀ κ' H' μ k o, Ext0 κ H κ' H' → StoOk g κ' H' μ → wkAt (.cell i) μ k = some o → ∃ xs vs, o = xs[k]? ∧ H' p = some (.lst vs) ∧ RelL g κ' H' xs vs := fun κ' H' μ k o e s hk => by
    simp only [wkAt] at hk
    cases ec : μ[i]? with
    | none => rw [ec] at hk; cases hk
    | some co =>
      rw [ec] at hk
      cases co with
      | lst xs =>
        cases hk
        obtain ⟨a, h1, h2⟩ := s.at_ i _ ec
        obtain ⟨q, vs, rfl, h3, h4⟩ := h2
        have := e.old i q (List.getElem?_eq_some_iff.mp h).1 h1
        rw [h] at this; cases this
        exact ⟨xs, vs, rfl, h3, h4⟩
      | _ => cases hk
  refine ⟨fun k κ' H' μ e s hk => ?_, fun k κ' H' μ d e s hk => ?_, fun k κ' H' μ d x H'' e s hk y => ?_⟩
  · obtain ⟨xs, vs, e1, h1, h2⟩ := key κ' H' μ k _ e s hk
    exact ⟨vs, .inl (.inl h1), by rw [← h2.length]; exact List.getElem?_eq_none_iff.mp e1.symm⟩
  · obtain ⟨xs, vs, e1, h1, h2⟩ := key κ' H' μ k _ e s hk
    obtain ⟨v, h3, h4⟩ := h2.get e1.symm
    exact ⟨vs, v, .inl (.inl h1), h3⟩
  · obtain ⟨xs, vs, e1, h1, h2⟩ := key κ' H' μ k _ e s hk
    obtain ⟨v, h3, h4⟩ := h2.get e1.symm
    obtain ⟨rfl, y⟩ := y
    have := y vs (.inl (.inl h1))
    rw [h3] at this; cases this
    exact ⟨Ext.refl, s, h4⟩
theorem gi_seq {tg : Expr} (xg : XG g X) (h : GE g W X e fa) : GI g W X tg e (iSeq fa) := PI.imp (PI.or (pi_list h) (PI.or (pi_tup h) (pi_str h))) fun σ H R q => by
  obtain ⟨κ, ρ, μ, he, hs, hw⟩ := q
  have hb := hw.bind
  cases e : fa ρ μ with
  | stuck => rw [e] at hb; exact hb.elim
  | ex c ns xs μ1 =>
    refine .inl ⟨κ, ρ, μ, he, hs, ?_⟩
    rw [e] at hb ⊢
    exact hb
  | ok d μ1 =>
    rw [e] at hb
    cases k : wkOf d μ1 with
    | none =>
      refine .inl ⟨κ, ρ, μ, he, hs, ?_⟩
      rw [e]
      intro κ1 H1 e1 s1
      have := hb κ1 H1 e1 s1
      dsimp only at this
      rw [k] at this
      exact this.elim
    | some wk =>
      have hb2 : ∀ κ1 H1, Ext κ H κ1 H1 → StoOk g κ1 H1 μ1 → ∀ J, WkOk g J κ1 H1 wk → R J H1 := fun κ1 H1 e1 s1 => by
        have := hb κ1 H1 e1 s1
        dsimp only at this
        rw [k] at this
        exact this κ1 H1 Ext.refl s1
      cases d with
      | lst xs =>
        refine .inl ⟨κ, ρ, μ, he, hs, ?_⟩
        rw [e]
        intro κ1 H1 e1 s1 v rv
        cases k
        simp only [Rel] at rv
        obtain ⟨a, vs, rfl, h2, h3⟩ := rv
        refine ⟨a, rfl, ⟨vs, .inl (.inl h2.1)⟩, ?_⟩
        rw [xg.K]
        exact hb2 κ1 H1 e1 s1 _ (wk_list (.inl h2) h3)
      | scr xs =>
        refine .inl ⟨κ, ρ, μ, he, hs, ?_⟩
        rw [e]
        intro κ1 H1 e1 s1 v rv
        cases k
        simp only [Rel] at rv
        obtain ⟨a, vs, rfl, h2, h3⟩ := rv
        refine ⟨a, rfl, ⟨vs, by rw [xg.K]; exact h2.sq⟩, ?_⟩
        rw [xg.K]
        exact hb2 κ1 H1 e1 s1 _ (wk_list h2 h3)
      | tup xs =>
        refine .inr (.inl ⟨κ, ρ, μ, he, hs, ?_⟩)
        rw [e]
        intro κ1 H1 e1 s1 v rv
        cases k
        simp only [Rel] at rv
        obtain ⟨a, vs, rfl, h2, h3⟩ := rv
        refine ⟨a, rfl, ⟨vs, by rw [xg.K]; exact h2.sq⟩, ?_⟩
        rw [xg.K]
        exact hb2 κ1 H1 e1 s1 _ (wk_tup h2 h3)
      | str x =>
        refine .inr (.inr ⟨κ, ρ, μ, he, hs, ?_⟩)
        rw [e]
        intro κ1 H1 e1 s1 v rv
        cases k
        simp only [Rel] at rv
        exact ⟨x, rv, hb2 κ1 H1 e1 s1 _ wk_str⟩
      | cell i =>
        refine .inl ⟨κ, ρ, μ, he, hs, ?_⟩
        rw [e]
        intro κ1 H1 e1 s1 v rv
        simp only [Rel] at rv
        simp only [wkOf] at k
        cases ec : μ1[i]? with
        | none => rw [ec] at k; cases k
        | some co =>
          rw [ec] at k
          cases co with
          | lst xs =>
            cases k
            obtain ⟨o, h1, h2⟩ := s1.at_ i _ ec
            obtain ⟨p, vs, rfl, h3, h4⟩ := h2
            refine ⟨p, rv.2 p h1, ⟨vs, .inl (.inl h3)⟩, ?_⟩
            rw [xg.K]
            exact hb2 κ1 H1 e1 s1 _ (wk_cell h1)
          | _ => cases k
      | _ => cases k
/-- range(n), range(a, b) -/
def inB (i : Int) : Bool := Nat.ble i.natAbs 4611686018427387903
def rngOf1 : List DV → Option Wk
  | [.int j] => if inB j = true then some (.fix ((List.range j.toNat).map fun i => .int (0 + (i : Nat)))) else none
  | _ => none
def rngOf2 : List DV → Option Wk
  | [.int i, .int j] => if inB i = true ∧ inB j = true then some (.fix ((List.range (j - i).toNat).map fun k => .int (i + (k : Nat)))) else none
  | _ => none
def iRng1' (r : DA) : DI := fun ρ μ => (r ρ μ).bind fun ds μ1 => R.of (rngOf1 ds) μ1
def iRng2' (r : DA) : DI := fun ρ μ => (r ρ μ).bind fun ds μ1 => R.of (rngOf2 ds) μ1
theorem inB_iff {i : Int} (h : inB i = true) : -(2 ^ 62) ≤ i ∧ i < 2 ^ 62 := by
  have h' : i.natAbs ≤ 4611686018427387903 := Nat.le_of_ble_eq_true h
  omega
theorem rng1_some {ds : List DV} {k : Wk} (h : rngOf1 ds = some k) : ∃ j, ds = [.int j] ∧ inB j = true ∧ k = .fix ((List.range j.toNat).map fun i => .int (0 + (i : Nat))) := by
  unfold rngOf1 at h
  split at h
  · split at h
    · rename_i j hb; cases h; exact ⟨j, rfl, hb, rfl⟩
    · cases h
  · cases h
theorem gi_rng1 {tg a : Expr} {p pos : Pos} (hg : Gl X "range") (hm : X.mg "range" = none) (ha : GA g W X [a] fr) (hs : starEach [a] X.env = [(false, eval a X.env)] := by rfl) : GI g W X tg (.Call (.Name "range" p) [a] [] pos) (iRng1' fr) :=
  PI.imp (pi_range1 hg hm ha hs) fun σ H R q => by
  obtain ⟨κ, ρ, μ, he, hs, hw⟩ := q
  refine ⟨κ, ρ, μ, he, hs, hw.bind.mono fun ds μ1 κ1 H1 e1 s1 h1 vs rv => ?_⟩
  cases k : rngOf1 ds with
  | none => rw [k] at h1; exact h1.elim
  | some wk =>
    rw [k] at h1
    obtain ⟨j, rfl, hb, rfl⟩ := rng1_some k
    obtain ⟨v, r, rfl, q1, q2⟩ := rv.of_cons
    cases q2.of_nil
    simp only [Rel] at q1
    subst q1
    obtain ⟨b1, b2⟩ := inB_iff hb
    exact ⟨j, rfl, b1, b2, h1 κ1 H1 Ext.refl s1 _ wk_rng⟩
end
end SD

set_option Elab.async false
set_option linter.all false
set_option maxRecDepth 100000
set_option maxHeartbeats 4000000
namespace SD
open PySem PySem.Spec PyProof.Rows L2
section
variable {g : Gc} {W : WX} {X : Cx} {a b c e : Expr} {es : List Expr} {fa fb fc : DE} {ft : DT} {fr : DA} {pos : Pos} {st : Stmt} {sts stb : List Stmt} {f h fs fu : DS}

def loopF (w : Wk) (t : DG) (f : DS) : Nat → Nat → DS
  | 0, _ => fun _ _ => .stuck
  | n + 1, k => fun ρ μ => match wkAt w μ k with
    | none => .stuck
    | some none => .nx ρ μ
    | some (some d) => match t d ρ μ with
      | none => .stuck
      | some ρ1 => match f ρ1 μ with
        | .nx ρ' μ' => loopF w t f n (k + 1) ρ' μ'
        | .ct ρ' μ' => loopF w t f n (k + 1) ρ' μ'
        | .bk ρ' μ' => .nx ρ' μ'
        | r => r
def sFor (it : DI) (t : DG) (f : DS) : DS := fun ρ μ => (it ρ μ).toS ρ fun w μ1 => loopF w t f (wkLen w μ1 + 1) 0 ρ μ1
theorem gs_for {tg iter : Expr} {fi : DI} {t : DG} {sl : List Nat} (hp : PassesOwn (model X.prog X.w) X.A X.env X.xe) (hc : X.calm = true) (hi : GI g W X tg iter fi) (hg : GG g X tg sl t) (hb : GSs g W X sts f)
    (hs : ∀ x, foldedSetIterable iter X.env x = pure x := by intro _; rfl) : GS g W X (.For tg iter sts [] pos) (sFor fi t f) := PS.imp (ps_for hp hc hi hg hb hs) fun D σ H q => by
  obtain ⟨κ, ρ, μ, he, hs, hw⟩ := q
  refine ⟨κ, ρ, μ, he, hs, (wpS.bind he hw).mono fun w μ1 κ1 H1 e1 s1 h1 J wk => ?_⟩
  refine ⟨fun i m σ H => ∃ κ ρ μ, Ext κ1 H1 κ H ∧ RelE g κ H ρ σ ∧ StoOk g κ H μ ∧ wpS g W D κ H (loopF w t f m i ρ μ), ⟨_, κ1, ρ, μ1, Ext.refl, he.ext e1, s1, h1⟩, ?_⟩
  intro i m σ2 H2 q
  obtain ⟨κ2, ρ2, μ2, e2, he2, s2, h2⟩ := q
  cases m with
  | zero => exact h2.elim
  | succ m =>
    unfold loopF at h2
    cases ew : wkAt w μ2 i with
    | none => rw [ew] at h2; exact h2.elim
    | some o =>
      rw [ew] at h2
      cases o with
      | none => exact .inl ⟨wk.stop i κ2 H2 μ2 e2.toExt0 s2 ew, h2 κ2 H2 σ2 Ext.refl s2 he2⟩
      | some d =>
        refine .inr ⟨wk.go i κ2 H2 μ2 d e2.toExt0 s2 ew, fun σ' H' => ∃ κ ρ μ, Ext κ1 H1 κ H' ∧ RelE g κ H' ρ σ' ∧ StoOk g κ H' μ ∧ wpS g W D κ H' (loopF w t f m (i + 1) ρ μ), fun σ' H' q => ⟨m, Nat.lt_succ_self _, q⟩, fun x H' y => ?_⟩
        obtain ⟨e3, s3, rx⟩ := wk.yld i κ2 H2 μ2 d x H' e2.toExt0 s2 ew y
        refine ⟨κ2, d, ρ2, μ2, rx, he2.ext e3, s3, ?_⟩
        simp only at h2
        cases et : t d ρ2 μ2 with
        | none => rw [et] at h2; exact h2.elim
        | some ρ3 =>
          rw [et] at h2
          intro σ3 he3 _ _
          refine ⟨κ2, ρ3, μ2, he3, s3, ?_⟩
          simp only at h2
          cases ef : f ρ3 μ2 with
          | nx ρ' μ' => rw [ef] at h2; exact fun κ4 H4 σ4 e4 s4 q4 => ⟨κ4, ρ', μ', e2.trans (e3.trans e4), q4, s4, wpS.ext (e3.trans e4) h2⟩
          | ct ρ' μ' => rw [ef] at h2; exact fun κ4 H4 σ4 e4 s4 q4 => ⟨κ4, ρ', μ', e2.trans (e3.trans e4), q4, s4, wpS.ext (e3.trans e4) h2⟩
          | bk ρ' μ' => rw [ef] at h2; exact wpS.ext e3 h2
          | rt d μ' => rw [ef] at h2; exact wpS.ext e3 h2
          | ex c ns xs ρ' μ' => rw [ef] at h2; exact wpS.ext e3 h2
          | stuck => rw [ef] at h2; exact h2

abbrev W0 : WX := fun _ _ _ _ => False
def wipeE (ρ : En) : List Nat → En
  | [] => ρ
  | v :: vs => (wipeE ρ vs).set v none
theorem RelE.wipe {κ : KA} {H : Hp} {ρ : En} {σ : L2.St} (h : RelE g κ H ρ σ) : ∀ vs : List Nat, RelE g κ H (wipeE ρ vs) (wipe σ vs)
  | [] => h
  | v :: vs => (RelE.wipe h vs).unset
def R.nox {α : Type} (r : R α) : R α := match r with
  | .ok a μ => .ok a μ
  | _ => .stuck
/-- the items that a comprehension makes -/
def loopL (w : Wk) (t : DG) (tt : DT) (te : DE) (ρ : En) : Nat → Nat → Sto → R (List DV)
  | 0, _, _ => .stuck
  | n + 1, k, μ => match wkAt w μ k with
    | none => .stuck
    | some none => .ok [] μ
    | some (some d) => match t d ρ μ with
      | none => .stuck
      | some ρ1 => (tt ρ1 μ).nox.bind fun b μ1 => if b = true then (te ρ1 μ1).nox.bind fun y μ2 => (loopL w t tt te ρ n (k + 1) μ2).bind fun ys μ3 => .ok (y :: ys) μ3 else loopL w t tt te ρ n (k + 1) μ1
def tYes' : DT := fun _ μ => .ok true μ
def eLcL (it : DI) (t : DG) (tt : DT) (te : DE) (vs : List Nat) : En → Sto → R (List DV) := fun ρ μ => (it ρ μ).bind fun w μ1 => if okLen (wkLen w μ1 + 1) = true then loopL w t tt te (wipeE ρ vs) (wkLen w μ1 + 1) 0 μ1 else .stuck
def eLc (it : DI) (t : DG) (tt : DT) (te : DE) (vs : List Nat) : DE := fun ρ μ => (eLcL it t tt te vs ρ μ).bind fun ys μ1 => .ok (.lst ys) μ1
def eLcC (it : DI) (t : DG) (tt : DT) (te : DE) (vs : List Nat) : DE := fun ρ μ => (eLcL it t tt te vs ρ μ).bind fun ys μ1 => .ok (.cell μ1.length) (μ1 ++ [.lst ys])
abbrev GTs (g : Gc) (W : WX) (X : Cx) (ifs : List Expr) (f : DT) : Prop := PTs X ifs (tT g W f)
theorem PTs.imp {X : Cx} {ifs : List Expr} {t u : TT} (h : PTs X ifs t) (f : ∀ σ H Q, u σ H Q → t σ H Q) : PTs X ifs u := ⟨fun pins s σ H Q I q => h.run pins s σ H Q I (f _ _ _ q)⟩
theorem gts_nil : GTs g W X [] tYes' := PTs.imp pts_nil fun σ H Q q => by
  obtain ⟨κ, ρ, μ, he, hs, hw⟩ := q
  exact hw κ H Ext.refl hs
theorem gts_one (h : GT g W X c ft) : GTs g W X [c] ft := PTs.imp (pts_one h) fun _ _ _ q => q

theorem wipe_get (i : Nat) : ∀ (vs : List Nat) (τ : L2.St), (wipe τ vs)[i]? = if i ∈ vs then (if i < τ.length then some none else none) else τ[i]?
  | [], τ => by simp [wipe]
  | v :: vs, τ => by
    unfold wipe
    by_cases hv : v = i
    · subst hv
      rw [if_pos (by simp)]
      by_cases hb : v < τ.length
      · rw [List.getElem?_set_self (by rw [wipe_length]; exact hb), if_pos hb]
      · rw [List.getElem?_eq_none (by rw [List.length_set, wipe_length]; omega), if_neg hb]
    · rw [List.getElem?_set_ne hv, wipe_get i vs τ]
      by_cases hm : i ∈ vs
      · rw [if_pos hm, if_pos (List.mem_cons_of_mem _ hm)]
      · rw [if_neg hm, if_neg (fun h => (List.mem_cons.mp h).elim (fun e => hv e.symm) hm)]
theorem wipe_eq {σ σ' : L2.St} {vs sl : List Nat} (hl : σ'.length = (wipe σ vs).length) (hk : ∀ i, i ∉ sl → σ'[i]? = (wipe σ vs)[i]?) (hsl : ∀ i ∈ sl, i ∈ vs) : wipe σ' vs = wipe σ vs := by
  apply List.ext_getElem?
  intro i
  rw [wipe_get, wipe_get]
  by_cases hm : i ∈ vs
  · rw [if_pos hm, if_pos hm, hl, wipe_length]
  · rw [if_neg hm, if_neg hm, hk i fun h => hm (hsl i h), wipe_get, if_neg hm]

/-- the heart: the list D is filled; at its end fin takes the items -/
theorem lc_read {fi : DI} {t : DG} {tt : DT} {te : DE} {vs sl : List Nat} {fin : List DV → Sto → R DV} {σ : L2.St} {H : Hp} {Q : VK} (hsl : ∀ i ∈ sl, i ∈ vs)
    (hfin : ∀ (κ1 : KA) (H1 : Hp) (κ : KA) (H : Hp) (μ1 μ : Sto) (D : Addr) (acc : List DV) (avs : List V), StoOk g κ1 H1 μ1 → H1 D = none → κ.gh = κ1.gh → Ext0 κ1 H1 (κ.hide D) H → (∀ a ∈ κ1.gh, NoTbl H1 a → H a = H1 a) →
      StoOk g (κ.hide D) H μ → H D = some (.lst avs) → RelL g (κ.hide D) H acc avs → wpR g W σ κ1 H1 (fin acc μ) (fun d _ κ' H' => ∀ v, Rel g κ' H' d v → Q v H') → Q (.ref D) H)
    (q : tE g W (fun ρ μ => (eLcL fi t tt te vs ρ μ).bind fin) σ H Q) : tLc (tI g W fi) (tG g sl t) (tT g W0 tt) (tE g W0 te) vs σ H Q := by
  obtain ⟨κ, ρ, μ, he, hs, hw⟩ := q
  have hw : wpR g W σ κ H ((fi ρ μ).bind fun w μ1 => (if okLen (wkLen w μ1 + 1) = true then loopL w t tt te (wipeE ρ vs) (wkLen w μ1 + 1) 0 μ1 else .stuck).bind fin) (fun d _ κ' H' => ∀ v, Rel g κ' H' d v → Q v H') := by
    have e : (eLcL fi t tt te vs ρ μ).bind fin = (fi ρ μ).bind fun w μ1 => (if okLen (wkLen w μ1 + 1) = true then loopL w t tt te (wipeE ρ vs) (wkLen w μ1 + 1) 0 μ1 else .stuck).bind fin := by
      unfold eLcL
      cases fi ρ μ <;> rfl
    rw [← e]; exact hw
  refine ⟨κ, ρ, μ, he, hs, hw.bind.mono fun w μ1 κ1 H1 e1 s1 h1 J wk D hD => ?_⟩
  by_cases hz : okLen (wkLen w μ1 + 1) = true
  case neg => rw [if_neg hz] at h1; exact h1.elim
  rw [if_pos hz] at h1
  have he1 := (he.ext e1).wipe vs
  have hz : wkLen w μ1 + 1 ≤ sizeLine := by simpa [okLen] using hz
  generalize hn : wkLen w μ1 = n at h1 hz
  -- the word
  refine ⟨fun i m H => ∃ (κ : KA) (μ : Sto) (acc : List DV) (avs : List V), κ.gh = κ1.gh ∧ Ext0 κ1 H1 (κ.hide D) H ∧ (∀ a ∈ κ1.gh, NoTbl H1 a → H a = H1 a) ∧ RelE g (κ.hide D) H (wipeE ρ vs) (wipe σ vs) ∧ StoOk g (κ.hide D) H μ ∧ H D = some (.lst avs) ∧ RelL g (κ.hide D) H acc avs ∧
      acc.length + m ≤ n + 1 ∧ wpR g W σ κ1 H1 ((loopL w t tt te (wipeE ρ vs) m i μ).bind fun ys μ' => fin (acc ++ ys) μ') (fun d _ κ' H' => ∀ v, Rel g κ' H' d v → Q v H'),
    ⟨n + 1, κ1, μ1, [], [], rfl, Ext0.hide hD, fun a ha _ => by obtain ⟨⟨u, hu⟩, _⟩ := s1.gst a ha; exact upd_ne (ne_of_none hu hD), ⟨he1.len, fun i d hd => by
      obtain ⟨v, a1, a2⟩ := he1.at_ i d hd
      exact ⟨v, a1, a2.ext0 (Ext0.hide hD)⟩⟩, s1.hide hD, upd_same, RelL.nil, by simp, h1⟩, ?_⟩
  intro i m H2 q
  obtain ⟨κ2, μ2, acc, avs, g2, x2, v2, he2, s2, hD2, ra, hm, h2⟩ := q
  cases m with
  | zero => exact h2.elim
  | succ m =>
    unfold loopL at h2
    cases ew : wkAt w μ2 i with
    | none => rw [ew] at h2; exact h2.elim
    | some o =>
      rw [ew] at h2
      cases o with
      | none =>
        refine .inl ⟨wk.stop i _ H2 μ2 x2 s2 ew, ?_⟩
        have h3 : wpR g W σ κ1 H1 (fin (acc ++ []) μ2) (fun d _ κ' H' => ∀ v, Rel g κ' H' d v → Q v H') := h2
        rw [List.append_nil] at h3
        exact hfin κ1 H1 κ2 H2 μ1 μ2 D acc avs s1 hD g2 x2 v2 s2 hD2 ra h3
      | some d =>
        refine .inr ⟨wk.go i _ H2 μ2 d x2 s2 ew, fun H => ∃ (κ : KA) (μ : Sto) (acc : List DV) (avs : List V), κ.gh = κ1.gh ∧ Ext0 κ1 H1 (κ.hide D) H ∧ (∀ a ∈ κ1.gh, NoTbl H1 a → H a = H1 a) ∧ RelE g (κ.hide D) H (wipeE ρ vs) (wipe σ vs) ∧ StoOk g (κ.hide D) H μ ∧ H D = some (.lst avs) ∧ RelL g (κ.hide D) H acc avs ∧
            acc.length + m ≤ n + 1 ∧ wpR g W σ κ1 H1 ((loopL w t tt te (wipeE ρ vs) m (i + 1) μ).bind fun ys μ' => fin (acc ++ ys) μ') (fun d _ κ' H' => ∀ v, Rel g κ' H' d v → Q v H'), fun H' q => ⟨m, Nat.lt_succ_self _, q⟩, fun x H' y => ?_⟩
        obtain ⟨e3, s3, rx⟩ := wk.yld i _ H2 μ2 d x H' x2 s2 ew y
        refine ⟨κ2.hide D, d, wipeE ρ vs, μ2, rx, he2.ext e3, s3, ?_⟩
        simp only at h2
        cases et : t d (wipeE ρ vs) μ2 with
        | none => rw [et] at h2; exact h2.elim
        | some ρ3 =>
          rw [et] at h2
          intro σ3 he3 hl3 hk3
          refine ⟨wipe_eq hl3 hk3 hsl, κ2.hide D, ρ3, μ2, he3, s3, ?_⟩
          have hz0 : ∀ {α : Type} {r : R α} {Φ : α → Sto → KA → Hp → Prop}, (∀ a μ, r = .ok a μ → ∀ κ' H'', Ext (κ2.hide D) H' κ' H'' → StoOk g κ' H'' μ → Φ a μ κ' H'') → (∀ c ns xs μ, r ≠ .ex c ns xs μ) → r ≠ .stuck → wpR g W0 σ3 (κ2.hide D) H' r Φ := by
            intro α r Φ h1 h2 h3
            cases r with
            | ok a μ => exact h1 a μ rfl
            | ex c ns xs μ => exact (h2 c ns xs μ rfl).elim
            | stuck => exact (h3 rfl).elim
          -- the state behind the item
          have x3 : Ext0 κ1 H1 (κ2.hide D) H' := x2.trans e3.toExt0
          have nl : ∀ {K : Hp} {l : List V}, K D = some (.lst l) → NoTbl K D := fun {K l} e ps z => by rw [e] at z; cases z
          have nv : ∀ {K : Hp} {a : Addr}, K a = H1 a → NoTbl H1 a → NoTbl K a := fun {K a} e n ps z => n ps (by rw [← e]; exact z)
          have v3 : ∀ a ∈ κ1.gh, NoTbl H1 a → H' a = H1 a := fun a ha n => (e3.ghv a (by show a ∈ D :: κ2.gh; rw [g2]; exact List.mem_cons_of_mem _ ha) (nv (v2 a ha n) n)).trans (v2 a ha n)
          have hD3 : H' D = some (.lst avs) := (e3.ghv D (by show D ∈ D :: κ2.gh; simp) (nl hD2)).trans hD2
          have ra3 := ra.ext e3
          have he3' := he2.ext e3
          -- hides again
          have again : ∀ {κ4 : KA}, κ4.gh = (κ2.hide D).gh → κ4 = (KA.mk κ4.cs κ2.gh).hide D := fun {κ4} e => by
            obtain ⟨cs, gh⟩ := κ4
            show KA.mk cs gh = KA.mk cs (D :: κ2.gh)
            rw [show gh = D :: κ2.gh from e]
          simp only at h2
          cases eb : tt ρ3 μ2 with
          | stuck => rw [eb] at h2; exact h2.elim
          | ex c ns xs μ3 => rw [eb] at h2; exact h2.elim
          | ok b μ3 =>
            rw [eb] at h2
            intro κ3 H3 e4 s4
            have x4 : Ext0 κ1 H1 κ3 H3 := x3.trans e4.toExt0
            have v4 : ∀ a ∈ κ1.gh, NoTbl H1 a → H3 a = H1 a := fun a ha n => (e4.ghv a (by show a ∈ D :: κ2.gh; rw [g2]; exact List.mem_cons_of_mem _ ha) (nv (v3 a ha n) n)).trans (v3 a ha n)
            have hD4 : H3 D = some (.lst avs) := (e4.ghv D (by show D ∈ D :: κ2.gh; simp) (nl hD3)).trans hD3
            have k3 := again e4.ghs
            cases b with
            | false =>
              refine iteF ?_
              have h3 : wpR g W σ κ1 H1 ((loopL w t tt te (wipeE ρ vs) m (i + 1) μ3).bind fun ys μ' => fin (acc ++ ys) μ') (fun d _ κ' H' => ∀ v, Rel g κ' H' d v → Q v H') := h2
              exact ⟨KA.mk κ3.cs κ2.gh, μ3, acc, avs, g2, by rw [← k3]; exact x4, v4, by rw [← k3]; exact he3'.ext e4, by rw [← k3]; exact s4, hD4, by rw [← k3]; exact ra3.ext e4, by omega, h3⟩
            | true =>
              refine iteT ?_
              refine ⟨κ3, ρ3, μ3, he3.ext e4, s4, ?_⟩
              cases ey : te ρ3 μ3 with
              | stuck => 
                have h3 : wpR g W σ κ1 H1 (((te ρ3 μ3).nox.bind fun y μ2 => (loopL w t tt te (wipeE ρ vs) m (i + 1) μ2).bind fun ys μ3 => .ok (y :: ys) μ3).bind fun ys μ' => fin (acc ++ ys) μ') (fun d _ κ' H' => ∀ v, Rel g κ' H' d v → Q v H') := h2
                rw [ey] at h3; exact h3.elim
              | ex c ns xs μ4 =>
                have h3 : wpR g W σ κ1 H1 (((te ρ3 μ3).nox.bind fun y μ2 => (loopL w t tt te (wipeE ρ vs) m (i + 1) μ2).bind fun ys μ3 => .ok (y :: ys) μ3).bind fun ys μ' => fin (acc ++ ys) μ') (fun d _ κ' H' => ∀ v, Rel g κ' H' d v → Q v H') := h2
                rw [ey] at h3; exact h3.elim
              | ok yv μ4 =>
                have h3 : wpR g W σ κ1 H1 (((te ρ3 μ3).nox.bind fun y μ2 => (loopL w t tt te (wipeE ρ vs) m (i + 1) μ2).bind fun ys μ3 => .ok (y :: ys) μ3).bind fun ys μ' => fin (acc ++ ys) μ') (fun d _ κ' H' => ∀ v, Rel g κ' H' d v → Q v H') := h2
                rw [ey] at h3
                have h4 : wpR g W σ κ1 H1 ((loopL w t tt te (wipeE ρ vs) m (i + 1) μ4).bind fun ys μ' => fin ((acc ++ [yv]) ++ ys) μ') (fun d _ κ' H' => ∀ v, Rel g κ' H' d v → Q v H') := by
                  have e : (loopL w t tt te (wipeE ρ vs) m (i + 1) μ4).bind (fun ys μ' => fin ((acc ++ [yv]) ++ ys) μ') = (((R.ok yv μ4 : R DV).nox.bind fun y μ2 => (loopL w t tt te (wipeE ρ vs) m (i + 1) μ2).bind fun ys μ3 => .ok (y :: ys) μ3).bind fun ys μ' => fin (acc ++ ys) μ') := by
                    show _ = ((loopL w t tt te (wipeE ρ vs) m (i + 1) μ4).bind fun ys μ3 => R.ok (yv :: ys) μ3).bind fun ys μ' => fin (acc ++ ys) μ'
                    cases loopL w t tt te (wipeE ρ vs) m (i + 1) μ4 with
                    | ok ys μ5 => show fin ((acc ++ [yv]) ++ ys) μ5 = fin (acc ++ yv :: ys) μ5; rw [List.append_assoc]; rfl
                    | ex c ns xs μ5 => rfl
                    | stuck => rfl
                  rw [e]; exact h3
                intro κ4 H4 e5 s5 v rv
                have x5 : Ext0 κ1 H1 κ4 H4 := x4.trans e5.toExt0
                have gh4 : κ4.gh = (κ2.hide D).gh := e5.ghs.trans e4.ghs
                have mD : D ∈ κ4.gh := by rw [gh4]; show D ∈ D :: κ2.gh; simp
                have v5 : ∀ a ∈ κ1.gh, NoTbl H1 a → H4 a = H1 a := fun a ha n => (e5.ghv a (by rw [e4.ghs]; show a ∈ D :: κ2.gh; rw [g2]; exact List.mem_cons_of_mem _ ha) (nv (v4 a ha n) n)).trans (v4 a ha n)
                have hD5 : H4 D = some (.lst avs) := (e5.ghv D (by rw [e4.ghs]; show D ∈ D :: κ2.gh; simp) (nl hD4)).trans hD4
                have k4 := again gh4
                have ra5 := (ra3.ext e4).ext e5
                have xw : Ext0 κ4 H4 κ4 (upd H4 D (.lst (avs ++ [v]))) := Ext0.write (.inr mD)
                have dn : ∀ a ∈ κ1.gh, a ≠ D := fun a ha e => by
                  obtain ⟨⟨u, hu⟩, _⟩ := s1.gst a ha
                  rw [e, hD] at hu; cases hu
                refine ⟨avs, hD5, ?_, ?_⟩
                · have := ra5.length; omega
                · have heX := (he3'.ext e4).ext e5
                  have he6 : RelE g κ4 (upd H4 D (.lst (avs ++ [v]))) (wipeE ρ vs) (wipe σ vs) := ⟨heX.len, fun i d hd => by
                    obtain ⟨v', a1, a2⟩ := heX.at_ i d hd
                    exact ⟨v', a1, a2.ext0 xw⟩⟩
                  exact ⟨KA.mk κ4.cs κ2.gh, μ4, acc ++ [yv], avs ++ [v], g2, by rw [← k4]; exact x5.trans xw, fun a ha n => by rw [upd_ne (dn a ha)]; exact v5 a ha n, by rw [← k4]; exact he6, by rw [← k4]; exact s5.fill mD (nl hD5), upd_same, by rw [← k4]; exact RelL.append (ra5.ext0 xw) (RelL.cons (rv.ext0 xw) RelL.nil), by simp; omega, h4⟩
theorem lc_frozen {fi : DI} {t : DG} {tt : DT} {te : DE} {vs sl : List Nat} {σ : L2.St} {H : Hp} {Q : VK} (hsl : ∀ i ∈ sl, i ∈ vs) (q : tE g W (eLc fi t tt te vs) σ H Q) : tLc (tI g W fi) (tG g sl t) (tT g W0 tt) (tE g W0 te) vs σ H Q := by
  refine lc_read hsl (fun κ1 H1 κ H μ1 μ D acc avs s1 hD g2 x v s hD2 ra h => ?_) q
  have nD : ¬ κ.has D := fun m => m.elim (fun m => (s.gst D (by show D ∈ D :: κ.gh; simp)).2 m) fun m => by
    rw [g2] at m
    obtain ⟨⟨u, hu⟩, _⟩ := s1.gst D m
    rw [hD] at hu; cases hu
  have ex : Ext κ1 H1 κ H := ⟨x.trans Ext0.show', g2, v⟩
  refine h κ H ex (s.show' fun ps z => by rw [hD2] at z; cases z) (.ref D) ?_
  simp only [Rel]
  exact ⟨D, avs, rfl, ⟨hD2, nD⟩, ra.ext0 Ext0.show'⟩
section
variable {elt tg iter : Expr} {ifs : List Expr} {scope : Scope} {own : List (Str × Nat)} {fi : DI} {t : DG} {tt : DT} {te : DE} {sl : List Nat} {N : List Str} {sc : Scope}
theorem ge_lc (hc : X.calm = true) (hN : X.N.Nodup) (hi : GI g W X tg iter fi) (eN : X.N = N) (eS : X.env.scope = sc) (ok : blkC N sc scope own = true)
    (hg : ∀ (s : Shared) (H : Hp) (C : Addr) (cl : List (Str × Addr)) (fp : List Addr), GG g (X.blk s H scope (compEnvC scope cl C X.env) fp) tg sl t)
    (ht : ∀ (s : Shared) (H : Hp) (C : Addr) (cl : List (Str × Addr)) (fp : List Addr), GTs g W0 (X.blk s H scope (compEnvC scope cl C X.env) fp) ifs tt)
    (he : ∀ (s : Shared) (H : Hp) (C : Addr) (cl : List (Str × Addr)) (fp : List Addr), GE g W0 (X.blk s H scope (compEnvC scope cl C X.env) fp) elt te)
    (hsl : sl.all (fun i => decide (i ∈ own.map (·.2))) = true := by rfl) (hs : ∀ x, foldedSetIterable iter X.env x = pure x := by intro _; rfl) :
    GE g W X (.ListComp elt [⟨tg, iter, ifs, 0⟩] scope pos) (eLc fi t tt te (own.map (·.2))) :=
  by
  subst eN eS
  exact PE.imp (pe_lc hc hN hi (blkOk_by ok) hg ht he hs) fun _ _ _ q => lc_frozen (fun i hi => of_decide_eq_true (List.all_eq_true.mp hsl i hi)) q
/-- name = [..] on one line -/
theorem gs_setLc {i : Nat} {y : Str} {py spos : Pos} (hc : X.calm = true) (hN : X.N.Nodup) (hy : X.N[i]? = some y) (hyl : X.env.scope.names.lookup y = some .local)
    (hsw : swapsWith (.ListComp elt [⟨tg, iter, ifs, 0⟩] scope pos) (some (.Name y py)) spos.line X.env = pure true) (hi : GI g W X tg iter fi) (eN : X.N = N) (eS : X.env.scope = sc) (ok : blkC N sc scope own = true)
    (hg : ∀ (s : Shared) (H : Hp) (C : Addr) (cl : List (Str × Addr)) (fp : List Addr), GG g (X.blk s H scope (compEnvC scope cl C X.env) fp) tg sl t)
    (ht : ∀ (s : Shared) (H : Hp) (C : Addr) (cl : List (Str × Addr)) (fp : List Addr), GTs g W0 (X.blk s H scope (compEnvC scope cl C X.env) fp) ifs tt)
    (he : ∀ (s : Shared) (H : Hp) (C : Addr) (cl : List (Str × Addr)) (fp : List Addr), GE g W0 (X.blk s H scope (compEnvC scope cl C X.env) fp) elt te)
    (hsl : sl.all (fun i => decide (i ∈ own.map (·.2))) = true := by rfl) (hs : ∀ x, foldedSetIterable iter X.env x = pure x := by intro _; rfl) :
    GS g W X (.Assign [.Name y py] (.ListComp elt [⟨tg, iter, ifs, 0⟩] scope pos) spos) (sAsg (eLc fi t tt te (own.map (·.2))) (gN i)) := by
  subst eN eS
  refine PS.imp (ps_setLc hc hN hy hyl hsw hi (blkOk_by ok) hg ht he hs) fun D σ H q => ?_
  refine lc_frozen (fun i hi => of_decide_eq_true (List.all_eq_true.mp hsl i hi)) ?_
  obtain ⟨κ, ρ, μ, he, hs, hw⟩ := q
  refine ⟨κ, ρ, μ, he, hs, (wpS.bind he hw).mono fun d μ1 κ1 H1 e1 s1 h1 v rv => ?_⟩
  exact h1 κ1 H1 _ Ext.refl s1 ((he.ext e1).set rv)
end
end
end SD

set_option Elab.async false
set_option linter.all false
set_option maxRecDepth 100000
set_option maxHeartbeats 4000000
namespace SD
open PySem PySem.Spec PyProof.Rows L2

abbrev Fn := List DV → Sto → R DV
/-- how a def's value is handed back: fz: frozen; cl: as a new cell; an: a new cell as such, all else frozen -/
inductive Md where | fz | cl | an
def finF (n : Nat) (d : DV) (μ : Sto) : R DV :=
  if μ.length = n then .ok d μ else
    if (μ.take n).all (CO.low n) = true then
      match d with
      | .cell i => if i < n then .ok (.cell i) (μ.take n) else match μ[i]? with
        | some (.lst xs) => if lowL n xs = true then .ok (.lst xs) (μ.take n) else .stuck
        | some (.ins c ns xs) => if lowL n xs = true then .ok (.obj c ns xs) (μ.take n) else .stuck
        | _ => .stuck
      | d => if d.low n = true then .ok d (μ.take n) else .stuck
    else .stuck
def finC (n : Nat) (d : DV) (μ : Sto) : R DV :=
  if (μ.take n).all (CO.low n) = true then
    match d with
    | .cell i => if i < n then .stuck else match μ[i]? with
      | some (.lst xs) => if lowL n xs = true then .ok (.cell n) (μ.take n ++ [.lst xs]) else .stuck
      | _ => .stuck
    | _ => .stuck
  else .stuck
def finA (n : Nat) (d : DV) (μ : Sto) : R DV := match d with
  | .cell i => if i < n then finF n (.cell i) μ else finC n (.cell i) μ
  | d => finF n d μ
def fin (md : Md) (n : Nat) (d : DV) (μ : Sto) : R DV := match md with
  | .fz => finF n d μ
  | .cl => finC n d μ
  | .an => finA n d μ
def finX (n c : Nat) (ns : List Str) (xs : List DV) (μ : Sto) : R DV :=
  if μ.length = n then .ex c ns xs μ else
    if ((μ.take n).all (CO.low n) && lowL n xs) = true then .ex c ns xs (μ.take n) else .stuck
/-- a def: np parameters, n slots -/
def runF (md : Md) (np n : Nat) (body : DS) : Fn := fun ds μ => if ds.length = np then
    match body (ds.map some ++ List.replicate (n - ds.length) none) μ with
    | .nx _ μ' => fin md μ.length .non μ'
    | .rt d μ' => fin md μ.length d μ'
    | .ex c ns xs _ μ' => finX μ.length c ns xs μ'
    | _ => .stuck
  else .stuck

section
variable {g : Gc} {κ κ' : KA} {H H' : Hp} {μ μ' : Sto}
theorem all_low {n : Nat} (h : (μ'.take n).all (CO.low n) = true) : ∀ c ∈ μ'.take n, c.low n = true := fun c hc => List.all_eq_true.mp h c hc
theorem finF_ok {d d' : DV} {μ'' : Sto} {v : V} (s : StoOk g κ H μ) (e : Ext κ H κ' H') (s' : StoOk g κ' H' μ') (r : Rel g κ' H' d v) (h : finF μ.length d μ' = .ok d' μ'') :
    ∃ κ'', Ext κ H κ'' H' ∧ StoOk g κ'' H' μ'' ∧ Rel g κ'' H' d' v := by
  unfold finF at h
  by_cases hl : μ'.length = μ.length
  · rw [if_pos hl] at h; cases h; exact ⟨κ', e, s', r⟩
  rw [if_neg hl] at h
  by_cases ha : (μ'.take μ.length).all (CO.low μ.length) = true
  case neg => rw [if_neg ha] at h; cases h
  rw [if_pos ha] at h
  have hn : μ.length ≤ κ'.cs.length := by rw [← s.len]; exact e.len
  have ex : Ext κ H (κ'.cut μ.length) H' := by rw [← s.len]; exact e.cut
  have so : StoOk g (κ'.cut μ.length) H' (μ'.take μ.length) := s'.cut hn (all_low ha)
  have gen : d.low μ.length = true → (R.ok d (μ'.take μ.length) : R DV) = .ok d' μ'' → ∃ κ'', Ext κ H κ'' H' ∧ StoOk g κ'' H' μ'' ∧ Rel g κ'' H' d' v := fun hb h => by
    cases h; exact ⟨_, ex, so, r.cut hn hb⟩
  cases d with
  | cell i =>
    simp only at h
    by_cases hi : i < μ.length
    · rw [if_pos hi] at h
      exact gen (by simp [DV.low, hi]) h
    · rw [if_neg hi] at h
      simp only [Rel] at r
      cases ec : μ'[i]? with
      | none => rw [ec] at h; cases h
      | some co =>
        rw [ec] at h
        obtain ⟨a, h1, h2⟩ := s'.at_ i _ ec
        have apart : ∀ p, κ'.cs[i]? = some (some p) → ¬ (κ'.cut μ.length).has p := fun p hp m => by
          rcases m with m | m
          · obtain ⟨j, hj⟩ := List.getElem?_of_mem m
            have hj : (κ'.cs.take μ.length)[j]? = some (some p) := hj
            have hlj := (List.getElem?_eq_some_iff.mp hj).1
            rw [List.length_take] at hlj
            rw [List.getElem?_take_of_lt (by omega)] at hj
            have := s'.inj i j p hp hj
            omega
          · exact (s'.gst p m).2 (List.mem_of_getElem? hp)
        cases co with
        | dead => cases h
        | lst xs =>
          simp only at h
          by_cases hx : lowL μ.length xs = true
          · rw [if_pos hx] at h
            cases h
            obtain ⟨p, vs, rfl, h3, h4⟩ := h2
            refine ⟨_, ex, so, ?_⟩
            simp only [Rel]
            exact ⟨p, vs, r.2 p h1, ⟨h3, apart p h1⟩, h4.cut hn hx⟩
          · rw [if_neg hx] at h; cases h
        | ins c ns xs =>
          simp only at h
          by_cases hx : lowL μ.length xs = true
          · rw [if_pos hx] at h
            cases h
            obtain ⟨p, dx, vs, rfl, h3, hl, h4⟩ := h2
            refine ⟨_, ex, so, ?_⟩
            simp only [Rel]
            exact ⟨p, dx, vs, r.2 p h1, ⟨h3, apart p h1⟩, hl, h4.cut hn hx⟩
          · rw [if_neg hx] at h; cases h
        | dct ks xs => cases h
  | non => simp only at h; split at h; exact gen (by assumption) h; cases h
  | bl b => simp only at h; split at h; exact gen (by assumption) h; cases h
  | int i => simp only at h; split at h; exact gen (by assumption) h; cases h
  | str x => simp only at h; split at h; exact gen (by assumption) h; cases h
  | ty x => simp only at h; split at h; exact gen (by assumption) h; cases h
  | gl x => simp only at h; split at h; exact gen (by assumption) h; cases h
  | tup x => simp only at h; split at h; exact gen (by assumption) h; cases h
  | lst x => simp only at h; split at h; exact gen (by assumption) h; cases h
  | scr x => simp only at h; split at h; exact gen (by assumption) h; cases h
  | dct k x => simp only at h; split at h; exact gen (by assumption) h; cases h
  | obj c k x => simp only at h; split at h; exact gen (by assumption) h; cases h
  | exn c k x => simp only at h; split at h; exact gen (by assumption) h; cases h
theorem finC_ok {d d' : DV} {μ'' : Sto} {v : V} (s : StoOk g κ H μ) (e : Ext κ H κ' H') (s' : StoOk g κ' H' μ') (r : Rel g κ' H' d v) (h : finC μ.length d μ' = .ok d' μ'') :
    ∃ κ'', Ext κ H κ'' H' ∧ StoOk g κ'' H' μ'' ∧ Rel g κ'' H' d' v := by
  unfold finC at h
  by_cases ha : (μ'.take μ.length).all (CO.low μ.length) = true
  case neg => rw [if_neg ha] at h; cases h
  rw [if_pos ha] at h
  have hn : μ.length ≤ κ'.cs.length := by rw [← s.len]; exact e.len
  have ex : Ext κ H (κ'.cut μ.length) H' := by rw [← s.len]; exact e.cut
  have so : StoOk g (κ'.cut μ.length) H' (μ'.take μ.length) := s'.cut hn (all_low ha)
  cases d with
  | cell i =>
    simp only at h
    by_cases hi : i < μ.length
    · rw [if_pos hi] at h; cases h
    · rw [if_neg hi] at h
      simp only [Rel] at r
      cases ec : μ'[i]? with
      | none => rw [ec] at h; cases h
      | some co =>
        rw [ec] at h
        obtain ⟨a, h1, h2⟩ := s'.at_ i _ ec
        cases co with
        | lst xs =>
          simp only at h
          by_cases hx : lowL μ.length xs = true
          · rw [if_pos hx] at h
            cases h
            obtain ⟨p, vs, rfl, h3, h4⟩ := h2
            have apart : ¬ (κ'.cut μ.length).has p := fun m => by
              rcases m with m | m
              · obtain ⟨j, hj⟩ := List.getElem?_of_mem m
                have hj : (κ'.cs.take μ.length)[j]? = some (some p) := hj
                have hlj := (List.getElem?_eq_some_iff.mp hj).1
                rw [List.length_take] at hlj
                rw [List.getElem?_take_of_lt (by omega)] at hj
                have := s'.inj i j p h1 hj
                omega
              · exact (s'.gst p m).2 (List.mem_of_getElem? h1)
            have len : (κ'.cut μ.length).cs.length = μ.length := by show (κ'.cs.take μ.length).length = _; rw [List.length_take]; omega
            -- the hidden way: p is hidden first, then known as a cell
            have xe : Ext0 (κ'.cut μ.length) H' ((κ'.cut μ.length).hide p) H' → True := fun _ => trivial
            have hHp : ∀ q ∈ (κ'.cut μ.length).gh, q ≠ p := fun q hq e => apart (.inr (e ▸ hq))
            have rel : RelL g (κ'.cut μ.length) H' xs vs := h4.cut hn hx
            -- what stands in κ' stands apart from p as well, for p is a cell there
            have x1 : Ext0 κ' H' ((κ'.cut μ.length).more p) H' → True := fun _ => trivial
            have sep : ∀ a o, H' a = some o → ¬ κ'.has a → ¬ ((κ'.cut μ.length).more p).has a := fun a o ha n m => by
              rcases m with m | m
              · rcases List.mem_append.mp m with m | m
                · exact n (.inl (List.mem_of_mem_take m))
                · have : a = p := by simpa using m
                  exact n (.inl (by rw [this]; exact List.mem_of_getElem? h1))
              · exact n (.inr m)
            have relM : ∀ {xs : List DV} {vs : List V}, RelL g κ' H' xs vs → lowL μ.length xs = true → RelL g ((κ'.cut μ.length).more p) H' xs vs := by
              -- by a detour: cells below the bound keep their places
              have y : Ext0 (KA.mk (κ'.cs.take μ.length ++ κ'.cs.drop μ.length) κ'.gh) H' ((κ'.cut μ.length).more p) H' → True := fun _ => trivial
              have both : (∀ (d : DV) (v : V), Rel g κ' H' d v → d.low μ.length = true → Rel g ((κ'.cut μ.length).more p) H' d v) ∧ (∀ (xs : List DV) (vs : List V), RelL g κ' H' xs vs → lowL μ.length xs = true → RelL g ((κ'.cut μ.length).more p) H' xs vs) := by
                have at' : ∀ {a o}, At κ' H' a o → At ((κ'.cut μ.length).more p) H' a o := fun {a o} h => ⟨h.1, sep a o h.1 h.2⟩
                have fl : ∀ {a vs}, FrL g κ' H' a vs → FrL g ((κ'.cut μ.length).more p) H' a vs := fun {a vs} h => by
                  rcases h with h | ⟨ob, h⟩ | h
                  · exact .inl (at' h)
                  · exact .inr (.inl ⟨ob, at' h⟩)
                  · exact .inr (.inr h)
                have ft : ∀ {a vs}, FrT g κ' H' a vs → FrT g ((κ'.cut μ.length).more p) H' a vs := fun {a vs} h => by
                  rcases h with ⟨ob, d, h⟩ | h
                  · exact .inl ⟨ob, d, at' h⟩
                  · exact .inr h
                suffices hh : ∀ n : Nat, (∀ (d : DV) (v : V), sizeOf d < n → Rel g κ' H' d v → d.low μ.length = true → Rel g ((κ'.cut μ.length).more p) H' d v) ∧ (∀ (xs : List DV) (vs : List V), sizeOf xs < n → RelL g κ' H' xs vs → lowL μ.length xs = true → RelL g ((κ'.cut μ.length).more p) H' xs vs) from
                  ⟨fun d v => (hh (sizeOf d + 1)).1 d v (Nat.lt_succ_self _), fun xs vs => (hh (sizeOf xs + 1)).2 xs vs (Nat.lt_succ_self _)⟩
                intro n
                induction n with
                | zero => exact ⟨fun _ _ h => absurd h (Nat.not_lt_zero _), fun _ _ h => absurd h (Nat.not_lt_zero _)⟩
                | succ n ih =>
                  refine ⟨fun d v hs r b => ?_, fun xs vs hs r b => ?_⟩
                  · cases d with
                    | tup xs =>
                      simp only [Rel] at r ⊢; simp only [DV.low] at b
                      obtain ⟨a, vs, h1, h2, h3⟩ := r
                      exact ⟨a, vs, h1, ft h2, ih.2 xs vs (by simp at hs; omega) h3 b⟩
                    | lst xs =>
                      simp only [Rel] at r ⊢; simp only [DV.low] at b
                      obtain ⟨a, vs, h1, h2, h3⟩ := r
                      exact ⟨a, vs, h1, at' h2, ih.2 xs vs (by simp at hs; omega) h3 b⟩
                    | scr xs =>
                      simp only [Rel] at r ⊢; simp only [DV.low] at b
                      obtain ⟨a, vs, h1, h2, h3⟩ := r
                      exact ⟨a, vs, h1, fl h2, ih.2 xs vs (by simp at hs; omega) h3 b⟩
                    | dct ks xs =>
                      simp only [Rel] at r ⊢; simp only [DV.low] at b
                      obtain ⟨a, vs, h1, h2, hl, h3⟩ := r
                      exact ⟨a, vs, h1, at' h2, hl, ih.2 xs vs (by simp at hs; omega) h3 b⟩
                    | obj c ns xs =>
                      simp only [Rel] at r ⊢; simp only [DV.low] at b
                      obtain ⟨a, dx, vs, h1, h2, hl, h3⟩ := r
                      exact ⟨a, dx, vs, h1, at' h2, hl, ih.2 xs vs (by simp at hs; omega) h3 b⟩
                    | exn c ns xs =>
                      simp only [Rel] at r ⊢; simp only [DV.low] at b
                      obtain ⟨a, d, vs, h0, h1, h2, hl, h3⟩ := r
                      exact ⟨a, d, vs, h0, h1, at' h2, hl, ih.2 xs vs (by simp at hs; omega) h3 b⟩
                    | cell i =>
                      simp only [Rel] at r ⊢; simp only [DV.low, decide_eq_true_eq] at b
                      refine ⟨by show i < (κ'.cs.take μ.length ++ [some p]).length; simp; omega, fun a ha => r.2 a ?_⟩
                      have ha : (κ'.cs.take μ.length ++ [some p])[i]? = some (some a) := ha
                      rw [List.getElem?_append_left (by rw [List.length_take]; omega), List.getElem?_take_of_lt b] at ha
                      exact ha
                    | _ => simp only [Rel] at r ⊢; exact r
                  · cases xs with
                    | nil => simp only [RelL] at r ⊢; exact r
                    | cons x xs =>
                      simp only [lowL, Bool.and_eq_true] at b
                      obtain ⟨v, r', rfl, q1, q2⟩ := r.of_cons
                      exact RelL.cons (ih.1 x v (by simp at hs; omega) q1 b.1) (ih.2 xs r' (by simp at hs; omega) q2 b.2)
              exact fun {xs vs} => both.2 xs vs
            refine ⟨(κ'.cut μ.length).more p, ⟨⟨ex.keep, fun a o ha n => ?_, ?_, fun j a hj ha => ?_⟩, ex.ghs, ex.ghv⟩, ⟨?_, ?_, ?_, ?_, ?_⟩, ?_⟩
            · exact sep a o (e.keep a o ha n) (e.sep a o ha n)
            · show κ.cs.length ≤ (κ'.cs.take μ.length ++ [some p]).length
              have := s.len; simp; omega
            · have ha : (κ'.cs.take μ.length ++ [some p])[j]? = some (some a) := ha
              have hjl : j < μ.length := by rw [← s.len]; exact hj
              rw [List.getElem?_append_left (by rw [List.length_take]; omega), List.getElem?_take_of_lt hjl] at ha
              exact e.old j a hj ha
            · show (κ'.cs.take μ.length ++ [some p]).length = _
              have h1' := s'.len
              simp; omega
            · intro j k a hj hk
              have key : ∀ (i : Nat), (κ'.cs.take μ.length ++ [some p])[i]? = some (some a) → (i < μ.length ∧ κ'.cs[i]? = some (some a)) ∨ (i = μ.length ∧ a = p) := fun i hi => by
                have lt : (κ'.cs.take μ.length).length = μ.length := by rw [List.length_take]; omega
                by_cases hl : i < μ.length
                · rw [List.getElem?_append_left (by omega), List.getElem?_take_of_lt hl] at hi; exact .inl ⟨hl, hi⟩
                · rw [List.getElem?_append_right (by omega), lt] at hi
                  have : i - μ.length = 0 := by
                    have := (List.getElem?_eq_some_iff.mp hi).1
                    simp at this; omega
                  rw [this] at hi
                  have e : p = a := by simpa using hi
                  exact .inr ⟨by omega, e.symm⟩
              rcases key j hj with ⟨a1, a2⟩ | ⟨a1, a2⟩ <;> rcases key k hk with ⟨a3, a4⟩ | ⟨a3, a4⟩
              · exact s'.inj j k a a2 a4
              · rw [a4] at a2; have := s'.inj i j p h1 a2; omega
              · rw [a2] at a4; have := s'.inj i k p h1 a4; omega
              · omega
            · intro j c hc
              show ∃ a, (κ'.cs.take μ.length ++ [some p])[j]? = some a ∧ _
              have lt : (μ'.take μ.length).length = μ.length := by have := s'.len; rw [List.length_take]; omega
              have ltk : (κ'.cs.take μ.length).length = μ.length := by rw [List.length_take]; omega
              by_cases hl : j < μ.length
              · rw [List.getElem?_append_left (by omega)] at hc
                have hm := List.mem_of_getElem? hc
                rw [List.getElem?_take_of_lt hl] at hc
                obtain ⟨a, a1, a2⟩ := s'.at_ j c hc
                refine ⟨a, by rw [List.getElem?_append_left (by omega), List.getElem?_take_of_lt hl]; exact a1, ?_⟩
                have b := all_low ha c hm
                cases c with
                | dead => exact a2
                | lst xs =>
                  obtain ⟨p', vs', rfl, h5, h6⟩ := a2
                  exact ⟨p', vs', rfl, h5, relM h6 b⟩
                | ins c ns xs =>
                  obtain ⟨p', dx, vs', rfl, h5, hl, h6⟩ := a2
                  exact ⟨p', dx, vs', rfl, h5, hl, relM h6 b⟩
                | dct ks xs =>
                  obtain ⟨p', vs', rfl, h5, hl, h6⟩ := a2
                  exact ⟨p', vs', rfl, h5, hl, relM h6 b⟩
              · rw [List.getElem?_append_right (by omega), lt] at hc
                have e0 : j - μ.length = 0 := by
                  have := (List.getElem?_eq_some_iff.mp hc).1
                  simp at this; omega
                rw [e0] at hc
                have ec : CO.lst xs = c := by simpa using hc
                subst ec
                refine ⟨some p, by rw [List.getElem?_append_right (by omega), ltk, e0]; rfl, p, vs, rfl, h3, relM h4 hx⟩
            · intro a ha
              obtain ⟨b1, b2⟩ := s'.gst a ha
              refine ⟨b1, fun m => ?_⟩
              rcases List.mem_append.mp m with m | m
              · exact b2 (List.mem_of_mem_take m)
              · have : a = p := by simpa using m
                exact hHp a ha this
            · intro q hq
              obtain ⟨m, t⟩ := s'.tbs q hq
              exact ⟨m, t.move rfl fun c z => ⟨z.1, sep _ _ z.1 z.2⟩⟩
            · simp only [Rel]
              refine ⟨by show μ.length < (κ'.cs.take μ.length ++ [some p]).length; simp; omega, fun a ha => ?_⟩
              have ha : (κ'.cs.take μ.length ++ [some p])[μ.length]? = some (some a) := ha
              have ltk : (κ'.cs.take μ.length).length = μ.length := by rw [List.length_take]; omega
              rw [List.getElem?_append_right (by omega), ltk] at ha
              simp at ha
              rw [← ha]; exact r.2 p h1
          · rw [if_neg hx] at h; cases h
        | dead => cases h
        | ins c ns xs => cases h
        | dct ks xs => cases h
  | _ => cases h
theorem fin_ok {md : Md} {d d' : DV} {μ'' : Sto} {v : V} (s : StoOk g κ H μ) (e : Ext κ H κ' H') (s' : StoOk g κ' H' μ') (r : Rel g κ' H' d v) (h : fin md μ.length d μ' = .ok d' μ'') :
    ∃ κ'', Ext κ H κ'' H' ∧ StoOk g κ'' H' μ'' ∧ Rel g κ'' H' d' v := by
  cases md with
  | fz => exact finF_ok s e s' r h
  | cl => exact finC_ok s e s' r h
  | an =>
    have h : finA μ.length d μ' = .ok d' μ'' := h
    unfold finA at h
    split at h
    · split at h
      · exact finF_ok s e s' r h
      · exact finC_ok s e s' r h
    · exact finF_ok s e s' r h
theorem finF_no {n c : Nat} {ns : List Str} {xs : List DV} {d : DV} {μ'' : Sto} : finF n d μ' ≠ .ex c ns xs μ'' := by
  unfold finF
  intro h
  (repeat' split at h) <;> cases h
theorem finC_no {n c : Nat} {ns : List Str} {xs : List DV} {d : DV} {μ'' : Sto} : finC n d μ' ≠ .ex c ns xs μ'' := by
  unfold finC
  intro h
  (repeat' split at h) <;> cases h
theorem finA_no {n c : Nat} {ns : List Str} {xs : List DV} {d : DV} {μ'' : Sto} : finA n d μ' ≠ .ex c ns xs μ'' := by
  unfold finA
  intro h
  split at h
  · split at h
    · exact finF_no h
    · exact finC_no h
  · exact finF_no h
end

abbrev WF (E : XK) : WX := fun c d _ H => E c d H
def spF (g : Gc) (F : Fn) (np : Nat) : Sp := fun vs H Q E => vs.length = np ∧ ∃ κ ds μ, RelL g κ H ds vs ∧ StoOk g κ H μ ∧ wpR g (WF E) [] κ H (F ds μ) (fun d _ κ' H' => ∀ v, Rel g κ' H' d v → Q v H')
theorem wpR.slot {α : Type} {g : Gc} {E : XK} {W : WX} {σ τ : L2.St} {κ : KA} {H : Hp} {r : R α} {Φ : α → Sto → KA → Hp → Prop} (hW : ∀ c d H, W c d σ H → E c d H) (h : wpR g W σ κ H r Φ) : wpR g (WF E) τ κ H r Φ := by
  cases r with
  | ok a μ => exact h
  | ex c ns xs μ => intro κ' H' e s d vs h1 h2 h3; exact hW _ _ _ (h κ' H' e s d vs h1 h2 h3)
  | stuck => exact h
section
variable {P : Program} {w : World} {g : Gc} {mg : Str → Option Value} {base : Heap}
theorem start_rel {κ : KA} {H : Hp} {N : List Str} {ds : List DV} {vs : List V} (r : RelL g κ H ds vs) : RelE g κ H (ds.map some ++ List.replicate (N.length - ds.length) none) (L2.start N vs) := by
  refine ⟨by unfold L2.start; simp [r.length], fun i d hd => ?_⟩
  unfold L2.start
  by_cases hi : i < ds.length
  · rw [List.getElem?_append_left (by simpa using hi), List.getElem?_map] at hd
    cases e : ds[i]? with
    | none => rw [e] at hd; cases hd
    | some d' =>
      rw [e] at hd; cases hd
      obtain ⟨v, h1, h2⟩ := r.get e
      exact ⟨v, by rw [List.getElem?_append_left (by have := r.length; simp; omega), List.getElem?_map, h1]; rfl, h2⟩
  · rw [List.getElem?_append_right (by simpa using hi), List.getElem?_replicate] at hd
    split at hd <;> cases hd
/-- a def by its body -/
theorem gf_ok {x qual : Str} {params : Arguments} {body : List Stmt} {scope : Scope} {dvs : List V} {kws : List (Str × V)} {f : Addr} {fd : FuncData} {N ps : List Str} {k : Nat} {md : Md} {fb : DS}
    (F : FunD g.K x qual params body scope dvs kws f fd) (S : FnScope N ps scope)
    (hb : ∀ (cdv : Value) (A : Around) (outer : List Env) (s : Shared) (H : Hp) (E : XK), Room k (A.deeper (envOfC qual scope s.heap.objs.size f cdv)) → GSs g (WF E) (cxOf (L2.CX P w) P w g.K mg base N qual scope f cdv A outer s H E) body fb) :
    FnOk P w g.K mg base (L2.CX P w) (k + 1) f fd ps (spF g (runF md ps.length N.length fb) ps.length) := by
  refine F.ok S (fun vs H Q E h => h.1) (fun cdv A outer s H vs Q E hr h => ⟨_, hb cdv A outer s H E hr, ?_⟩)
  obtain ⟨hl, κ, ds, μ, r, so, h⟩ := h
  have hd : ds.length = ps.length := by rw [r.length]; exact hl
  unfold runF at h
  rw [if_pos hd] at h
  refine ⟨κ, _, μ, start_rel r, so, ?_⟩
  generalize fb (ds.map some ++ List.replicate (N.length - ds.length) none) μ = out at h
  have fin' : ∀ {d : DV} {v : V} {κ' : KA} {H' : Hp} {μ' : Sto}, Ext κ H κ' H' → StoOk g κ' H' μ' → Rel g κ' H' d v → wpR g (WF E) [] κ H (fin md μ.length d μ') (fun d _ κ' H' => ∀ v, Rel g κ' H' d v → Q v H') → Q v H' := fun {d v κ' H' μ'} e s' rv h => by
    cases ef : fin md μ.length d μ' with
    | ok d' μ'' =>
      rw [ef] at h
      obtain ⟨κ'', e2, s2, r2⟩ := fin_ok so e s' rv ef
      exact h κ'' H' e2 s2 v r2
    | ex c ns xs μ'' => cases md with
      | fz => exact (finF_no ef).elim
      | cl => exact (finC_no ef).elim
      | an => exact (finA_no ef).elim
    | stuck => rw [ef] at h; exact h.elim
  cases out with
  | nx ρ' μ' => intro κ' H' σ' e s' _; exact fin' e s' (by simp [Rel]) h
  | rt d μ' => intro κ' H' v e s' rv; exact fin' e s' rv h
  | bk ρ' μ' => exact h.elim
  | ct ρ' μ' => exact h.elim
  | ex c ns xs ρ' μ' =>
    intro κ' H' σ' e s' _ d vs' h1 h2 h3
    simp only at h
    unfold finX at h
    by_cases hl : μ'.length = μ.length
    · rw [if_pos hl] at h; exact h κ' H' e s' d vs' h1 h2 h3
    · rw [if_neg hl] at h
      by_cases hc : ((μ'.take μ.length).all (CO.low μ.length) && lowL μ.length xs) = true
      · rw [if_pos hc] at h
        simp only [Bool.and_eq_true] at hc
        have hn : μ.length ≤ κ'.cs.length := by rw [← so.len]; exact e.len
        exact h _ H' (by rw [← so.len]; exact e.cut) (s'.cut hn (all_low hc.1)) d vs' h1.cut h2 (h3.cut hn hc.2)
      · rw [if_neg hc] at h; exact h.elim
  | stuck => exact h.elim
/-- what never ends well keeps every promise -/
theorem fnOk_stuck {f : Addr} {fd : FuncData} {ps : List Str} {k : Nat} : FnOk P w g.K mg base (L2.CX P w) k f fd ps (spF g (fun _ _ => .stuck) ps.length) :=
  ⟨fun vs H Q E h => h.1, fun A outer s H args us vs Q E _ _ _ _ h => by obtain ⟨_, _, _, _, _, _, h⟩ := h; exact h.elim⟩

/-- a def as callers see it -/
structure FnG (P : Program) (w : World) (g : Gc) (mg : Str → Option Value) (base : Heap) (k : Nat) (x : Str) (st : Stmt) (ps : List Str) (dvs : List V) (F : Fn) : Prop where
  ex : ∃ (f : Addr) (fd : FuncData), mg x = some (.ref f) ∧ FunD g.K x x (defArgs st) (defBody st) (defScope st) dvs [] f fd ∧ FnOk P w g.K mg base (L2.CX P w) k f fd ps (spF g F ps.length)
theorem FnG.mono {k j : Nat} {x : Str} {st : Stmt} {ps : List Str} {dvs : List V} {F : Fn} (G : FnG P w g mg base k x st ps dvs F) (h : k ≤ j) : FnG P w g mg base j x st ps dvs F := by
  obtain ⟨f, fd, h1, h2, h3⟩ := G.ex
  exact ⟨f, fd, h1, h2, h3.mono h⟩
end

section
variable {g : Gc} {W : WX} {X : Cx} {e : Expr} {es : List Expr} {fr fk : DA} {pos p : Pos} {x : Str} {k : Nat} {st : Stmt} {ps : List Str} {dvs : List V} {F : Fn}
/-- f(..), dds: the defaults that fill up -/
def eCall (F : Fn) (r : DA) : DE := fun ρ μ => (r ρ μ).bind fun xs μ1 => F xs μ1
def eCallD (F : Fn) (dds : List DV) (r : DA) : DE := fun ρ μ => (r ρ μ).bind fun xs μ1 => F (xs ++ dds) μ1
/-- only calls with the right number of arguments end well -/
def Ar (F : Fn) (np : Nat) : Prop := ∀ ds μ, ds.length ≠ np → F ds μ = .stuck
theorem ar_run {md : Md} {np n : Nat} {b : DS} : Ar (runF md np n b) np := fun ds μ h => by unfold runF; rw [if_neg h]
theorem sp_read {σ : L2.St} {κ : KA} {H : Hp} {ds : List DV} {vs : List V} {μ : Sto} {Q : VK} {np : Nat} (ar : Ar F np) (r : RelL g κ H ds vs) (s : StoOk g κ H μ) (h : wpR g W σ κ H (F ds μ) (fun d _ κ' H' => ∀ v, Rel g κ' H' d v → Q v H')) : spF g F np vs H Q (WE W σ) := by
  refine ⟨?_, κ, ds, μ, r, s, h.slot fun _ _ _ q => q⟩
  by_cases hn : ds.length = np
  · rw [← r.length]; exact hn
  · rw [ar ds μ hn] at h; exact h.elim
theorem ge_call (G : FnG X.prog X.w g X.mg X.base k x st ps dvs F) (xg : X.K = g.K) (ar : Ar F ps.length) (hr : Room k X.A) (hg : Gl X x) (tk : Takes X W) (ha : GA g W X (e :: es) fr) (hd : dvs = [])
    (hb : ∀ (kV doc pm : Value) (an : Option Addr) (cdv ct : Value) (us : List Value), us.length = ps.length → bindArgs (PySem.W.fnOf x x (defArgs st) (defBody st) (defScope st) .none kV doc pm an cdv ct) ⟨us, []⟩ = pure (ps.zip us))
    (hdb : (x == ("__debug__" : Str)) = false := by decide) (he : starEach (e :: es) X.env = (false, eval e X.env) :: starEach es X.env := by rfl) (hpl : (backTo pos (starEach es X.env)).any (·.1) = false := by rfl) :
    GE g W X (.Call (.Name x p) (e :: es) [] pos) (eCall F fr) := by
  obtain ⟨K, cls, T, ex⟩ := g
  obtain rfl : X.K = K := xg
  subst hd
  obtain ⟨f, fd, h1, h2, h3⟩ := G.ex
  have bn : Binds X.K fd ps [] := h2.bindsN hb
  refine PE.imp (pe_callSD (E := fun σ => WE W σ) h3 hr hg h1 h2.kp bn .nil (fun σ => passAt tk σ) ha hdb he hpl) fun σ H Q q => ?_
  obtain ⟨κ, ρ, μ, he, hs, hw⟩ := q
  refine ⟨κ, ρ, μ, he, hs, hw.bind.mono fun xs μ1 κ1 H1 e1 s1 hh vs rv => ?_⟩
  show spF _ F ps.length (vs ++ []) H1 Q (WE W σ)
  rw [List.append_nil]
  exact sp_read ar rv s1 hh
/-- keywords -/
abbrev GK (g : Gc) (W : WX) (X : Cx) (kws : List Keyword) (f : DA) : Prop := PK X kws (tA g W f)
theorem PK.imp {X : Cx} {es : List Keyword} {t u : TA} (h : PK X es t) (f : ∀ σ H Q, u σ H Q → t σ H Q) : PK X es u := ⟨fun pos pins s σ H Q I q => h.run pos pins s σ H Q I (f _ _ _ q)⟩
theorem gk_nil : GK g W X [] aNil := PK.imp pk_nil fun σ H Q q => by
  obtain ⟨κ, ρ, μ, he, hs, hw⟩ := q
  exact hw κ H Ext.refl hs [] RelL.nil
theorem gk_cons {fa : DE} {kws : List Keyword} {nm : Option Str} {kpos : Pos} (ha : GE g W X e fa) (hr : GK g W X kws fr) : GK g W X (⟨nm, e, kpos⟩ :: kws) (aCons fa fr) := by
  refine PK.imp (pk_cons ha hr) fun σ H Q q => ?_
  obtain ⟨κ, ρ, μ, he, hs, hw⟩ := q
  refine ⟨κ, ρ, μ, he, hs, hw.bind.mono fun x μ1 κ1 H1 e1 s1 h1 v rv => ?_⟩
  refine ⟨κ1, ρ, μ1, he.ext e1, s1, h1.bind.mono fun xs μ2 κ2 H2 e2 s2 h2 vs rvs => ?_⟩
  exact h2 κ2 H2 Ext.refl s2 (v :: vs) (RelL.cons (rv.ext e2) rvs)
/-- values in the parameters' order -/
def permL {α : Type} (ix : List Nat) (l : List α) : List α := ix.filterMap fun i => l[i]?
theorem permL_vals {ix : List Nat} {vs : List V} {us : List Value} (r : Vals vs us) : Vals (permL ix vs) (permL ix us) := by
  induction ix with
  | nil => exact .nil
  | cons i ix ih =>
    unfold permL at ih ⊢
    simp only [List.filterMap_cons]
    cases e : vs[i]? with
    | none => rw [r.none_of e]; exact ih
    | some v =>
      obtain ⟨u, h1, h2⟩ := r.get e
      rw [h1]; exact .cons h2 ih
theorem permL_rel {ix : List Nat} {κ : KA} {H : Hp} {ds : List DV} {vs : List V} (r : RelL g κ H ds vs) : RelL g κ H (permL ix ds) (permL ix vs) := by
  induction ix with
  | nil => exact RelL.nil
  | cons i ix ih =>
    unfold permL at ih ⊢
    simp only [List.filterMap_cons]
    cases e : ds[i]? with
    | none =>
      have : vs[i]? = none := by
        have h1 := List.getElem?_eq_none_iff.mp e
        exact List.getElem?_eq_none_iff.mpr (by rw [← r.length]; exact h1)
      rw [this]; exact ih
    | some d =>
      obtain ⟨v, h1, h2⟩ := r.get e
      rw [h1]; exact RelL.cons h2 ih
def eCallK (F : Fn) (ix : List Nat) (n m : Nat) (r k : DA) : DE := fun ρ μ => (r ρ μ).bind fun xs μ1 => (k ρ μ1).bind fun ys μ2 => if xs.length = n ∧ ys.length = m then F (permL ix (xs ++ ys)) μ2 else .stuck
end
end SD

set_option Elab.async false
set_option linter.all false
set_option maxRecDepth 100000
set_option maxHeartbeats 4000000
namespace SD
open PySem PySem.Spec PyProof.Rows L2

def lstOf (μ : Sto) : DV → Option (List DV)
  | .lst xs => some xs
  | .cell i => match μ[i]? with
    | some (.lst xs) => some xs
    | _ => none
  | _ => none
def seqOf (μ : Sto) : DV → Option (List DV)
  | .scr xs => some xs
  | d => lstOf μ d
section
variable {g : Gc} {κ : KA} {H : Hp} {μ : Sto} {d e : DV} {v u : V}
theorem lstOf_rel {xs : List DV} (s : StoOk g κ H μ) (r : Rel g κ H d v) (h : lstOf μ d = some xs) : ∃ a vs, v = .ref a ∧ H a = some (.lst vs) ∧ RelL g κ H xs vs := by
  cases d with
  | lst ys =>
    cases h
    simp only [Rel] at r
    obtain ⟨a, vs, rfl, h2, h3⟩ := r
    exact ⟨a, vs, rfl, h2.1, h3⟩
  | cell i =>
    simp only [lstOf] at h
    cases ec : μ[i]? with
    | none => rw [ec] at h; cases h
    | some c =>
      rw [ec] at h
      cases c with
      | lst ys =>
        cases h
        simp only [Rel] at r
        obtain ⟨o, h1, h2⟩ := s.at_ i _ ec
        obtain ⟨p, vs, rfl, h3, h4⟩ := h2
        exact ⟨p, vs, r.2 p h1, h3, h4⟩
      | _ => cases h
  | _ => cases h
theorem seqOf_rel {xs : List DV} (s : StoOk g κ H μ) (r : Rel g κ H d v) (h : seqOf μ d = some xs) : ∃ a vs, v = .ref a ∧ SqL g.K H a vs ∧ RelL g κ H xs vs := by
  cases d with
  | scr ys =>
    cases h
    simp only [Rel] at r
    obtain ⟨a, vs, rfl, h2, h3⟩ := r
    exact ⟨a, vs, rfl, h2.sq, h3⟩
  | _ =>
    obtain ⟨a, vs, e, h2, h3⟩ := lstOf_rel s r h
    exact ⟨a, vs, e, .inl (.inl h2), h3⟩
theorem tup_rel {xs : List DV} (r : Rel g κ H (.tup xs) v) : ∃ a vs, v = .ref a ∧ SqT g.K H a vs ∧ RelL g κ H xs vs := by
  simp only [Rel] at r
  obtain ⟨a, vs, rfl, h2, h3⟩ := r
  exact ⟨a, vs, rfl, h2.sq, h3⟩
/-- the end of a reading: a value without an object; a new tuple; a new list -/
theorem rOut.flat {z : DV} {w : V} {Q : VK} (s : StoOk g κ H μ) (h : rOut g κ H μ (some z) Q) (r : Rel g κ H z w) : Q w H := h κ H Ext.refl s w r
theorem rOut.newT {xs : List DV} {vs : List V} {Q : VK} {p : Addr} {ob : Obj} (s : StoOk g κ H μ) (h : rOut g κ H μ (some (.tup xs)) Q) (r : RelL g κ H xs vs) (hp : H p = none) (hd : ob.dict = none) : Q (.ref p) (upd H p (.frz ob (.tup vs))) :=
  h κ _ (Ext.new s hp) (s.new hp) _ (rel_tup s hp hd r)
theorem rOut.newL {xs : List DV} {vs : List V} {Q : VK} {p : Addr} (s : StoOk g κ H μ) (h : rOut g κ H μ (some (.lst xs)) Q) (r : RelL g κ H xs vs) (hp : H p = none) : Q (.ref p) (upd H p (.lst vs)) :=
  h κ _ (Ext.new s hp) (s.new hp) _ (rel_lst s hp r)
end
theorem okLen_iff {n : Nat} : okLen n = true ↔ n ≤ sizeLine := by simp [okLen]

def vAdd : V2 := fun d e μ => match d, e with
  | .int i, .int j => some (.int (i + j))
  | .str a, .str b => if okLen (a.length + b.length) = true then some (.str (a ++ b)) else none
  | .tup xs, .tup ys => if okLen (xs.length + ys.length) = true then some (.tup (xs ++ ys)) else none
  | d, e => match lstOf μ d, lstOf μ e with
    | some xs, some ys => if okLen (xs.length + ys.length) = true then some (.lst (xs ++ ys)) else none
    | _, _ => none
def vSub : V2 := fun d e _ => match d, e with
  | .int i, .int j => some (.int (i - j))
  | _, _ => none
def mulOk (i j : Int) : Bool := (decide (i.natAbs < 2 ^ 64) || decide (j.natAbs < 2 ^ 64)) || decide (i.natAbs.log2 + j.natAbs.log2 < 1000000)
def vMul : V2 := fun d e μ => match d, e with
  | .int i, .int j => if mulOk i j = true then some (.int (i * j)) else none
  | d, .int k => match lstOf μ d with
    | some xs => if (decide (-(2 ^ 63) ≤ k) && decide (k < 2 ^ 63) && okLen (xs.length * k.toNat)) = true then some (.lst (List.replicate k.toNat xs).flatten) else none
    | none => none
  | _, _ => none
def vDiv : V2 := fun d e _ => match d, e with
  | .int i, .int j => if decide (0 < j) && decide (j < 1073741824) = true then some (.int (i / j)) else none
  | _, _ => none
def vMod : V2 := fun d e _ => match d, e with
  | .int i, .int j => if decide (0 < j) = true then some (.int (i % j)) else none
  | _, _ => none
def vPow : V2 := fun d e _ => match d, e with
  | .int i, .int j => if (decide (0 ≤ j) && decide (j ≤ 1000000) && decide (i.natAbs < 2 ^ 64)) = true then some (.int (i ^ j.toNat)) else none
  | _, _ => none
section
variable {g : Gc} {X : Cx}
theorem relL_rep {κ : KA} {H : Hp} {xs : List DV} {vs : List V} (r : RelL g κ H xs vs) : ∀ k : Nat, RelL g κ H (List.replicate k xs).flatten (List.replicate k vs).flatten
  | 0 => RelL.nil
  | k + 1 => by
    rw [List.replicate_succ, List.replicate_succ, List.flatten_cons, List.flatten_cons]
    exact r.append (relL_rep r k)
theorem opAdd (xg : XG g X) : OpR X (binaryOp .Add) (r2 g vAdd) := by
  intro pins s σ H x y v u Q I rx ry h
  obtain ⟨κ, d, e, μ, rd, re, so, ho⟩ := h
  unfold vAdd at ho
  split at ho
  · simp only [Rel] at rd re
    subst rd re
    exact op_add pins s σ H _ _ v u Q I rx ry ⟨_, _, rfl, rfl, ho.flat so (by simp [Rel])⟩
  · simp only [Rel] at rd re
    subst rd re
    split at ho
    · rename_i hz
      exact op_add_str pins s σ H _ _ v u Q I rx ry ⟨_, _, rfl, rfl, okLen_iff.mp hz, ho.flat so (by simp [Rel])⟩
    · exact ho.elim
  · rename_i xs ys
    obtain ⟨a, vs, rfl, h1, h2⟩ := tup_rel rd
    obtain ⟨b, ws, rfl, h3, h4⟩ := tup_rel re
    split at ho
    · rename_i hz
      have hz := okLen_iff.mp hz
      refine op_catF pins s σ H _ _ v u Q I rx ry ⟨a, b, vs, ws, rfl, rfl, by rw [xg.K]; exact h1, by rw [xg.K]; exact h3, by rw [← h2.length, ← h4.length]; exact hz, fun e => ?_, fun e1 e => ?_, fun e1 e2 p ob hp hd => ho.newT so (h2.append h4) hp hd⟩
      · subst e
        have : xs = [] := by have := h2.length; simpa using this
        subst this
        exact ho.flat so re
      · subst e
        have : ys = [] := by have := h4.length; simpa using this
        subst this
        rw [List.append_nil] at ho
        exact ho.flat so rd
    · exact ho.elim
  · split at ho
    · rename_i xs ys hx hy
      split at ho
      · rename_i hz
        obtain ⟨a, vs, rfl, h1, h2⟩ := lstOf_rel so rd hx
        obtain ⟨b, ws, rfl, h3, h4⟩ := lstOf_rel so re hy
        exact op_cat pins s σ H _ _ v u Q I rx ry ⟨a, b, vs, ws, rfl, rfl, h1, h3, by rw [← h2.length, ← h4.length]; exact okLen_iff.mp hz, fun p hp => ho.newL so (h2.append h4) hp⟩
      · exact ho.elim
    · exact ho.elim
theorem opSub : OpR X (binaryOp .Sub) (r2 g vSub) := by
  intro pins s σ H x y v u Q I rx ry h
  obtain ⟨κ, d, e, μ, rd, re, so, ho⟩ := h
  unfold vSub at ho
  split at ho
  · simp only [Rel] at rd re
    subst rd re
    exact op_sub pins s σ H _ _ v u Q I rx ry ⟨_, _, rfl, rfl, ho.flat so (by simp [Rel])⟩
  · exact ho.elim
theorem opMul : OpR X (binaryOp .Mult) (r2 g vMul) := by
  intro pins s σ H x y v u Q I rx ry h
  obtain ⟨κ, d, e, μ, rd, re, so, ho⟩ := h
  unfold vMul at ho
  split at ho
  · rename_i i j
    simp only [Rel] at rd re
    subst rd re
    split at ho
    · rename_i hz
      simp only [mulOk, Bool.or_eq_true, decide_eq_true_eq] at hz
      rcases hz with hz | hz
      · exact op_mul pins s σ H _ _ v u Q I rx ry ⟨_, _, rfl, rfl, by unfold CMul; omega, ho.flat so (by simp [Rel])⟩
      · exact op_mulW pins s σ H _ _ v u Q I rx ry ⟨_, _, rfl, rfl, hz, ho.flat so (by simp [Rel])⟩
    · exact ho.elim
  · rename_i k _
    split at ho
    · rename_i xs hx
      split at ho
      · rename_i hz
        simp only [Bool.and_eq_true, decide_eq_true_eq, okLen_iff] at hz
        obtain ⟨a, vs, rfl, h1, h2⟩ := lstOf_rel so rd hx
        simp only [Rel] at re
        subst re
        exact op_rep pins s σ H _ _ v u Q I rx ry ⟨a, k, vs, rfl, rfl, h1, hz.1.1, hz.1.2, by rw [← h2.length]; exact hz.2, fun p hp => ho.newL so (relL_rep h2 _) hp⟩
      · exact ho.elim
    · exact ho.elim
  · exact ho.elim
theorem opDiv : OpR X (binaryOp .FloorDiv) (r2 g vDiv) := by
  intro pins s σ H x y v u Q I rx ry h
  obtain ⟨κ, d, e, μ, rd, re, so, ho⟩ := h
  unfold vDiv at ho
  split at ho
  · simp only [Rel] at rd re
    subst rd re
    split at ho
    · rename_i hz
      simp only [Bool.and_eq_true, decide_eq_true_eq] at hz
      exact op_fdiv pins s σ H _ _ v u Q I rx ry ⟨_, _, rfl, rfl, hz, ho.flat so (by simp [Rel])⟩
    · exact ho.elim
  · exact ho.elim
theorem opMod : OpR X (binaryOp .Mod) (r2 g vMod) := by
  intro pins s σ H x y v u Q I rx ry h
  obtain ⟨κ, d, e, μ, rd, re, so, ho⟩ := h
  unfold vMod at ho
  split at ho
  · simp only [Rel] at rd re
    subst rd re
    split at ho
    · rename_i hz
      simp only [decide_eq_true_eq] at hz
      exact op_mod pins s σ H _ _ v u Q I rx ry ⟨_, _, rfl, rfl, hz, ho.flat so (by simp [Rel])⟩
    · exact ho.elim
  · exact ho.elim
theorem opPow : OpR X (binaryOp .Pow) (r2 g vPow) := by
  intro pins s σ H x y v u Q I rx ry h
  obtain ⟨κ, d, e, μ, rd, re, so, ho⟩ := h
  unfold vPow at ho
  split at ho
  · simp only [Rel] at rd re
    subst rd re
    split at ho
    · rename_i hz
      simp only [Bool.and_eq_true, decide_eq_true_eq] at hz
      exact op_pow pins s σ H _ _ v u Q I rx ry ⟨_, _, rfl, rfl, ⟨hz.1.1, hz.1.2, hz.2⟩, ho.flat so (by simp [Rel])⟩
    · exact ho.elim
  · exact ho.elim
def vNeg : V1 := fun d _ => match d with
  | .int i => some (.int (-i))
  | _ => none
theorem unNeg : UnR X (unaryOp .USub) (r1 g vNeg) := by
  intro pins s σ H x v Q I rx h
  obtain ⟨κ, d, μ, rd, so, ho⟩ := h
  unfold vNeg at ho
  split at ho
  · simp only [Rel] at rd
    subst rd
    exact un_neg pins s σ H _ v Q I rx ⟨_, rfl, ho.flat so (by simp [Rel])⟩
  · exact ho.elim

mutual
def toPy : DV → Option PyData
  | .non => some .none
  | .bl b => some (.bool b)
  | .int i => some (.int i)
  | .str x => some (.str x)
  | .tup xs => (toPyL xs).map .tuple
  | .lst xs => (toPyL xs).map .list
  | .scr xs => (toPyL xs).map .list
  | _ => none
def toPyL : List DV → Option (List PyData)
  | [] => some []
  | x :: xs => match toPy x, toPyL xs with
    | some p, some ps => some (p :: ps)
    | _, _ => none
end
def toPyC (μ : Sto) : DV → Option PyData
  | .cell i => match μ[i]? with
    | some (.lst xs) => (toPyL xs).map .list
    | _ => none
  | d => toPy d
mutual
theorem dp_of {κ : KA} {H : Hp} : ∀ {d : DV} {v : V} {p : PyData}, Rel g κ H d v → toPy d = some p → Dp g.K H v p
  | .non, _, _, r, h => by simp only [Rel] at r; subst r; cases h; exact .non
  | .bl b, _, _, r, h => by simp only [Rel] at r; subst r; cases h; exact .bl b
  | .int i, _, _, r, h => by simp only [Rel] at r; subst r; cases h; exact .int i
  | .str x, _, _, r, h => by simp only [Rel] at r; subst r; cases h; exact .str x
  | .tup xs, v, p, r, h => by
    obtain ⟨a, vs, rfl, h1, h2⟩ := tup_rel r
    simp only [toPy, Option.map_eq_some_iff] at h
    obtain ⟨ps, h3, rfl⟩ := h
    exact .tup h1 (dpAll_of h2 h3)
  | .lst xs, v, p, r, h => by
    simp only [Rel] at r
    obtain ⟨a, vs, rfl, h1, h2⟩ := r
    simp only [toPy, Option.map_eq_some_iff] at h
    obtain ⟨ps, h3, rfl⟩ := h
    exact .lst (.inl (.inl h1.1)) (dpAll_of h2 h3)
  | .scr xs, v, p, r, h => by
    simp only [Rel] at r
    obtain ⟨a, vs, rfl, h1, h2⟩ := r
    simp only [toPy, Option.map_eq_some_iff] at h
    obtain ⟨ps, h3, rfl⟩ := h
    exact .lst h1.sq (dpAll_of h2 h3)
  | .dct _ _, _, _, _, h => by simp [toPy] at h
  | .cell _, _, _, _, h => by simp [toPy] at h
  | .obj _ _ _, _, _, _, h => by simp [toPy] at h
  | .exn _ _ _, _, _, _, h => by simp [toPy] at h
  | .gl _, _, _, _, h => by simp [toPy] at h
  | .ty _, _, _, _, h => by simp [toPy] at h
theorem dpAll_of {κ : KA} {H : Hp} : ∀ {xs : List DV} {vs : List V} {ps : List PyData}, RelL g κ H xs vs → toPyL xs = some ps → DpAll g.K H vs ps
  | [], _, _, r, h => by cases r.of_nil; cases h; exact .nil
  | x :: xs, _, ps, r, h => by
    obtain ⟨v, r', rfl, h1, h2⟩ := r.of_cons
    simp only [toPyL] at h
    cases e1 : toPy x with
    | none => rw [e1] at h; cases h
    | some p =>
      cases e2 : toPyL xs with
      | none => rw [e1, e2] at h; cases h
      | some q =>
        rw [e1, e2] at h
        cases h
        exact .cons (dp_of h1 e1) (dpAll_of h2 e2)
end
theorem dpC_of {κ : KA} {H : Hp} {μ : Sto} {d : DV} {v : V} {p : PyData} (s : StoOk g κ H μ) (r : Rel g κ H d v) (h : toPyC μ d = some p) : Dp g.K H v p := by
  cases d with
  | cell i =>
    simp only [toPyC] at h
    cases ec : μ[i]? with
    | none => rw [ec] at h; cases h
    | some c =>
      rw [ec] at h
      cases c with
      | lst xs =>
        simp only [Option.map_eq_some_iff] at h
        obtain ⟨ps, h3, rfl⟩ := h
        obtain ⟨a, vs, rfl, h1, h2⟩ := lstOf_rel (xs := xs) s r (by simp only [lstOf, ec])
        exact .lst (.inl (.inl h1)) (dpAll_of h2 h3)
      | _ => cases h
  | _ => exact dp_of r h
/-- equal plain data -/
def flatEq : DV → DV → Bool
  | .non, .non => true
  | .bl a, .bl b => a == b
  | .int i, .int j => decide (i = j)
  | .str a, .str b => decide (a = b)
  | _, _ => false
def flatEqs : List DV → List DV → Bool
  | [], [] => true
  | x :: xs, y :: ys => flatEq x y && flatEqs xs ys
  | _, _ => false
/-- two dicts that are told alike -/
def dctEq (ks : List Key) (xs : List DV) (ls : List Key) (ys : List DV) : Bool := decide (ks = ls) && (decide ks.Nodup && flatEqs xs ys)
theorem flatEqs_rel {κ : KA} {H : Hp} : ∀ {xs ys : List DV} {vs ws : List V}, RelL g κ H xs vs → RelL g κ H ys ws → flatEqs xs ys = true → vs = ws ∧ ∀ v ∈ vs, flatB v = true
  | [], [], _, _, r, q, _ => by cases r.of_nil; cases q.of_nil; exact ⟨rfl, fun v hv => by cases hv⟩
  | x :: xs, y :: ys, _, _, r, q, h => by
    obtain ⟨v, vs, rfl, r1, r2⟩ := r.of_cons
    obtain ⟨w, ws, rfl, q1, q2⟩ := q.of_cons
    have h : (flatEq x y && flatEqs xs ys) = true := h
    rw [Bool.and_eq_true] at h
    obtain ⟨e, f⟩ := flatEqs_rel r2 q2 h.2
    have one : v = w ∧ flatB v = true := by
      have h1 := h.1
      unfold flatEq at h1
      split at h1
      · simp only [Rel] at r1 q1; subst r1 q1; exact ⟨rfl, rfl⟩
      · simp only [Rel] at r1 q1; subst r1 q1; exact ⟨by rw [eq_of_beq h1], rfl⟩
      · simp only [Rel] at r1 q1; subst r1 q1; exact ⟨by rw [of_decide_eq_true h1], rfl⟩
      · simp only [Rel] at r1 q1; subst r1 q1; exact ⟨by rw [of_decide_eq_true h1], rfl⟩
      · cases h1
    refine ⟨by rw [one.1, e], fun u hu => ?_⟩
    rcases List.mem_cons.mp hu with z | z
    · rw [z]; exact one.2
    · exact f u z
theorem valV_zip : ∀ {ks : List Key} {vs : List V}, ks.Nodup → ∀ p ∈ ks.zip vs, valV (ks.zip vs) p.1 = some p.2
  | [], _, _, p, hp => by simp at hp
  | k :: ks, [], _, p, hp => by simp at hp
  | k :: ks, v :: vs, hn, p, hp => by
    rw [List.zip_cons_cons] at hp ⊢
    obtain ⟨n1, n2⟩ := List.nodup_cons.mp hn
    rcases List.mem_cons.mp hp with e | hp
    · subst e; exact valV_pos rfl
    · have hk : p.1 ∈ ks := (List.of_mem_zip hp).1
      rw [valV_neg (fun e : k = p.1 => n1 (by rw [e]; exact hk))]
      exact valV_zip n2 p hp
theorem dctEq_rel {κ : KA} {H : Hp} {ks ls : List Key} {xs ys : List DV} {x y : V} {Q : VK} (rx : Rel g κ H (.dct ks xs) x) (ry : Rel g κ H (.dct ls ys) y) (h : dctEq ks xs ls ys = true) :
    ∃ a b kv lv, x = .ref a ∧ y = .ref b ∧ H a = some (.dK kv) ∧ H b = some (.dK lv) ∧ kv.length = lv.length ∧ ∀ p ∈ kv, valV lv p.1 = some p.2 ∧ flatB p.2 = true := by
  simp only [Rel] at rx ry
  obtain ⟨a, vs, rfl, h1, l1, r1⟩ := rx
  obtain ⟨b, ws, rfl, h2, l2, r2⟩ := ry
  unfold dctEq at h
  rw [Bool.and_eq_true, Bool.and_eq_true, decide_eq_true_eq, decide_eq_true_eq] at h
  obtain ⟨rfl, hn, hf⟩ := h
  obtain ⟨rfl, hb⟩ := flatEqs_rel r1 r2 hf
  exact ⟨a, b, _, _, rfl, rfl, h1.1, h2.1, rfl, fun p hp => ⟨valV_zip hn p hp, hb _ (List.of_mem_zip hp).2⟩⟩
mutual
def toPyM (μ : Sto) : DV → Option PyData
  | .tup xs => (toPyML μ xs).map .tuple
  | .lst xs => (toPyML μ xs).map .list
  | .cell i => match μ[i]? with
    | some (.lst xs) => (toPyL xs).map .list
    | _ => none
  | .non => some .none
  | .bl b => some (.bool b)
  | .int i => some (.int i)
  | .str x => some (.str x)
  | _ => none
def toPyML (μ : Sto) : List DV → Option (List PyData)
  | [] => some []
  | x :: xs => match toPyM μ x, toPyML μ xs with
    | some p, some ps => some (p :: ps)
    | _, _ => none
end
mutual
theorem dpM_of {κ : KA} {H : Hp} {μ : Sto} (s : StoOk g κ H μ) : ∀ {d : DV} {v : V} {p : PyData}, Rel g κ H d v → toPyM μ d = some p → Dp g.K H v p
  | .non, _, _, r, h => by simp only [Rel] at r; subst r; cases h; exact .non
  | .bl b, _, _, r, h => by simp only [Rel] at r; subst r; cases h; exact .bl b
  | .int i, _, _, r, h => by simp only [Rel] at r; subst r; cases h; exact .int i
  | .str x, _, _, r, h => by simp only [Rel] at r; subst r; cases h; exact .str x
  | .tup xs, v, p, r, h => by
    obtain ⟨a, vs, rfl, h1, h2⟩ := tup_rel r
    simp only [toPyM, Option.map_eq_some_iff] at h
    obtain ⟨ps, h3, rfl⟩ := h
    exact .tup h1 (dpML_of s h2 h3)
  | .lst xs, v, p, r, h => by
    simp only [Rel] at r
    obtain ⟨a, vs, rfl, h1, h2⟩ := r
    simp only [toPyM, Option.map_eq_some_iff] at h
    obtain ⟨ps, h3, rfl⟩ := h
    exact .lst (.inl (.inl h1.1)) (dpML_of s h2 h3)
  | .cell i, v, p, r, h => dpC_of s r h
  | .scr _, _, _, _, h => by simp [toPyM] at h
  | .dct _ _, _, _, _, h => by simp [toPyM] at h
  | .obj _ _ _, _, _, _, h => by simp [toPyM] at h
  | .exn _ _ _, _, _, _, h => by simp [toPyM] at h
  | .gl _, _, _, _, h => by simp [toPyM] at h
  | .ty _, _, _, _, h => by simp [toPyM] at h
theorem dpML_of {κ : KA} {H : Hp} {μ : Sto} (s : StoOk g κ H μ) : ∀ {xs : List DV} {vs : List V} {ps : List PyData}, RelL g κ H xs vs → toPyML μ xs = some ps → DpAll g.K H vs ps
  | [], _, _, r, h => by cases r.of_nil; cases h; exact .nil
  | x :: xs, _, ps, r, h => by
    obtain ⟨v, r', rfl, h1, h2⟩ := r.of_cons
    simp only [toPyML] at h
    cases e1 : toPyM μ x with
    | none => rw [e1] at h; cases h
    | some p =>
      cases e2 : toPyML μ xs with
      | none => rw [e1, e2] at h; cases h
      | some q =>
        rw [e1, e2] at h
        cases h
        exact .cons (dpM_of s h1 e1) (dpML_of s h2 e2)
end
/-- a tuple of whatever == () -/
def eqT0 (d e : DV) : Option Bool := match d, e with
  | .tup xs, .tup [] => some xs.isEmpty
  | _, _ => none
theorem eqT0_some {d e : DV} {b : Bool} (h : eqT0 d e = some b) : ∃ xs, d = .tup xs ∧ e = .tup [] ∧ b = xs.isEmpty := by
  unfold eqT0 at h
  split at h
  · cases h; exact ⟨_, rfl, rfl, rfl⟩
  · cases h
/-- == of data -/
def eqP (d e : DV) (μ : Sto) : Option Bool := match toPyC μ d, toPyC μ e with
  | some p, some q => if (SeqAt.shaped p && SeqAt.shaped q) = true then some (PyData.eqv p q) else none
  | _, _ => match toPyM μ d, toPyM μ e with
    | some p, some q => if (SeqAt.shaped p && SeqAt.shaped q) = true then some (PyData.eqv p q) else none
    | _, _ => eqT0 d e
def eqD (d e : DV) (μ : Sto) : Option Bool := match d, e with
  | .dct ks xs, .dct ls ys => if dctEq ks xs ls ys = true then some true else none
  | d, e => eqP d e μ
def vEq : V2 := fun d e μ => (eqD d e μ).map .bl
def vNe : V2 := fun d e μ => (eqD d e μ).map fun b => .bl (!b)
theorem eqP_some {κ : KA} {H : Hp} {d e : DV} {μ : Sto} {b : Bool} {x y : V} (so : StoOk g κ H μ) (rd : Rel g κ H d x) (re : Rel g κ H e y) (h : eqP d e μ = some b) : (∃ p q, Dp g.K H x p ∧ Dp g.K H y q ∧ SeqAt.shaped p = true ∧ SeqAt.shaped q = true ∧ b = PyData.eqv p q) ∨ ∃ xs, d = .tup xs ∧ e = .tup [] ∧ b = xs.isEmpty := by
  unfold eqP at h
  split at h
  · split at h
    · rename_i p q h1 h2 hz
      rw [Bool.and_eq_true] at hz
      cases h
      exact .inl ⟨p, q, dpC_of so rd h1, dpC_of so re h2, hz.1, hz.2, rfl⟩
    · cases h
  · split at h
    · split at h
      · rename_i p q h1 h2 hz
        rw [Bool.and_eq_true] at hz
        cases h
        exact .inl ⟨p, q, dpM_of so rd h1, dpM_of so re h2, hz.1, hz.2, rfl⟩
      · cases h
    · exact .inr (eqT0_some h)
theorem eqD_some {κ : KA} {H : Hp} {d e : DV} {μ : Sto} {b : Bool} {x y : V} (so : StoOk g κ H μ) (rd : Rel g κ H d x) (re : Rel g κ H e y) (h : eqD d e μ = some b) : (∃ p q, Dp g.K H x p ∧ Dp g.K H y q ∧ SeqAt.shaped p = true ∧ SeqAt.shaped q = true ∧ b = PyData.eqv p q) ∨ (∃ ks xs ls ys, d = .dct ks xs ∧ e = .dct ls ys ∧ dctEq ks xs ls ys = true ∧ b = true) ∨ ∃ xs, d = .tup xs ∧ e = .tup [] ∧ b = xs.isEmpty := by
  unfold eqD at h
  split at h
  · split at h
    · rename_i z; cases h; exact .inr (.inl ⟨_, _, _, _, rfl, rfl, z, rfl⟩)
    · cases h
  · exact (eqP_some so rd re h).imp id .inr
/-- both tuples, the second of nothing -/
theorem t0_at {κ : KA} {pins : List (Addr × Obj)} {σ : L2.St} {H : Hp} {s : Shared} {xs : List DV} {x y : V} {v u : Value} (xg : XG g X) (I : Inv X pins σ H s) (rd : Rel g κ H (.tup xs) x) (re : Rel g κ H (.tup []) y) (rx : RelV x v) (ry : RelV y u) :
    ∃ a b i1 i2, v = .ref a ∧ u = .ref b ∧ s.heap.IsTuple a i1 ∧ s.heap.IsTuple b i2 ∧ i1.size = xs.length ∧ i2.size = 0 := by
  obtain ⟨a, vs, rfl, h1, h2⟩ := tup_rel rd
  obtain ⟨b, ws, rfl, h3, h4⟩ := tup_rel re
  obtain ⟨i1, r1, t1, z1⟩ := I.tuple (xs := vs) (a := a) (by rw [xg.K]; exact h1)
  obtain ⟨i2, r2, t2, z2⟩ := I.tuple (xs := ws) (a := b) (by rw [xg.K]; exact h3)
  refine ⟨a, b, i1.toArray, i2.toArray, rx, ry, t1, t2, ?_, ?_⟩
  · rw [List.size_toArray, ← r1.length, ← h2.length]
  · have := h4.length
    rw [List.size_toArray, ← r2.length, ← this]
    rfl
theorem opEq (xg : XG g X) (hu : X.A.units + 64 < cLine) : OpR X (compareOp .Eq) (r2 g vEq) := by
  intro pins s σ H x y v u Q I rx ry h
  obtain ⟨κ, d, e, μ, rd, re, so, ho⟩ := h
  unfold vEq at ho
  cases hb : eqD d e μ with
  | none => rw [hb] at ho; exact ho.elim
  | some b =>
    rw [hb] at ho
    rcases eqD_some so rd re hb with ⟨p, q, h1, h2, h3, h4, rfl⟩ | ⟨ks, xs, ls, ys, rfl, rfl, hz, rfl⟩ | ⟨xs, rfl, rfl, rfl⟩
    rotate_left 2
    · obtain ⟨a, b, i1, i2, rfl, rfl, t1, t2, z1, z2⟩ := t0_at xg I rd re rx ry
      refine SeqAt.RcAt.tuples (e := fun _ => true) t1 t2 (by omega) (fun j _ h => by omega) X.prog X.w _ _ ⟨.bl xs.isEmpty, H, I, ?_, rOut.flat so ho (by simp [Rel])⟩
      rw [z1, z2, Nat.min_zero]
      cases xs <;> rfl
    · exact op_eqD hu pins s σ H _ _ v u Q I rx ry ⟨p, q, by rw [xg.K]; exact h1, by rw [xg.K]; exact h2, h3, h4, rOut.flat so ho (by simp [Rel])⟩
    · obtain ⟨a, b, kv, lv, e1, e2, h1, h2, h3, h4⟩ := dctEq_rel (Q := Q) rd re hz
      exact op_eq_dictA (by omega) pins s σ H _ _ v u Q I rx ry ⟨a, b, kv, lv, e1, e2, h1, h2, h3, h4, rOut.flat so ho (by simp [Rel])⟩
theorem opNe (xg : XG g X) (hu : X.A.units + 64 < cLine) : OpR X (compareOp .NotEq) (r2 g vNe) := by
  intro pins s σ H x y v u Q I rx ry h
  obtain ⟨κ, d, e, μ, rd, re, so, ho⟩ := h
  unfold vNe at ho
  cases hb : eqD d e μ with
  | none => rw [hb] at ho; exact ho.elim
  | some b =>
    rw [hb] at ho
    rcases eqD_some so rd re hb with ⟨p, q, h1, h2, h3, h4, rfl⟩ | ⟨ks, xs, ls, ys, rfl, rfl, hz, rfl⟩ | ⟨xs, rfl, rfl, rfl⟩
    rotate_left 2
    · obtain ⟨a, b, i1, i2, rfl, rfl, t1, t2, z1, z2⟩ := t0_at xg I rd re rx ry
      refine SeqAt.RcNeAt.tuples (e := fun _ => true) t1 t2 (by omega) (fun j _ h => by omega) X.prog X.w _ _ ⟨.bl (!xs.isEmpty), H, I, ?_, rOut.flat so ho (by simp [Rel])⟩
      rw [z1, z2, Nat.min_zero]
      cases xs <;> rfl
    · exact op_neD hu pins s σ H _ _ v u Q I rx ry ⟨p, q, by rw [xg.K]; exact h1, by rw [xg.K]; exact h2, h3, h4, rOut.flat so ho (by simp [Rel])⟩
    · obtain ⟨a, b, kv, lv, e1, e2, h1, h2, h3, h4⟩ := dctEq_rel (Q := Q) rd re hz
      exact op_ne_dictA (by omega) pins s σ H _ _ v u Q I rx ry ⟨a, b, kv, lv, e1, e2, h1, h2, h3, h4, rOut.flat so ho (by simp [Rel])⟩
def vCmp (f : Int → Int → Bool) : V2 := fun d e _ => match d, e with
  | .int i, .int j => some (.bl (f i j))
  | _, _ => none
theorem cmp_int {op : CmpOp} {f : Int → Int → Bool} (ho : OpR X (compareOp op) (rI0 fun i j => .bl (f i j))) : OpR X (compareOp op) (r2 g (vCmp f)) := by
  intro pins s σ H x y v u Q I rx ry h
  obtain ⟨κ, d, e, μ, rd, re, so, h⟩ := h
  unfold vCmp at h
  split at h
  · simp only [Rel] at rd re
    subst rd re
    exact ho pins s σ H _ _ v u Q I rx ry ⟨_, _, rfl, rfl, h.flat so (by simp [Rel])⟩
  · exact h.elim
def vLt : V2 := vCmp fun i j => decide (i < j)
def vLe : V2 := vCmp fun i j => decide (i ≤ j)
def vGt : V2 := vCmp fun i j => decide (j < i)
def vGe : V2 := vCmp fun i j => decide (j ≤ i)
theorem opLt : OpR X (compareOp .Lt) (r2 g vLt) := cmp_int op_lt
theorem opLe : OpR X (compareOp .LtE) (r2 g vLe) := cmp_int op_le
theorem opGt : OpR X (compareOp .Gt) (r2 g vGt) := cmp_int op_gt
theorem opGe : OpR X (compareOp .GtE) (r2 g vGe) := cmp_int op_ge
def isNon : DV → Bool
  | .non => true
  | _ => false
theorem isNon_rel {κ : KA} {H : Hp} {d : DV} {v : V} {μ : Sto} (s : StoOk g κ H μ) (r : Rel g κ H d v) (hc : ∀ i, d = .cell i → ∃ xs, μ[i]? = some (.lst xs)) : decide (v = .non) = isNon d := by
  cases d with
  | non => simp only [Rel] at r; subst r; rfl
  | cell i =>
    obtain ⟨xs, hx⟩ := hc i rfl
    obtain ⟨a, vs, rfl, _⟩ := lstOf_rel (xs := xs) s r (by simp only [lstOf, hx])
    rfl
  | bl b => simp only [Rel] at r; subst r; rfl
  | int b => simp only [Rel] at r; subst r; rfl
  | str b => simp only [Rel] at r; subst r; rfl
  | ty b => simp only [Rel] at r; subst r; rfl
  | gl b => simp only [Rel] at r; subst r; rfl
  | tup xs => simp only [Rel] at r; obtain ⟨a, vs, rfl, _⟩ := r; rfl
  | lst xs => simp only [Rel] at r; obtain ⟨a, vs, rfl, _⟩ := r; rfl
  | scr xs => simp only [Rel] at r; obtain ⟨a, vs, rfl, _⟩ := r; rfl
  | dct ks xs => simp only [Rel] at r; obtain ⟨a, vs, rfl, _⟩ := r; rfl
  | obj c ks xs => simp only [Rel] at r; obtain ⟨a, dx, vs, rfl, _⟩ := r; rfl
  | exn c ks xs => simp only [Rel] at r; obtain ⟨a, dx, vs, _, rfl, _⟩ := r; rfl
def okIs (μ : Sto) : DV → Bool
  | .cell i => match μ[i]? with
    | some (.lst _) => true
    | _ => false
  | _ => true
theorem okIs_c {μ : Sto} {d : DV} (h : okIs μ d = true) : ∀ i, d = .cell i → ∃ xs, μ[i]? = some (.lst xs) := by
  rintro i rfl
  simp only [okIs] at h
  split at h
  · exact ⟨_, by assumption⟩
  · cases h
/-- is None, is not None -/
def vIs : V2 := fun d e μ => match e with
  | .non => if okIs μ d = true then some (.bl (isNon d)) else none
  | _ => none
def vIsNot : V2 := fun d e μ => match e with
  | .non => if okIs μ d = true then some (.bl (!isNon d)) else none
  | _ => none
theorem opIs : OpR X (compareOp .Is) (r2 g vIs) := by
  intro pins s σ H x y v u Q I rx ry h
  obtain ⟨κ, d, e, μ, rd, re, so, ho⟩ := h
  unfold vIs at ho
  split at ho
  · split at ho
    · rename_i hc
      simp only [Rel] at re
      subst re
      exact op_isN pins s σ H _ _ v u Q I rx ry ⟨rfl, by rw [isNon_rel so rd (okIs_c hc)]; exact ho.flat so (by simp [Rel])⟩
    · exact ho.elim
  · exact ho.elim
theorem opIsNot : OpR X (compareOp .IsNot) (r2 g vIsNot) := by
  intro pins s σ H x y v u Q I rx ry h
  obtain ⟨κ, d, e, μ, rd, re, so, ho⟩ := h
  unfold vIsNot at ho
  split at ho
  · split at ho
    · rename_i hc
      simp only [Rel] at re
      subst re
      exact op_notN pins s σ H _ _ v u Q I rx ry ⟨rfl, by rw [isNon_rel so rd (okIs_c hc)]; exact ho.flat so (by simp [Rel])⟩
    · exact ho.elim
  · exact ho.elim
/-- in: one sign in a text; data in a list -/
def inL (d : DV) (xs : List DV) : Option Bool := match toPy d, toPyL xs with
  | some p, some ps => if (SeqAt.shaped p && SeqAt.shaped (.list ps)) = true then some (ps.any fun z => PyData.eqv z p) else none
  | _, _ => none
def inD (d e : DV) (μ : Sto) : Option Bool := match d, e with
  | .str a, .str b => match a.cps.toList with
    | [c] => some (decide (c ∈ b.cps.toList))
    | _ => none
  | d, .tup xs => inL d xs
  | d, e => match seqOf μ e with
    | some xs => inL d xs
    | none => none
def vIn : V2 := fun d e μ => (inD d e μ).map .bl
def vNotIn : V2 := fun d e μ => (inD d e μ).map fun b => .bl (!b)
theorem str_one {a : Str} {c : Nat} (h : a.cps.toList = [c]) : a = ⟨#[c]⟩ := by
  obtain ⟨cps⟩ := a
  have : cps = #[c] := Array.ext' (by simpa using h)
  rw [this]
theorem inL_some {d : DV} {xs : List DV} {b : Bool} (h : inL d xs = some b) : ∃ p ps, toPy d = some p ∧ toPyL xs = some ps ∧ SeqAt.shaped p = true ∧ SeqAt.shaped (.list ps) = true ∧ b = ps.any fun z => PyData.eqv z p := by
  unfold inL at h
  split at h
  · split at h
    · rename_i p q h1 h2 hz
      rw [Bool.and_eq_true] at hz
      cases h
      exact ⟨p, q, h1, h2, hz.1, hz.2, rfl⟩
    · cases h
  · cases h
theorem in_read {d e : DV} {μ : Sto} {κ : KA} {H : Hp} {x y : V} {b : Bool} (so : StoOk g κ H μ) (rd : Rel g κ H d x) (re : Rel g κ H e y) (h : inD d e μ = some b) :
    (∃ c z, x = .str ⟨#[c]⟩ ∧ y = .str z ∧ b = decide (c ∈ z.cps.toList)) ∨ (∃ p ps, Dp g.K H x p ∧ Dp g.K H y (.list ps) ∧ SeqAt.shaped p = true ∧ SeqAt.shaped (.list ps) = true ∧ b = ps.any fun z => PyData.eqv z p) ∨
    (∃ p ps, Dp g.K H x p ∧ Dp g.K H y (.tuple ps) ∧ SeqAt.shaped p = true ∧ SeqAt.shaped (.list ps) = true ∧ b = ps.any fun z => PyData.eqv z p) := by
  unfold inD at h
  split at h
  · rename_i a b'
    split at h
    · rename_i c hc
      cases h
      simp only [Rel] at rd re
      subst rd re
      exact .inl ⟨c, b', by rw [str_one hc], rfl, rfl⟩
    · cases h
  · obtain ⟨p, ps, h1, h2, h3, h4, rfl⟩ := inL_some h
    obtain ⟨a, vs, rfl, h5, h6⟩ := tup_rel re
    exact .inr (.inr ⟨p, ps, dp_of rd h1, .tup h5 (dpAll_of h6 h2), h3, h4, rfl⟩)
  · split at h
    · rename_i xs hx
      obtain ⟨p, ps, h1, h2, h3, h4, rfl⟩ := inL_some h
      obtain ⟨a, vs, rfl, h5, h6⟩ := seqOf_rel so re hx
      exact .inr (.inl ⟨p, ps, dp_of rd h1, .lst h5 (dpAll_of h6 h2), h3, h4, rfl⟩)
    · cases h
/-- in a tuple -/
def rInT (K : PySem.W.Frag) : R2 := fun x y H Q => ∃ d ds, Dp K H x d ∧ Dp K H y (.tuple ds) ∧ SeqAt.shaped d = true ∧ SeqAt.shaped (.list ds) = true ∧ Q (.bl (ds.any fun z => PyData.eqv z d)) H
def rNotInT (K : PySem.W.Frag) : R2 := fun x y H Q => ∃ d ds, Dp K H x d ∧ Dp K H y (.tuple ds) ∧ SeqAt.shaped d = true ∧ SeqAt.shaped (.list ds) = true ∧ Q (.bl (!ds.any fun z => PyData.eqv z d)) H
theorem op_inT (hu : X.A.units + 65 < cLine) : OpR X (compareOp .In) (rInT X.K) := by
  intro pins s σ H x y v u Q I rx ry h
  obtain ⟨d, ds, hd, hl, sd, sl, q⟩ := h
  obtain ⟨as, k1⟩ := Dp.reads I d x v hd rx
  obtain ⟨bs, k2⟩ := Dp.reads I (.tuple ds) y u hl ry
  exact SeqAt.in_tuple_reads k2 k1 (SeqAt.canLay_of_shaped sl) (SeqAt.canLay_of_shaped sd) (room_in_shaped sd hu) ⟨.bl _, H, I, rfl, q⟩
theorem op_notInT (hu : X.A.units + 65 < cLine) : OpR X (compareOp .NotIn) (rNotInT X.K) := by
  intro pins s σ H x y v u Q I rx ry h
  obtain ⟨d, ds, hd, hl, sd, sl, q⟩ := h
  obtain ⟨as, k1⟩ := Dp.reads I d x v hd rx
  obtain ⟨bs, k2⟩ := Dp.reads I (.tuple ds) y u hl ry
  exact SeqAt.notIn_tuple_reads k2 k1 (SeqAt.canLay_of_shaped sl) (SeqAt.canLay_of_shaped sd) (room_in_shaped sd hu) ⟨.bl _, H, I, rfl, q⟩
theorem opIn (xg : XG g X) (hu : X.A.units + 65 < cLine) : OpR X (compareOp .In) (r2 g vIn) := by
  intro pins s σ H x y v u Q I rx ry h
  obtain ⟨κ, d, e, μ, rd, re, so, ho⟩ := h
  unfold vIn at ho
  cases hb : inD d e μ with
  | none => rw [hb] at ho; exact ho.elim
  | some b =>
    rw [hb] at ho
    rcases in_read so rd re hb with ⟨c, z, rfl, rfl, rfl⟩ | ⟨p, ps, h1, h2, h3, h4, rfl⟩ | ⟨p, ps, h1, h2, h3, h4, rfl⟩
    · exact op_in_sign pins s σ H _ _ v u Q I rx ry ⟨c, z, rfl, rfl, rOut.flat so ho (by simp [Rel])⟩
    · exact op_inD hu pins s σ H _ _ v u Q I rx ry ⟨p, ps, by rw [xg.K]; exact h1, by rw [xg.K]; exact h2, h3, h4, rOut.flat so ho (by simp [Rel])⟩
    · exact op_inT hu pins s σ H _ _ v u Q I rx ry ⟨p, ps, by rw [xg.K]; exact h1, by rw [xg.K]; exact h2, h3, h4, rOut.flat so ho (by simp [Rel])⟩
theorem opNotIn (xg : XG g X) (hu : X.A.units + 65 < cLine) : OpR X (compareOp .NotIn) (r2 g vNotIn) := by
  intro pins s σ H x y v u Q I rx ry h
  obtain ⟨κ, d, e, μ, rd, re, so, ho⟩ := h
  unfold vNotIn at ho
  cases hb : inD d e μ with
  | none => rw [hb] at ho; exact ho.elim
  | some b =>
    rw [hb] at ho
    rcases in_read so rd re hb with ⟨c, z, rfl, rfl, rfl⟩ | ⟨p, ps, h1, h2, h3, h4, rfl⟩ | ⟨p, ps, h1, h2, h3, h4, rfl⟩
    · exact op_notIn_sign pins s σ H _ _ v u Q I rx ry ⟨c, z, rfl, rfl, rOut.flat so ho (by simp [Rel])⟩
    · exact op_notInD hu pins s σ H _ _ v u Q I rx ry ⟨p, ps, by rw [xg.K]; exact h1, by rw [xg.K]; exact h2, h3, h4, rOut.flat so ho (by simp [Rel])⟩
    · exact op_notInT hu pins s σ H _ _ v u Q I rx ry ⟨p, ps, by rw [xg.K]; exact h1, by rw [xg.K]; exact h2, h3, h4, rOut.flat so ho (by simp [Rel])⟩

def vIx : V2 := fun d e μ => match e with
  | .int i => match d with
    | .str z => if okLen z.length = true then (atI z.cps.toList i).map fun c => .str ⟨#[c]⟩ else none
    | .tup xs => atI xs i
    | d => match seqOf μ d with
      | some xs => atI xs i
      | none => none
  | _ => none
theorem atI_rel {κ : KA} {H : Hp} {xs : List DV} {vs : List V} {i : Int} {d : DV} (r : RelL g κ H xs vs) (h : atI xs i = some d) : ∃ v, atI vs i = some v ∧ Rel g κ H d v := by
  unfold atI at h ⊢
  rw [← r.length]
  cases e : ixN xs.length i with
  | none => rw [e] at h; cases h
  | some j =>
    rw [e] at h
    simp only [Option.bind_some] at h ⊢
    exact r.get h
theorem ixAny (xg : XG g X) : IxR X (r2 g vIx) := by
  intro value slice pins s σ H x y v u Q I rx ry h hs
  obtain ⟨κ, d, e, μ, rd, re, so, ho⟩ := h
  unfold vIx at ho
  split at ho
  · rename_i i
    simp only [Rel] at re
    subst re
    split at ho
    · rename_i z
      simp only [Rel] at rd
      subst rd
      split at ho
      · rename_i hz
        cases hc : atI z.cps.toList i with
        | none => rw [hc] at ho; exact ho.elim
        | some c =>
          rw [hc] at ho
          exact ix_str value slice pins s σ H _ _ v u Q I rx ry ⟨z, i, c, rfl, rfl, okLen_iff.mp hz, hc, rOut.flat so ho (by simp [Rel])⟩ hs
      · exact ho.elim
    · rename_i xs
      obtain ⟨a, vs, rfl, h1, h2⟩ := tup_rel rd
      cases hc : atI xs i with
      | none => rw [hc] at ho; exact ho.elim
      | some c =>
        rw [hc] at ho
        obtain ⟨w', h3, h4⟩ := atI_rel h2 hc
        exact ix_tup value slice pins s σ H _ _ v u Q I rx ry ⟨a, vs, i, w', rfl, rfl, by rw [xg.K]; exact h1, h3, rOut.flat so ho h4⟩ hs
    · split at ho
      · rename_i xs hx
        obtain ⟨a, vs, rfl, h1, h2⟩ := seqOf_rel so rd hx
        cases hc : atI xs i with
        | none => rw [hc] at ho; exact ho.elim
        | some c =>
          rw [hc] at ho
          obtain ⟨w', h3, h4⟩ := atI_rel h2 hc
          exact ix_list value slice pins s σ H _ _ v u Q I rx ry ⟨a, vs, i, w', rfl, rfl, by rw [xg.K]; exact h1, h3, rOut.flat so ho h4⟩ hs
      · exact ho.elim
  · exact ho.elim
def cutD (xs : List DV) (lo hi : Option Int) : List DV := (xs.drop (HT.sIx xs.length 0 lo)).take (HT.sIx xs.length xs.length hi - HT.sIx xs.length 0 lo)
theorem cutD_rel {κ : KA} {H : Hp} {xs : List DV} {vs : List V} {lo hi : Option Int} (r : RelL g κ H xs vs) : RelL g κ H (cutD xs lo hi) (cutV vs lo hi) := by
  unfold cutD cutV
  rw [r.length]
  exact RelL.take _ (RelL.drop _ r)
def vSlc : VSl := fun d lo hi μ => match d with
  | .str z => if okLen z.length = true then some (.str (cutS z lo hi)) else none
  | .tup xs => some (.tup (cutD xs lo hi))
  | d => match seqOf μ d with
    | some xs => some (.lst (cutD xs lo hi))
    | none => none
theorem slAny (xg : XG g X) : SlR X (rSl g vSlc) := by
  intro pins s σ H x v vl vu lo hi sl Q I rx hs pl pu h
  obtain ⟨κ, d, μ, rd, so, ho⟩ := h
  unfold vSlc at ho
  split at ho
  · rename_i z
    simp only [Rel] at rd
    subst rd
    split at ho
    · rename_i hz
      exact sl_str pins s σ H _ v vl vu lo hi sl Q I rx hs pl pu ⟨z, rfl, okLen_iff.mp hz, rOut.flat so ho (by simp [Rel])⟩
    · exact ho.elim
  · rename_i xs
    obtain ⟨a, vs, rfl, h1, h2⟩ := tup_rel rd
    refine sl_tupFA pins s σ H _ v vl vu lo hi sl Q I rx hs pl pu ⟨a, vs, rfl, by rw [xg.K]; exact h1, fun hw => ?_, fun _ p ob hp hd => ho.newT so (cutD_rel h2) hp hd⟩
    have e : cutD xs lo hi = xs := by
      unfold cutD
      rw [h2.length, hw.1, hw.2]
      simp [← h2.length]
    rw [e] at ho
    exact ho.flat so rd
  · split at ho
    · rename_i xs hx
      obtain ⟨a, vs, rfl, h1, h2⟩ := seqOf_rel so rd hx
      exact sl_list pins s σ H _ v vl vu lo hi sl Q I rx hs pl pu ⟨a, vs, rfl, by rw [xg.K]; exact h1, fun p hp => ho.newL so (cutD_rel h2) hp⟩
    · exact ho.elim
end
end SD

set_option Elab.async false
set_option linter.all false
set_option maxRecDepth 100000
set_option maxHeartbeats 4000000
namespace SD
open PySem PySem.Spec PyProof.Rows L2
section
variable {g : Gc} {X : Cx}

def vLen : VN := fun ds μ => match ds with
  | [.str z] => if okLen z.length = true then some (.int z.length) else none
  | [.tup xs] => some (.int xs.length)
  | [d] => match seqOf μ d with
    | some xs => some (.int xs.length)
    | none => none
  | _ => none
theorem relL1 {κ : KA} {H : Hp} {d : DV} {vs : List V} (r : RelL g κ H [d] vs) : ∃ v, vs = [v] ∧ Rel g κ H d v := by
  obtain ⟨v, r', rfl, h1, h2⟩ := r.of_cons
  cases h2.of_nil
  exact ⟨v, rfl, h1⟩
theorem relL2 {κ : KA} {H : Hp} {d e : DV} {vs : List V} (r : RelL g κ H [d, e] vs) : ∃ v w, vs = [v, w] ∧ Rel g κ H d v ∧ Rel g κ H e w := by
  obtain ⟨v, r', rfl, h1, h2⟩ := r.of_cons
  obtain ⟨w, rfl, h3⟩ := relL1 h2
  exact ⟨v, w, rfl, h1, h3⟩
theorem cLen (xg : XG g X) : CallR X (.builtin "len") (rN g vLen) := by
  intro pins s σ H xs us Q I rx h
  obtain ⟨κ, ds, μ, rd, so, ho⟩ := h
  unfold vLen at ho
  split at ho
  · obtain ⟨v, rfl, r1⟩ := relL1 rd
    simp only [Rel] at r1
    subst r1
    split at ho
    · rename_i hz
      exact call_len_str pins s σ H _ us Q I rx ⟨_, rfl, okLen_iff.mp hz, rOut.flat so ho (by simp [Rel])⟩
    · exact ho.elim
  · obtain ⟨v, rfl, r1⟩ := relL1 rd
    obtain ⟨a, vs, rfl, h1, h2⟩ := tup_rel r1
    exact call_len_seq pins s σ H _ us Q I rx ⟨a, vs, rfl, .inr (by rw [xg.K]; exact h1), rOut.flat so ho (by simp [Rel, h2.length])⟩
  · obtain ⟨v, rfl, r1⟩ := relL1 rd
    split at ho
    · rename_i ys hy
      obtain ⟨a, vs, rfl, h1, h2⟩ := seqOf_rel so r1 hy
      exact call_len_seq pins s σ H _ us Q I rx ⟨a, vs, rfl, .inl (by rw [xg.K]; exact h1), rOut.flat so ho (by simp [Rel, h2.length])⟩
    · exact ho.elim
  · exact ho.elim
def vAbs : VN := fun ds _ => match ds with
  | [.int i] => some (.int (if i < 0 then -i else i))
  | _ => none
theorem cAbs : CallR X (.builtin "abs") (rN g vAbs) := by
  intro pins s σ H xs us Q I rx h
  obtain ⟨κ, ds, μ, rd, so, ho⟩ := h
  unfold vAbs at ho
  split at ho
  · obtain ⟨v, rfl, r1⟩ := relL1 rd
    simp only [Rel] at r1
    subst r1
    exact call_abs pins s σ H _ us Q I rx ⟨_, rfl, rOut.flat so ho (by simp [Rel])⟩
  · exact ho.elim
/-- int(n), int(flag), int(text) -/
def vInt : VN := fun ds _ => match ds with
  | [.int i] => some (.int i)
  | [.bl b] => some (.int (if b then 1 else 0))
  | [.str a] => if decide (a.length ≤ 640) = true then (PySem.intText? a).map .int else none
  | _ => none
theorem cInt : CallR X (.type "int") (rN g vInt) := by
  intro pins s σ H xs us Q I rx h
  obtain ⟨κ, ds, μ, rd, so, ho⟩ := h
  unfold vInt at ho
  split at ho
  · obtain ⟨v, rfl, r1⟩ := relL1 rd
    simp only [Rel] at r1
    subst r1
    exact call_int1 pins s σ H _ us Q I rx (.inl ⟨_, rfl, rOut.flat so ho (by simp [Rel])⟩)
  · obtain ⟨v, rfl, r1⟩ := relL1 rd
    simp only [Rel] at r1
    subst r1
    exact call_int1 pins s σ H _ us Q I rx (.inr ⟨_, rfl, rOut.flat so ho (by simp [Rel])⟩)
  · rename_i a
    obtain ⟨v, rfl, r1⟩ := relL1 rd
    simp only [Rel] at r1
    subst r1
    split at ho
    · rename_i hz
      cases hn : PySem.intText? a with
      | none => rw [hn] at ho; exact ho.elim
      | some n =>
        rw [hn] at ho
        exact call_int_str pins s σ H _ us Q I rx ⟨a, n, rfl, hn, by simpa using hz, rOut.flat so ho (by simp [Rel])⟩
    · exact ho.elim
  · exact ho.elim
/-- list(x), of a list, a tuple -/
def signsD (z : Str) : List DV := z.cps.toList.map fun c => .str ⟨#[c]⟩
def signsV (z : Str) : List V := z.cps.toList.map fun c => .str ⟨#[c]⟩
theorem signs_rel {g : Gc} {κ : KA} {H : Hp} : ∀ (cs : List Nat), RelL g κ H (cs.map fun c => DV.str ⟨#[c]⟩) (cs.map fun c => V.str ⟨#[c]⟩)
  | [] => RelL.nil
  | _ :: cs => RelL.cons (by simp only [Rel]) (signs_rel cs)
theorem vals_signs {z : Str} {acc : Array Value} (h : ItemsOf (SignAt z) acc z.cps.size) : Vals (signsV z) acc.toList := by
  refine vals_of_at (by unfold signsV; rw [List.length_map, Array.length_toList, Array.length_toList, h.1]) fun j x u h1 h2 => ?_
  obtain ⟨c, t, e1, e2⟩ := h.2 j u (by rw [← Array.getElem?_toList]; exact h2)
  unfold signsV at h1
  rw [List.getElem?_map, Array.getElem?_toList, e1] at h1
  cases h1
  subst e2
  exact ⟨t, rfl⟩
def vList : VN := fun ds μ => match ds with
  | [.str z] => if okLen z.cps.size = true then some (.lst (signsD z)) else none
  | [.tup xs] => some (.lst xs)
  | [d] => match seqOf μ d with
    | some xs => some (.lst xs)
    | none => none
  | _ => none
theorem cList (xg : XG g X) (hc : X.calm = true) : CallR X (.type "list") (rN g vList) := by
  intro pins s σ H xs us Q I rx h
  obtain ⟨κ, ds, μ, rd, so, ho⟩ := h
  unfold vList at ho
  split at ho
  · rename_i z
    obtain ⟨v, rfl, r1⟩ := relL1 rd
    simp only [Rel] at r1
    subst r1
    split at ho
    · rename_i hz
      have hz' := okLen_iff.mp hz
      obtain ⟨u, rfl, rz⟩ := vals1 rx
      obtain ⟨t, rfl⟩ := rz
      refine call_list_str (I.ok.hd hc) z t (fun h' tk acc' c' kp e hi => ?_) hz'
      refine ⟨.ref s.heap.objs.size, _, I.laid kp (Nat.le_refl _) (show ObjOk X.prog X.w _ h' _ (.lst (signsV z)) from ⟨?_, acc'.toList, c', vals_signs hi, ?_⟩), rfl, rOut.newL so ho (signs_rel z.cps.toList) (I.hok.fresh (Nat.le_refl _))⟩
      · unfold signsV; rw [List.length_map, Array.length_toList]; exact hz'
      · rw [Array.toArray_toList]; exact e
    · exact ho.elim
  · obtain ⟨v, rfl, r1⟩ := relL1 rd
    obtain ⟨a, vs, rfl, h1, h2⟩ := tup_rel r1
    exact call_list_of pins s σ H _ us Q I rx ⟨a, vs, rfl, .inr (by rw [xg.K]; exact h1), fun l hl => rOut.newL so ho h2 hl⟩
  · obtain ⟨v, rfl, r1⟩ := relL1 rd
    split at ho
    · rename_i ys hy
      obtain ⟨a, vs, rfl, h1, h2⟩ := seqOf_rel so r1 hy
      exact call_list_of pins s σ H _ us Q I rx ⟨a, vs, rfl, .inl (by rw [xg.K]; exact h1), fun l hl => rOut.newL so ho h2 hl⟩
    · exact ho.elim
  · exact ho.elim
def asBs : List DV → Option (List Bool)
  | [] => some []
  | .bl b :: r => (asBs r).map (b :: ·)
  | _ => none
def asIs : List DV → Option (List Int)
  | [] => some []
  | .int i :: r => (asIs r).map (i :: ·)
  | _ => none
theorem asBs_rel {κ : KA} {H : Hp} : ∀ {xs : List DV} {vs : List V} {bs : List Bool}, RelL g κ H xs vs → asBs xs = some bs → vs = bs.map V.bl
  | [], _, _, r, h => by cases r.of_nil; cases h; rfl
  | x :: xs, _, bs, r, h => by
    obtain ⟨v, r', rfl, h1, h2⟩ := r.of_cons
    cases x with
    | bl b =>
      simp only [asBs, Option.map_eq_some_iff] at h
      obtain ⟨cs, h3, rfl⟩ := h
      simp only [Rel] at h1
      subst h1
      rw [asBs_rel h2 h3]; rfl
    | _ => cases h
theorem asIs_rel {κ : KA} {H : Hp} : ∀ {xs : List DV} {vs : List V} {bs : List Int}, RelL g κ H xs vs → asIs xs = some bs → vs = bs.map V.int
  | [], _, _, r, h => by cases r.of_nil; cases h; rfl
  | x :: xs, _, bs, r, h => by
    obtain ⟨v, r', rfl, h1, h2⟩ := r.of_cons
    cases x with
    | int b =>
      simp only [asIs, Option.map_eq_some_iff] at h
      obtain ⟨cs, h3, rfl⟩ := h
      simp only [Rel] at h1
      subst h1
      rw [asIs_rel h2 h3]; rfl
    | _ => cases h
def vAll : VN := fun ds μ => match ds with
  | [d] => match seqOf μ d with
    | some xs => (asBs xs).map fun bs => .bl (bs.all id)
    | none => none
  | _ => none
def vAny : VN := fun ds μ => match ds with
  | [d] => match seqOf μ d with
    | some xs => (asBs xs).map fun bs => .bl (bs.any id)
    | none => none
  | _ => none
theorem cAll (xg : XG g X) (hc : X.calm = true) : CallR X (.builtin "all") (rN g vAll) := by
  intro pins s σ H xs us Q I rx h
  obtain ⟨κ, ds, μ, rd, so, ho⟩ := h
  unfold vAll at ho
  split at ho
  · obtain ⟨v, rfl, r1⟩ := relL1 rd
    split at ho
    · rename_i ys hy
      obtain ⟨a, vs, rfl, h1, h2⟩ := seqOf_rel so r1 hy
      cases hb : asBs ys with
      | none => rw [hb] at ho; exact ho.elim
      | some bs =>
        rw [hb] at ho
        have e := asBs_rel h2 hb
        subst e
        exact cr_all hc pins s σ H _ us Q I rx ⟨a, bs, rfl, by rw [xg.K]; exact h1, rOut.flat so ho (by simp [Rel])⟩
    · exact ho.elim
  · exact ho.elim
theorem cAny (xg : XG g X) (hc : X.calm = true) : CallR X (.builtin "any") (rN g vAny) := by
  intro pins s σ H xs us Q I rx h
  obtain ⟨κ, ds, μ, rd, so, ho⟩ := h
  unfold vAny at ho
  split at ho
  · obtain ⟨v, rfl, r1⟩ := relL1 rd
    split at ho
    · rename_i ys hy
      obtain ⟨a, vs, rfl, h1, h2⟩ := seqOf_rel so r1 hy
      cases hb : asBs ys with
      | none => rw [hb] at ho; exact ho.elim
      | some bs =>
        rw [hb] at ho
        have e := asBs_rel h2 hb
        subst e
        exact cr_any hc pins s σ H _ us Q I rx ⟨a, bs, rfl, by rw [xg.K]; exact h1, rOut.flat so ho (by simp [Rel])⟩
    · exact ho.elim
  · exact ho.elim
def tyOf (μ : Sto) : DV → Option T7
  | .non => some .non
  | .bl _ => some .bl
  | .int _ => some .int
  | .str _ => some .str
  | .tup _ => some .tup
  | .lst _ => some .lst
  | .scr _ => some .lst
  | .dct _ _ => some .dct
  | .cell i => match μ[i]? with
    | some (.lst _) => some .lst
    | _ => none
  | _ => none
def T7.sub (a b : T7) : Bool := decide (a = b) || (decide (a = .bl) && decide (b = .int))
theorem kit7 (a b : T7) : kitB a.name b.name = some (a.sub b) := by
  cases a <;> cases b <;> decide +kernel
theorem tyX_of {κ : KA} {H : Hp} {μ : Sto} {d : DV} {v : V} {t : T7} (so : StoOk g κ H μ) (r : Rel g κ H d v) (h : tyOf μ d = some t) : TyX g.K H v (.type t.name) := by
  cases d with
  | non => cases h; simp only [Rel] at r; subst r; exact .base .non
  | bl b => cases h; simp only [Rel] at r; subst r; exact .base (.bl b)
  | int b => cases h; simp only [Rel] at r; subst r; exact .base (.int b)
  | str b => cases h; simp only [Rel] at r; subst r; exact .base (.str b)
  | tup xs =>
    cases h
    simp only [Rel] at r
    obtain ⟨a, vs, rfl, h2, h3⟩ := r
    rcases h2 with ⟨ob, _, h2⟩ | ⟨o, its, n, h4, h5, _⟩
    · exact .fTuple h2.1
    · exact .kTuple h4 h5
  | lst xs =>
    cases h
    simp only [Rel] at r
    obtain ⟨a, vs, rfl, h2, h3⟩ := r
    exact .base (.lst h2.1)
  | scr xs =>
    cases h
    simp only [Rel] at r
    obtain ⟨a, vs, rfl, h2, h3⟩ := r
    rcases h2 with h2 | ⟨ob, h2⟩ | ⟨o, its, n, h4, h5, _⟩
    · exact .base (.lst h2.1)
    · exact .base (.frz h2.1)
    · exact .kList h4 h5
  | dct ks xs =>
    cases h
    simp only [Rel] at r
    obtain ⟨a, vs, rfl, h2, h3⟩ := r
    exact .base (.dK h2.1)
  | cell i =>
    simp only [tyOf] at h
    cases ec : μ[i]? with
    | none => rw [ec] at h; cases h
    | some c =>
      rw [ec] at h
      cases c with
      | lst xs =>
        cases h
        obtain ⟨a, vs, rfl, h1, h2⟩ := lstOf_rel (xs := xs) so r (by simp only [lstOf, ec])
        exact .base (.lst h1)
      | _ => cases h
  | _ => cases h
def asTys : List DV → Option (List T7)
  | [] => some []
  | .ty t :: r => (asTys r).map (t :: ·)
  | _ => none
def vIsi : VN := fun ds μ => match ds with
  | [d, .ty t] => (tyOf μ d).map fun a => .bl (a.sub t)
  | [d, .tup cs] => match tyOf μ d, asTys cs with
    | some a, some ts => some (.bl (ts.any fun t => a.sub t))
    | _, _ => none
  | _ => none
theorem asTys_rel {κ : KA} {H : Hp} : ∀ {xs : List DV} {vs : List V} {ts : List T7}, RelL g κ H xs vs → asTys xs = some ts → Paired ClsV vs (ts.map fun t => Value.type t.name)
  | [], _, _, r, h => by cases r.of_nil; cases h; exact .nil
  | x :: xs, _, ts, r, h => by
    obtain ⟨v, r', rfl, h1, h2⟩ := r.of_cons
    cases x with
    | ty t =>
      simp only [asTys, Option.map_eq_some_iff] at h
      obtain ⟨cs, h3, rfl⟩ := h
      simp only [Rel] at h1
      subst h1
      exact .cons (.ty _) (asTys_rel h2 h3)
    | _ => cases h
theorem kitAny7 {K : PySem.W.Frag} (a : T7) : ∀ ts : List T7, PySem.W.kitAny K (.type a.name) (ts.map fun t => Value.type t.name) = some (ts.any fun t => a.sub t)
  | [] => kitAny_nil
  | t :: ts => by
    rw [List.map_cons, List.any_cons]
    refine kitAny_cons (kit_ty (kit7 a t)) (fun h => ?_) (fun h => by rw [h, Bool.true_or])
    rw [h, Bool.false_or]
    exact kitAny7 a ts
theorem cIsi (xg : XG g X) : CallR X (.builtin "isinstance") (rN g vIsi) := by
  intro pins s σ H xs us Q I rx h
  obtain ⟨κ, ds, μ, rd, so, ho⟩ := h
  unfold vIsi at ho
  split at ho
  · rename_i d t
    obtain ⟨v, w', rfl, r1, r2⟩ := relL2 rd
    simp only [Rel] at r2
    subst r2
    cases ht : tyOf μ d with
    | none => rw [ht] at ho; exact ho.elim
    | some a =>
      rw [ht] at ho
      exact call_isi pins s σ H _ us Q I rx ⟨v, _, _, _, _, rfl, .ty _, by rw [xg.K]; exact tyX_of so r1 ht, kit_ty (kit7 a t), rOut.flat so ho (by simp [Rel])⟩
  · rename_i d cs
    obtain ⟨v, w', rfl, r1, r2⟩ := relL2 rd
    cases ht : tyOf μ d with
    | none => rw [ht] at ho; exact ho.elim
    | some a =>
      cases hc : asTys cs with
      | none => rw [ht, hc] at ho; exact ho.elim
      | some ts =>
        rw [ht, hc] at ho
        simp only [Rel] at r2
        obtain ⟨p, vs, rfl, h2, h3⟩ := r2
        have ty : TyX X.K H v (.type a.name) := by rw [xg.K]; exact tyX_of so r1 ht
        exact call_isiS pins s σ H _ us Q I rx ⟨v, p, vs, _, _, _, rfl, by rw [xg.K]; exact h2.sq, asTys_rel h3 hc, ty, kitAny7 a ts, rOut.flat so ho (by simp [Rel])⟩
  · exact ho.elim

/-- a cell that is a list, at its place -/
theorem cell_at {κ : KA} {H : Hp} {μ : Sto} {i : Nat} {v : V} {xs : List DV} (so : StoOk g κ H μ) (r : Rel g κ H (.cell i) v) (h : μ[i]? = some (.lst xs)) : ∃ p vs, v = .ref p ∧ κ.cs[i]? = some (some p) ∧ H p = some (.lst vs) ∧ RelL g κ H xs vs := by
  simp only [Rel] at r
  obtain ⟨o, h1, h2⟩ := so.at_ i _ h
  obtain ⟨p, vs, rfl, h3, h4⟩ := h2
  exact ⟨p, vs, r.2 p h1, h1, h3, h4⟩
theorem rOutS.write {κ : KA} {H : Hp} {μ : Sto} {i : Nat} {p : Addr} {z : DV} {xs : List DV} {vs : List V} {w : V} {Q : VK} (so : StoOk g κ H μ) (hi : κ.cs[i]? = some (some p)) (r : RelL g κ H xs vs) (rz : Rel g κ H z w) (h : rOutS g κ H (some (z, μ.set i (.lst xs))) Q) : Q w (upd H p (.lst vs)) := by
  have e := Ext.write (o := .lst vs) so hi
  exact h κ _ e (so.write hi ⟨p, vs, rfl, upd_same, r.ext e⟩) w (rz.ext e)
def sSetIx (e o i : DE) : DS := fun ρ μ => (e ρ μ).toS ρ fun y μ1 => (o ρ μ1).toS ρ fun d μ2 => (i ρ μ2).toS ρ fun k μ3 => match d, k with
  | .cell c, .int k => match μ3[c]? with
    | some (.lst xs) => match ixN xs.length k with
      | some j => .nx ρ (μ3.set c (.lst (xs.set j y)))
      | none => .stuck
    | _ => .stuck
  | _, _ => .stuck
theorem gs_setIx {W : WX} {e o i : Expr} {fe fo fi : DE} {pos pos' : Pos} (he : GE g W X e fe) (ho : GE g W X o fo) (hi : GE g W X i fi)
    (ha : ∀ v, assign (.Subscript o i pos') X.env v = (do
      let ov ← holding [v] (eval o X.env)
      let iv ← holding [v, ov] (eval i X.env)
      standAt pos'
      holding [v, ov, iv] (setItem ov iv v)
      release [v, ov, iv] []) := by intro _; rfl)
    (hs : swapsWithSole [.Subscript o i pos'] e pos.line X.env = pure false := by rfl) (hw : swappedStores [.Subscript o i pos'] e X.env = pure none := by rfl)
    (h1 : (assignEach [.Subscript o i pos'] X.env).map (·.2) = [assign (.Subscript o i pos') X.env] := by rfl) : GS g W X (.Assign [.Subscript o i pos'] e pos) (sSetIx fe fo fi) :=
  PS.imp (ps_asg he (pg_sub ho hi set_list ha) hs hw h1) fun D σ H q => by
  obtain ⟨κ, ρ, μ, he, hs, hw⟩ := q
  refine ⟨κ, ρ, μ, he, hs, (wpS.bind he hw).mono fun y μ1 κ1 H1 e1 s1 h1 v rv => ?_⟩
  refine ⟨κ1, ρ, μ1, he.ext e1, s1, (wpS.bind (he.ext e1) h1).mono fun d μ2 κ2 H2 e2 s2 h2 w' rw' => ?_⟩
  refine ⟨κ2, ρ, μ2, (he.ext e1).ext e2, s2, (wpS.bind ((he.ext e1).ext e2) h2).mono fun k μ3 κ3 H3 e3 s3 h3 z rz => ?_⟩
  split at h3
  · rename_i c k
    split at h3
    · rename_i xs hx
      split at h3
      · rename_i j hj
        obtain ⟨p, vs, rfl, h4, h5, h6⟩ := cell_at s3 (rw'.ext e3) hx
        simp only [Rel] at rz
        subst rz
        have ry := rv.ext (e2.trans e3)
        have ex := Ext.write (o := .lst (vs.set j v)) s3 h4
        refine ⟨p, vs, k, j, rfl, rfl, h5, by rw [← h6.length]; exact hj, ?_⟩
        exact h3 κ3 _ σ ex (s3.write h4 ⟨p, _, rfl, upd_same, (RelL.set ry j h6).ext ex⟩) ((((he.ext e1).ext e2).ext e3).ext ex)
      · exact h3.elim
    · exact h3.elim
  · exact h3.elim

end
end SD

set_option Elab.async false
set_option linter.all false
set_option maxRecDepth 100000
set_option maxHeartbeats 4000000
namespace SD
open PySem PySem.Spec PyProof.Rows L2
section
variable {g : Gc} {W : WX} {X : Cx} {pos : Pos}
def eDct0 : DE := fun _ μ => .ok (.dct [] []) μ
theorem ge_dct0 : GE g W X (.Dict [] [] pos) eDct0 := PE.imp pe_dnewK fun σ H Q q => by
  obtain ⟨κ, ρ, μ, he, hs, hw⟩ := q
  intro p hp
  refine hw κ _ (Ext.new hs hp) (hs.new hp) (.ref p) ?_
  simp only [Rel]
  exact ⟨p, [], rfl, ⟨upd_same, hs.fresh hp⟩, rfl, RelL.nil⟩
end
end SD

set_option Elab.async false
set_option linter.all false
set_option maxRecDepth 100000
set_option maxHeartbeats 4000000
namespace SD
open PySem PySem.Spec PyProof.Rows L2
section
variable {g : Gc} {W : WX} {X : Cx} {x : Str} {pos : Pos}
theorem ge_gint {i : Int} (hm : ∃ t, X.mg x = some (.int i t)) (hg : Gl X x) (hd : (x == ("__debug__" : Str)) = false := by decide) : GE g W X (.Name x pos) (eC (.int i)) := by
  obtain ⟨t, h⟩ := hm
  exact ge_c (v := .int i) (pe_glob hg h ⟨t, rfl⟩ hd)
theorem ge_ty (t : T7) (hm : X.mg x = none) (hg : Gl X x) (hv : bootBuiltins x = some (.type t.name)) (hn : x ≠ "__name__" := by decide) (hd : (x == ("__debug__" : Str)) = false := by decide) : GE g W X (.Name x pos) (eC (.ty t)) :=
  ge_c (v := .ty t.name) (pe_bltn hg hm hv rfl hn hd)
end
theorem hu65 {k : Nat} {A : Around} (r : Room k A) : A.units + 65 < cLine := by have := r.un; omega
theorem hu64 {k : Nat} {A : Around} (r : Room k A) : A.units + 64 < cLine := r.units
/-- the facts of the head, over some heap -/
structure Hd (fa : List He.Fa) (fn : List He.DefD) (K : PySem.W.Frag) (mg : Str → Option Value) : Prop where
  ex : ∃ h : Heap, K.In h ∧ h.Ns mainGlobals mg ∧ He.SaysD fa fn K
section
variable {fa : List He.Fa} {fn : List He.DefD} {K : PySem.W.Frag} {mg : Str → Option Value}
theorem Hd.glo (T : Hd fa fn K mg) (i : Nat) {x : Str} (h : fa[i]? = some (.glo x) := by rfl) : mg x = some (.ref (He.ga K x)) := by
  obtain ⟨_, X, G, c⟩ := T.ex
  exact He.glo_ok X G (c.fact i h)
theorem Hd.free (T : Hd fa fn K mg) (i : Nat) {x : Str} (h : fa[i]? = some (.free x) := by rfl) : mg x = none := by
  obtain ⟨_, X, G, c⟩ := T.ex
  exact He.free_ok X G (c.fact i h)
theorem Hd.int (T : Hd fa fn K mg) (i : Nat) {x : Str} {k : Int} (h : fa[i]? = some (.int x k) := by rfl) : ∃ t, mg x = some (.int k t) := by
  obtain ⟨_, X, G, c⟩ := T.ex
  exact He.int_ok X G (c.fact i h)
theorem Hd.str (T : Hd fa fn K mg) (i : Nat) {x z : Str} (h : fa[i]? = some (.str x z) := by rfl) : ∃ t, mg x = some (.str z t) := by
  obtain ⟨_, X, G, c⟩ := T.ex
  exact He.str_ok X G (c.fact i h)
theorem Hd.def_ (T : Hd fa fn K mg) (i : Nat) {d : He.DefD} (h : fn[i]? = some d := by rfl) : ∃ fd, FunD K d.name d.qual d.params d.body d.scope (d.dvs K) (d.kws K) (He.fAd K d.at_) fd := by
  obtain ⟨_, X, G, c⟩ := T.ex
  exact c.def_ i h
end
/-- a global def: where it stands, and its promise by its body -/
theorem fg_of {P : Program} {w : World} {g : Gc} {mg : Str → Option Value} {base : Heap} {x : Str} {st : Stmt} {N ps : List Str} {dvs : List V} {k : Nat} {md : Md} {fb : DS} {f : Addr}
    (hm : mg x = some (.ref f)) (hF : ∃ fd, FunD g.K x x (defArgs st) (defBody st) (defScope st) dvs [] f fd) (S : FnScope N ps (defScope st))
    (hb : ∀ (cdv : Value) (A : Around) (outer : List Env) (s : Shared) (H : Hp) (E : XK), Room k (A.deeper (envOfC x (defScope st) s.heap.objs.size f cdv)) → GSs g (WF E) (cxOf (L2.CX P w) P w g.K mg base N x (defScope st) f cdv A outer s H E) (defBody st) fb) :
    FnG P w g mg base (k + 1) x st ps dvs (runF md ps.length N.length fb) := by
  obtain ⟨fd, F⟩ := hF
  exact ⟨f, fd, hm, F, gf_ok F S hb⟩
theorem fg_stuck {P : Program} {w : World} {g : Gc} {mg : Str → Option Value} {base : Heap} {x : Str} {st : Stmt} {ps : List Str} {dvs : List V} {k : Nat} {f : Addr}
    (hm : mg x = some (.ref f)) (hF : ∃ fd, FunD g.K x x (defArgs st) (defBody st) (defScope st) dvs [] f fd) : FnG P w g mg base k x st ps dvs (fun _ _ => .stuck) := by
  obtain ⟨fd, F⟩ := hF
  exact ⟨f, fd, hm, F, fnOk_stuck⟩
theorem ar_stuck {np : Nat} : Ar (fun _ _ => .stuck) np := fun _ _ _ => rfl
/-- the body's wish about exceptions -/
theorem tk_of {P : Program} {w : World} {K : PySem.W.Frag} {mg : Str → Option Value} {base : Heap} {N : List Str} {qual : Str} {scope : Scope} {f : Addr} {cdv : Value} {A : Around} {outer : List Env} {s : Shared} {H : Hp} {E : XK} :
    Takes (cxOf (L2.CX P w) P w K mg base N qual scope f cdv A outer s H E) (WF E) := takes_of rfl rfl rfl rfl
theorem po_of {P : Program} {w : World} {K : PySem.W.Frag} {mg : Str → Option Value} {base : Heap} {N : List Str} {qual : Str} {scope : Scope} {f : Addr} {cdv : Value} {A : Around} {outer : List Env} {s : Shared} {H : Hp} {E : XK} :
    PassesOwn (model P w) (cxOf (L2.CX P w) P w K mg base N qual scope f cdv A outer s H E).A (cxOf (L2.CX P w) P w K mg base N qual scope f cdv A outer s H E).env (cxOf (L2.CX P w) P w K mg base N qual scope f cdv A outer s H E).xe :=
  passes_of (X := cxOf (L2.CX P w) P w K mg base N qual scope f cdv A outer s H E) rfl
end SD

set_option Elab.async false
set_option linter.all false
set_option maxRecDepth 100000
set_option maxHeartbeats 4000000
namespace HT2
open PySem PySem.Spec PyProof.Rows HT PySem.W
section
variable {prog : Program} {w : World} {A : Around} {E : Value → Shared → Prop} {s : Shared}
end
end HT2
namespace SD
open PySem PySem.Spec PyProof.Rows L2
section
variable {g : Gc} {W : WX} {X : Cx}
theorem RelL.rev {κ : KA} {H : Hp} : ∀ {xs : List DV} {vs : List V}, RelL g κ H xs vs → RelL g κ H xs.reverse vs.reverse
  | [], _, r => by cases r.of_nil; exact RelL.nil
  | x :: xs, _, r => by
    obtain ⟨v, r', rfl, h1, h2⟩ := r.of_cons
    rw [List.reverse_cons, List.reverse_cons]
    exact (RelL.rev h2).append (RelL.cons h1 RelL.nil)
theorem PE.or {e : Expr} {t u : TE} (h : PE X e t) (h' : PE X e u) : PE X e (fun σ H Q => t σ H Q ∨ u σ H Q) := ⟨fun pins s σ H Q I q => q.elim (h.run pins s σ H Q I) (h'.run pins s σ H Q I)⟩
end
end SD
namespace SD
open PySem PySem.Spec PyProof.Rows L2
theorem noCX {P : Program} {w : World} {H : Hp} {s : Shared} {e : Value} {s' : Shared} (z : L2.CX P w [] H s (fun _ _ _ => False) e s') : False := by
  obtain ⟨_, _, _, _, _, _, _, _, _, _, _, _, z⟩ := z
  exact z
end SD

set_option Elab.async false
set_option linter.all false
set_option maxRecDepth 100000
set_option maxHeartbeats 4000000
namespace SD
open PySem PySem.Spec PyProof.Rows L2
section
variable {g : Gc} {X : Cx}
def maxI : List Int → Int
  | [] => 0
  | [a] => a
  | a :: b :: r => if maxI (b :: r) ≤ a then a else maxI (b :: r)
theorem maxI_mem : ∀ {l : List Int}, 0 < l.length → maxI l ∈ l
  | [a], _ => by simp [maxI]
  | a :: b :: r, _ => by
    have := maxI_mem (l := b :: r) (by simp)
    unfold maxI
    split
    · exact List.mem_cons_self
    · exact List.mem_cons_of_mem _ this
theorem maxI_ge : ∀ {l : List Int} {y : Int}, y ∈ l → y ≤ maxI l
  | [a], y, h => by simp at h; simp [maxI, h]
  | a :: b :: r, y, h => by
    unfold maxI
    rcases List.mem_cons.mp h with rfl | h
    · split <;> omega
    · have := maxI_ge h
      split <;> omega
def vMax : VN := fun ds μ => match ds with
  | [.int i, .int j] => some (.int (if j > i then j else i))
  | [d] => match seqOf μ d with
    | some xs => (asIs xs).bind fun ns => if 0 < ns.length then some (.int (maxI ns)) else none
    | none => none
  | _ => none
theorem cMax (xg : XG g X) (hc : X.calm = true) : CallR X (.builtin "max") (rN g vMax) := by
  intro pins s σ H xs us Q I rx h
  obtain ⟨κ, ds, μ, rd, so, ho⟩ := h
  unfold vMax at ho
  split at ho
  · obtain ⟨v, w, rfl, r1, r2⟩ := relL2 rd
    simp only [Rel] at r1 r2
    subst r1 r2
    exact call_max2 hc pins s σ H _ us Q I rx ⟨_, _, rfl, rOut.flat so ho (by simp [Rel])⟩
  · obtain ⟨v, rfl, r1⟩ := relL1 rd
    split at ho
    · rename_i ys hy
      obtain ⟨a, vs, rfl, h1, h2⟩ := seqOf_rel so r1 hy
      cases hb : asIs ys with
      | none => rw [hb] at ho; exact ho.elim
      | some bs =>
        rw [hb] at ho
        have e := asIs_rel h2 hb
        subst e
        simp only [Option.bind_some] at ho
        split at ho
        · rename_i hn
          refine cr_max hc pins s σ H _ us Q I rx ⟨a, bs, rfl, by rw [xg.K]; exact h1, hn, fun m hm hle => ?_⟩
          have : m = maxI bs := Int.le_antisymm (maxI_ge hm) (hle _ (maxI_mem hn))
          subst this
          exact rOut.flat so ho (by simp [Rel])
        · exact ho.elim
    · exact ho.elim
  · exact ho.elim
/-- a, b = [..] -/
def gUnl' (f : DGs) (n : Nat) : DG := fun d ρ μ => match seqOf μ d with
  | some xs => if xs.length = n then f xs ρ μ else none
  | none => none
/-- x, y, z = a, b, c -/
def sPar3 (i j l : Nat) (r : DA) : DS := fun ρ μ => (r ρ μ).toS ρ fun ds μ1 => match ds with
  | [d, e, f] => .nx (((ρ.set i (some d)).set j (some e)).set l (some f)) μ1
  | _ => .stuck
end
end SD

set_option Elab.async false
set_option linter.all false
set_option maxRecDepth 100000
set_option maxHeartbeats 4000000
namespace L2
open PySem PySem.Spec PyProof.Rows
end L2
namespace SD
open PySem PySem.Spec PyProof.Rows L2
section
variable {g : Gc} {W : WX} {X : Cx} {e : Expr} {fa : DE} {pos : Pos}
end
end SD

set_option Elab.async false
set_option linter.all false
set_option maxRecDepth 100000
set_option maxHeartbeats 4000000
namespace PySem
section
variable {prog : Program} {w : World} {A : Around} {R : Result → Shared → Prop} {it : Addr} {fp wr : List Addr} {n : Nat} {P : Nat → Value → Prop} {St : Nat → Heap → Prop} {S : Addr}
/-- all but the walk's own and the keeper stay -/
def Stay (wr : List Addr) (S : Addr) (h h' : Heap) : Prop := ∀ b o, b ∉ wr → b ≠ S → h.get? b = some o → h'.get? b = some o
theorem Stay.trans {h h1 h2 : Heap} (a : Stay wr S h h1) (b : Stay wr S h1 h2) : Stay wr S h h2 := fun c o x y e => b c o x y (a c o x y e)
end
section
open PyProof.Rows
variable {prog : Program} {w : World} {A : Around} {E : Value → Shared → Prop} {s : Shared}
end
end PySem
namespace SD
open PySem PySem.Spec PyProof.Rows L2
section
variable {g : Gc} {X : Cx}
end
end SD

set_option Elab.async false
set_option linter.all false
set_option maxRecDepth 100000
set_option maxHeartbeats 4000000
namespace SD
open PySem PySem.Spec PyProof.Rows L2
section
variable {g : Gc} {X : Cx}
end
end SD

set_option Elab.async false
set_option linter.all false
set_option maxRecDepth 100000
set_option maxHeartbeats 4000000
namespace SD
open PySem PySem.Spec PyProof.Rows L2
abbrev leTail : List Value := [.type "LookupError", .type "Exception", .type "BaseException", .type "object"]
/-- own classes, then LookupError's -/
def refsLE : List Value → Bool
  | .ref _ :: r => refsLE r
  | l => l == leTail
/-- what is asked of the classes behind one's own -/
structure Tl (bm tl : List Value) : Prop where
  has : ∀ Y : String, bm.contains (.type Y) = tl.contains (.type Y)
  ob : tl.contains (.type "object") = true
  pass : ∀ self : Value, refuseLoop self "__setattr__" bm = pure ()
theorem Tl.ve {bm : List Value} (h : PySem.HandSPX.refsVE bm = true) : Tl bm PySem.HandSPX.veTail := ⟨fun Y => PySem.HandSPX.refsVE_contains Y bm h, by decide +kernel, fun self => PySem.HandSPX.refsVE_pass self bm h⟩
theorem le_pass (self : Value) : refuseLoop self "__setattr__" leTail = pure () := by kernel_rfl
theorem Tl.le : ∀ {bm : List Value}, refsLE bm = true → Tl bm leTail
  | [], e => absurd e (by decide)
  | .ref c :: r, e => by
    have T := Tl.le (bm := r) e
    exact ⟨fun Y => by rw [List.contains_cons, T.has Y]; rfl, T.ob, fun self => by rw [refuseLoop_ref]; exact T.pass self⟩
  | .none :: _, e => by rw [show _ = leTail from beq_iff_eq.mp e]; exact ⟨fun _ => rfl, by decide +kernel, le_pass⟩
  | .ellipsis :: _, e => by rw [show _ = leTail from beq_iff_eq.mp e]; exact ⟨fun _ => rfl, by decide +kernel, le_pass⟩
  | .notImplemented :: _, e => by rw [show _ = leTail from beq_iff_eq.mp e]; exact ⟨fun _ => rfl, by decide +kernel, le_pass⟩
  | .bool _ :: _, e => by rw [show _ = leTail from beq_iff_eq.mp e]; exact ⟨fun _ => rfl, by decide +kernel, le_pass⟩
  | .int _ _ :: _, e => by rw [show _ = leTail from beq_iff_eq.mp e]; exact ⟨fun _ => rfl, by decide +kernel, le_pass⟩
  | .float _ _ :: _, e => by rw [show _ = leTail from beq_iff_eq.mp e]; exact ⟨fun _ => rfl, by decide +kernel, le_pass⟩
  | .str _ _ :: _, e => by rw [show _ = leTail from beq_iff_eq.mp e]; exact ⟨fun _ => rfl, by decide +kernel, le_pass⟩
  | .bytes _ _ :: _, e => by rw [show _ = leTail from beq_iff_eq.mp e]; exact ⟨fun _ => rfl, by decide +kernel, le_pass⟩
  | .type _ :: _, e => by rw [show _ = leTail from beq_iff_eq.mp e]; exact ⟨fun _ => rfl, by decide +kernel, le_pass⟩
  | .builtin _ :: _, e => by rw [show _ = leTail from beq_iff_eq.mp e]; exact ⟨fun _ => rfl, by decide +kernel, le_pass⟩
/-- an own exception class over either base -/
structure OexG (K : PySem.W.Frag) (C : Addr) : Prop where
  cls : ∃ nm q N bs bm sn sub ab col dd k0 k1 k2 k3 k5 B nw ni tl, K.lookup C = some (excClassObj nm q C N bs bm true sn sub ab col dd k0 k1 k2 k3 k5 nw) ∧ ExcBaseFacts B nw ni tl ∧ Tl bm tl
  sa : PySem.W.findIn K (.ref C) "__setattr__" = some (some (.builtin "object.__setattr__"))
  exC : PySem.W.subIn K (.ref C) (.type "BaseException") = some true
  tyC : PySem.W.typeIn K (.ref C) = some (.type "type")
  kC : PySem.W.keepIn K (.ref C) = true
section
open Builtin Builtin.ObjectAttr PySem.HandSPX PySem.W PySem.Calls
variable {prog : Program} {w : World} {A : Around} {E : Value → Shared → Prop} {R : Result → Shared → Prop} {hp : Heap} {g : Array GenState} {d : Drawn} {t : Nat} {os : OsState}
variable {K : PySem.W.Frag} {name : Str} {tk : Tok} {v : Value} {x C dx : Addr} {fv : Array Value} {cd : ClassData} {bm tl : List Value}
/-- the first field -/
theorem osa_newG (X : K.In hp) (hx : hp.get? x = some { cls := .ref C, data := .fields fv }) (hcd : PySem.W.clsIn K C = some cd) (hm : cd.mro = .ref C :: bm) (T : Tl bm tl) (hh : cd.hasDict = true) (ha : PySem.W.findIn K (.ref C) name = some none)
    (hq : ∀ h' tk' dx, (∀ b o, b ≠ x → hp.get? b = some o → h'.get? b = some o) → hp.objs.size ≤ dx → dx ≠ x → h'.get? x = some { cls := .ref C, dict := some dx, data := .fields fv } →
      h'.Ns1 dx (fun y => if y = name then some v else none) → R (.ok (.ret .none)) ⟨h', g, d, tk', os⟩) :
    codeAny (model prog w) A (.call (.builtin "object.__setattr__") ⟨[.ref x, .str name tk, v], []⟩) R ⟨hp, g, d, t, os⟩ := by
  have I : PySem.W.InstAt hp x { cls := .ref C, data := .fields fv } C none := ⟨hx, rfl, rfl, trivial⟩
  have SF := F.store_object
  have hob : cd.mro.contains (.type "object") = true := by rw [hm, List.contains_cons, T.has, T.ob, Bool.or_true]
  have ne : cd.mro.isEmpty = false := by rw [hm]; rfl
  have hxs : x ≠ hp.objs.size := Nat.ne_of_lt (Heap.lt_size hx)
  have sub : PySem.W.Looks (model prog w) hp (isInstance (.ref x) (.type "object")) true := I.type.andThen (PySem.W.looks_mroIn X (by unfold PySem.W.mroIn; rw [hcd, Option.bind_some, if_neg (by rw [ne]; decide), hob]))
  refine codeAny_call_builtin SF.slot.plain SF.entry (@PySem.W.check_slot (model prog w) _ _ ⟨hp, g, d, t, os⟩ "object.__setattr__" "object" "__setattr__" (.ref x) [.str name tk, v] [] _ SF.kind SF.split sub (SF.args (.ref x) (.str name tk) v) ?_)
  have hmr : PySem.W.Looks (model prog w) hp (mroOf (.ref C)) cd.mro := (PySem.W.looks_clsIn X hcd).andThen .now
  have L3 : PySem.W.Looks (model prog w) hp (storeTaker? none) none := .now
  have hcls : PySem.W.Looks (model prog w) hp (classData C) cd := PySem.W.looks_clsIn X hcd
  rw [PySem.W.osa_eq, refuse_eq]
  refine wpAny_bind (wpAny_bind (I.type.at (wpAny_bind (hmr.at ?_))))
  rw [hm, refuseLoop_ref, T.pass]
  refine wpAny_pure (wpAny_bind (I.type.at (wpAny_bind ((PySem.W.looks_findIn X ha).at (wpAny_bind (L3.at ?_))))))
  show wpAny _ _ (storeInOwnDict (.ref x) (.ref C) (.str name tk) name v false) _ _ _
  obtain ⟨nm, bs, mro, ns, qn, hd, sn, sb, ab, col, del⟩ := cd
  dsimp only at hh
  subst hh
  unfold storeInOwnDict ownDictForStores
  repeat (first | with_reducible refine PySem.HandSPX.store_in_new ?_ ?_ | with_reducible refine wpAny_loadPart_at hx ?_ | with_reducible refine hcls.at ?_ | wp_step)
  · exact ⟨_, #[], _, (Heap.get?_update_ne _ _ _ _ hxs.symm).trans (Heap.get?_push_at rfl rfl), rfl, fun e he => absurd he (by simp), fun _ => rfl⟩
  · intro h' tk' hn' hs
    have hx₁ : (hp.push { cls := .type "dict", data := .dict #[] }).get? x = some { cls := .ref C, data := .fields fv } := Heap.get?_push_of_some _ hx
    refine hq h' tk' hp.objs.size (fun b o hb ho => ?_) (Nat.le_refl _) hxs.symm ?_ hn'
    · exact (hs.2 b (Nat.ne_of_lt (Heap.lt_size ho))).trans ((Heap.get?_update_ne _ _ _ _ hb).trans (Heap.get?_push_of_some _ ho))
    · exact (hs.2 x hxs).trans (Heap.get?_update_self _ hx₁ rfl)
/-- a further field -/
theorem osa_oldG {m0 : Str → Option Value} {nl : List Str} (X : K.In hp) (hx : hp.get? x = some { cls := .ref C, dict := some dx, data := .fields fv }) (hns : hp.Ns1 dx m0) (hw : Within m0 nl) (hz : nl.length ≤ 1000) (hcd : PySem.W.clsIn K C = some cd) (hm : cd.mro = .ref C :: bm) (T : Tl bm tl) (hh : cd.hasDict = true)
    (ha : PySem.W.findIn K (.ref C) name = some none)
    (hq : ∀ h' tk', (∀ b o, b ≠ dx → hp.get? b = some o → h'.get? b = some o) → h'.Ns1 dx (fun y => if y = name then some v else m0 y) → R (.ok (.ret .none)) ⟨h', g, d, tk', os⟩) :
    codeAny (model prog w) A (.call (.builtin "object.__setattr__") ⟨[.ref x, .str name tk, v], []⟩) R ⟨hp, g, d, t, os⟩ := by
  obtain ⟨oD, esD, epD, hoD, hdD, _⟩ := hns.count hw
  have I : PySem.W.InstAt hp x { cls := .ref C, dict := some dx, data := .fields fv } C (some oD) := ⟨hx, rfl, rfl, hoD⟩
  have SF := F.store_object
  have hob : cd.mro.contains (.type "object") = true := by rw [hm, List.contains_cons, T.has, T.ob, Bool.or_true]
  have ne : cd.mro.isEmpty = false := by rw [hm]; rfl
  have sub : PySem.W.Looks (model prog w) hp (isInstance (.ref x) (.type "object")) true := I.type.andThen (PySem.W.looks_mroIn X (by unfold PySem.W.mroIn; rw [hcd, Option.bind_some, if_neg (by rw [ne]; decide), hob]))
  refine codeAny_call_builtin SF.slot.plain SF.entry (@PySem.W.check_slot (model prog w) _ _ ⟨hp, g, d, t, os⟩ "object.__setattr__" "object" "__setattr__" (.ref x) [.str name tk, v] [] _ SF.kind SF.split sub (SF.args (.ref x) (.str name tk) v) ?_)
  have hmr : PySem.W.Looks (model prog w) hp (mroOf (.ref C)) cd.mro := (PySem.W.looks_clsIn X hcd).andThen .now
  have L3 : PySem.W.Looks (model prog w) hp (storeTaker? none) none := .now
  have hcls : PySem.W.Looks (model prog w) hp (classData C) cd := PySem.W.looks_clsIn X hcd
  rw [PySem.W.osa_eq, refuse_eq]
  refine wpAny_bind (wpAny_bind (I.type.at (wpAny_bind (hmr.at ?_))))
  rw [hm, refuseLoop_ref, T.pass]
  refine wpAny_pure (wpAny_bind (I.type.at (wpAny_bind ((PySem.W.looks_findIn X ha).at (wpAny_bind (L3.at ?_))))))
  show wpAny _ _ (storeInOwnDict (.ref x) (.ref C) (.str name tk) name v false) _ _ _
  obtain ⟨nm, bs, mro, ns, qn, hd, sn, sb, ab, col, del⟩ := cd
  dsimp only at hh
  subst hh
  unfold storeInOwnDict ownDictForStores
  repeat (first | with_reducible refine PySem.OEX.store_in_old hns hw hz ?_ | with_reducible refine wpAny_loadPart_at hx ?_ | with_reducible refine hcls.at ?_ | wp_step)
  intro h' tk' hn' hs
  exact hq h' tk' (fun b o hb ho => (hs.2 b hb).trans ho) hn'
end
section
variable {X : Cx} {pins : List (Addr × Obj)} {σ : L2.St} {H : Hp} {s : Shared} {a C dx : Addr} {f : Str} {y : V} {u : Value} {fs : List (Str × V)} {Q : Unit → Shared → Prop} {E : Value → Shared → Prop} {A : Around}
theorem OexG.of {K : PySem.W.Frag} {C : Addr} (T : OexC K C) : OexG K C := by
  obtain ⟨⟨nm, q, N, bs, bm, sn, sub, ab, col, dd, k0, k1, k2, k3, k5, hC, hbm⟩, h1, h2, h3, h4⟩ := T
  exact ⟨⟨nm, q, N, bs, bm, sn, sub, ab, col, dd, k0, k1, k2, k3, k5, _, _, _, _, hC, F.excBase_ValueError, Tl.ve hbm⟩, h1, h2, h3, h4⟩
/-- self.f = y, the first one -/
theorem ostG_new (T : OexG X.K C) (I : Inv X pins σ H s) (e : H a = some (exo a C none)) (hno : PySem.W.findIn X.K (.ref C) f = some none) (ry : RelV y u)
    (h : ∀ dx s', H dx = none → dx ≠ a → Inv X pins σ (upd (upd H dx (exd dx [(f, y)])) a (exo a C (some dx))) s' → Q () s') : wpAny (model X.prog X.w) A (setAttr (.ref a) f u) Q E s := by
  obtain ⟨nm, q, N, bs, bm, sn, sub, ab, col, dd, k0, k1, k2, k3, k5, B, nw, ni, tl, hC, _, ht⟩ := T.cls
  have hcl : PySem.W.clsIn X.K C = some { name := nm, bases := bs, mro := .ref C :: bm, ns := N, qualname := q, hasDict := true, slotNames := sn, subclasses := sub, abstract := ab, collection := col, hasDel := false } := by unfold PySem.W.clsIn; rw [hC] <;> rfl
  obtain ⟨t1, ho⟩ := exo_at I.hok e
  obtain ⟨hp, g, d, t, os⟩ := s
  refine PySem.W.set_plain I.kIn (ox := { cls := .ref C, dict := none, data := .fields #[.ref t1, .none, .none, .none, .bool false, .none] }) (od := none) ⟨ho, rfl, rfl, trivial⟩ T.sa ?_
  refine osa_newG I.kIn ho hcl rfl ht rfl hno (fun h' tk' dx k dn dne hx hn => ?_)
  have hnd : H dx = none := I.hok.fresh dn
  have nd : ∀ {b : Addr} {o : Obj}, hp.get? b = some o → b ≠ dx := fun {b o} q => Nat.ne_of_lt (Nat.lt_of_lt_of_le (Heap.lt_size q) dn)
  have na : ∀ {b : Addr}, H b = none → b ≠ a := fun {b} n z => by
    rw [z, e] at n
    cases n
  have Un1 : Un X.fs [] H (upd (upd H dx (exd dx [(f, y)])) a (exo a C (some dx))) hp h' := {
    keep := fun b o q n _ _ => k b o (na n) q
    slot := fun b o q n _ _ => ⟨o.slots, k b o (na n) q⟩
    free := fun b o q n _ => by rw [upd_ne (na n), upd_ne (nd q)]; exact n
    there := fun b o q _ => by
      by_cases hb : b = a
      · exact ⟨_, by rw [hb]; exact hx⟩
      · exact ⟨o, k b o hb q⟩
    tups := fun b xs q => by rw [upd_ne (at_ne e q exo_tup), upd_ne (ne_of_none q hnd)]; exact q
    frzs := fun b o v q => by rw [upd_ne (at_ne e q exo_frz), upd_ne (ne_of_none q hnd)]; exact q
    tbls := fun b ps q => ⟨#[], by rw [upd_ne (at_ne e q exo_tbl), upd_ne (ne_of_none q hnd), q]; simp⟩ }
  refine h dx _ hnd dne (I.un (t' := tk') Un1 fun b o q => ?_)
  by_cases hb : b = a
  · subst hb
    rw [upd_same] at q
    cases q
    exact exo_ok hx
  · rw [upd_ne hb] at q
    by_cases hd : b = dx
    · subst hd
      rw [upd_same] at q
      cases q
      exact exd_ok hn (relO_put (fs := []) ry fun g => True.intro)
    · rw [upd_ne hd] at q
      exact (I.hok b o q).stay (fun c v hc z => k c v (by
          rcases hc with hc | hc
          · rw [hc]
            exact hb
          · exact at_ne e hc exo_own) z)
        (fun c hc => by rw [upd_ne (at_ne e hc exo_own), upd_ne (ne_of_none hc hnd)]; exact hc) (fun c xs hc => by rw [upd_ne (at_ne e hc exo_tup), upd_ne (ne_of_none hc hnd)]; exact hc)
/-- self.f = y, a further one -/
theorem ostG_old (T : OexG X.K C) (I : Inv X pins σ H s) (e : H a = some (exo a C (some dx))) (ed : H dx = some (exd dx fs)) (hl : fs.length ≤ 900) (hno : PySem.W.findIn X.K (.ref C) f = some none) (ry : RelV y u)
    (h : ∀ s', Inv X pins σ (upd H dx (exd dx ((f, y) :: fs))) s' → Q () s') : wpAny (model X.prog X.w) A (setAttr (.ref a) f u) Q E s := by
  obtain ⟨nm, q, N, bs, bm, sn, sub, ab, col, dd, k0, k1, k2, k3, k5, B, nw, ni, tl, hC, _, ht⟩ := T.cls
  have hcl : PySem.W.clsIn X.K C = some { name := nm, bases := bs, mro := .ref C :: bm, ns := N, qualname := q, hasDict := true, slotNames := sn, subclasses := sub, abstract := ab, collection := col, hasDel := false } := by unfold PySem.W.clsIn; rw [hC] <;> rfl
  obtain ⟨t1, ho⟩ := exo_at I.hok e
  obtain ⟨mA, hns, rel⟩ := exd_at I.hok ed
  have hw := within_of rel
  obtain ⟨hp, g, d, t, os⟩ := s
  obtain ⟨oD, _, _, hoD, _, _⟩ := hns.count hw
  refine PySem.W.set_plain I.kIn (ox := { cls := .ref C, dict := some dx, data := .fields #[.ref t1, .none, .none, .none, .bool false, .none] }) (od := some oD) ⟨ho, rfl, rfl, hoD⟩ T.sa ?_
  refine osa_oldG I.kIn ho hns hw (by rw [List.length_map]; omega) hcl rfl ht rfl hno (fun h' tk' k hn => ?_)
  have hd : ∃ o, h'.get? dx = some o := by
    obtain ⟨o, _, _, e', _⟩ := hn
    exact ⟨o, e'⟩
  exact h _ (I.write (t' := tk') (x := dx) (e := dx) (o := exd dx ((f, y) :: fs)) (by rw [ed]; exact True.intro) (.inl rfl) k hd (exd_ok hn (relO_put ry rel)))
end
/-- self.f = e -/
def tOstG (K : PySem.W.Frag) (f : Str) (to te : TE) : TS := fun D σ H => te σ H fun y H1 => to σ H1 fun x H2 => ∃ a C : Addr, x = .ref a ∧ OexG K C ∧ PySem.W.findIn K (.ref C) f = some none ∧
  ((H2 a = some (exo a C none) ∧ ∀ dx, H2 dx = none → dx ≠ a → D.nx σ (upd (upd H2 dx (exd dx [(f, y)])) a (exo a C (some dx)))) ∨
    ∃ (dx : Addr) (fs : List (Str × V)), H2 a = some (exo a C (some dx)) ∧ H2 dx = some (exd dx fs) ∧ fs.length ≤ 900 ∧ D.nx σ (upd H2 dx (exd dx ((f, y) :: fs))))
section
variable {X : Cx} {o e : Expr} {es : List Expr} {to te : TE} {ta : TA} {f : Str} {p p' p1 p2 pos : Pos}
theorem psG_ost (ho : PE X o to) (he : PE X e te) (hs : swapsWith e (some (.Attribute o f p')) pos.line X.env = pure false := by rfl) : PS X (.Assign [.Attribute o f p'] e pos) (tOstG X.K f to te) := by
  refine ⟨fun pins s σ H D I h => ?_⟩
  refine plainObj_wpAny_Assign_Attribute (thn (he.run pins s σ H _ I h) fun v s1 ⟨y, H1, I1, r1, q1⟩ => thn (ho.run pins s1 σ H1 _ I1 q1) fun u s2 ⟨x, H2, I2, r2, a, C, ex, T, hno, q⟩ => ?_) hs
  subst ex
  obtain rfl : u = Value.ref a := r2
  rcases q with ⟨ea, q⟩ | ⟨dx, fs, ea, ed, hl, q⟩
  · exact ostG_new T I2 ea hno r1 fun dx s' n ne J => ⟨σ, _, J, q dx n ne⟩
  · exact ostG_old T I2 ea ed hl hno r1 fun s' J => ⟨σ, _, J, q⟩
/-- C(e, ..), C's own __init__ keeping sp -/
theorem pmkG_oex {CX : CXT} {x : Str} {C fI : Addr} {k : Nat} {fd : FuncData} {ps : List Str} {sp : Sp} {ds : List Value} {dvs : List V} (T : OexG X.K C) (iC : PySem.W.findIn X.K (.ref C) "__init__" = some (some (.ref fI))) (tI : PySem.W.typeIn X.K (.ref fI) = some (.type "function"))
    (F1 : FnOk X.prog X.w X.K X.mg X.base CX k fI fd ps sp) (hr : Room (k + 1) X.A) (hb : Binds X.K fd ps ds) (hd : Vals dvs ds) (hx : Passes CX X (fun _ _ _ => False)) (hg : Gl X x) (hm : X.mg x = some (.ref C)) (ha : PA X (e :: es) ta)
    (hdb : (x == ("__debug__" : Str)) = false := by decide) (he : starEach (e :: es) X.env = (false, eval e X.env) :: starEach es X.env := by rfl) (hpl : (backTo pos (starEach es X.env)).any (·.1) = false := by rfl) :
    PMk X (.Call (.Name x p) (e :: es) [] pos) (tMkO C sp dvs ta) := by
  intro pins s σ H Q I h
  obtain ⟨nm, q, N, bs, bm, sn, sub, ab, col, dd, k0, k1, k2, k3, k5, B, nw, ni, tl, hC, hB, ht⟩ := T.cls
  refine wpAny_Call_Name_kw (ld_glob I hg hm ?_ hdb)
  refine PySem.W.callWith_K (h₀ := X.base) I.ok.mod.kin T.kC (thn (ha.run pos pins s σ H _ I h) fun us s1 ⟨vs, H1, I1, r1, hz, q1⟩ => ⟨I1.kIn, ?_⟩) he hpl
  show wpAny _ _ (call (.ref C) us) _ _ _
  obtain ⟨hp, g, dr, tk, os⟩ := s1
  have hsz : hp.objs.size ≤ hp.objs.size + 1 := Nat.le_succ _
  have hn : H1 (hp.objs.size + 1) = none := I1.hok.fresh hsz
  have hq := q1 (hp.objs.size + 1) hn
  have kk : ∀ b o, hp.get? b = some o → ((hp.push (PySem.W.kdv_tup us)).push (PySem.HandSPX.excO C hp.objs.size)).get? b = some o := fun b o e => Heap.get?_push_of_some _ (Heap.get?_push_of_some _ e)
  have hget : ((hp.push (PySem.W.kdv_tup us)).push (PySem.HandSPX.excO C hp.objs.size)).get? (hp.objs.size + 1) = some (PySem.HandSPX.excO C hp.objs.size) := by heap_get
  have I2 : Inv X pins σ (upd H1 (hp.objs.size + 1) (exo (hp.objs.size + 1) C none)) ⟨(hp.push (PySem.W.kdv_tup us)).push (PySem.HandSPX.excO C hp.objs.size), g, dr, tk, os⟩ :=
    I1.laid (t' := tk) (a := hp.objs.size + 1) (o := exo (hp.objs.size + 1) C none) (h' := (hp.push (PySem.W.kdv_tup us)).push (PySem.HandSPX.excO C hp.objs.size)) kk hsz (exo_ok hget)
  have r2 : Vals (V.ref (hp.objs.size + 1) :: (vs ++ dvs)) (Value.ref (hp.objs.size + 1) :: (us ++ ds)) := .cons rfl (r1.append hd)
  have hl : (Value.ref (hp.objs.size + 1) :: us ++ ds).length = ps.length := by
    have e := r2.length
    rw [F1.len _ _ _ _ hq] at e
    exact e.symm
  have hus : us.length ≤ sizeLine := by
    rw [← Paired.length r1, sizeLine_eq]
    omega
  refine wpAny_call (PySem.HandSPX.call_own hB ht.has (I1.kIn _ _ hC) (PySem.W.looks_findIn I1.kIn iC) (fun self => PySem.W.bind_fn I1.kIn self tI) hus
    (codeAny_mono (F1.run _ X.stack _ _ ⟨Value.ref (hp.objs.size + 1) :: us, []⟩ (Value.ref (hp.objs.size + 1) :: (us ++ ds)) _ _ (fun _ _ _ => False) (hr.make C us []) (I2.env0.make C us []) (hb _ (Value.ref (hp.objs.size + 1) :: us) I2.kIn hl) r2 hq) fun r s' hq' => ?_))
  cases r with
  | error er => exact hx pins σ _ _ er s' I2 hq'
  | ok fl =>
    cases fl with
    | ret u =>
      obtain ⟨v, H2, os2, bare2, un2, hok2, rv, ev, d, fs, ea, ed, hd1, q2⟩ := hq'
      subst ev
      obtain ⟨h2, g2, d2, t2, os'⟩ := s'
      exact ⟨rv, mk_end (raises_own T.exC T.tyC) I1 hsz kk un2 hok2 os2 bare2 ea ed hd1 q2⟩
    | next => exact False.elim hq'
    | brk => exact False.elim hq'
    | cont => exact False.elim hq'
end
end SD

set_option Elab.async false
set_option linter.all false
set_option maxRecDepth 100000
set_option maxHeartbeats 4000000
namespace SD
open PySem PySem.Spec PyProof.Rows L2

def fsI (code : Str) (ps : List Str) (ys : List V) : List (Str × V) := ("code", .str code) :: (ps.zip ys).reverse
def spI (C : Addr) (ps : List Str) (code : Str) : Sp := fun vs H Q _ => vs.length = ps.length + 1 ∧ ∃ (a : Addr) (ys : List V), vs = .ref a :: ys ∧ ys.length = ps.length ∧ H a = some (exo a C none) ∧ ∀ dx, H dx = none → dx ≠ a → Q .non (upd (upd H dx (exd dx (fsI code ps ys))) a (exo a C (some dx)))
theorem upd_again {H : Hp} {a d : Addr} {o1 o2 o3 : HO} (h : d ≠ a) : upd (upd (upd H d o1) a o2) d o3 = upd (upd H d o3) a o2 := by
  funext b
  by_cases hb : b = d
  · subst hb
    rw [upd_same, upd_ne h, upd_same]
  · rw [upd_ne hb]
    by_cases ha : b = a
    · subst ha; rw [upd_same, upd_same]
    · rw [upd_ne ha, upd_ne ha, upd_ne hb, upd_ne hb]
section
variable {P : Program} {w : World} {K : PySem.W.Frag} {mg : Str → Option Value} {base : Heap} {qual code f1 f2 : Str} {params : Arguments} {scope : Scope} {fI C : Addr} {fd : FuncData} {k j : Nat} {p1 p2 p3 p4 q1 q2 q3 q4 r1 r2 r3 r4 : Pos}
theorem init0 {N : List Str} (F : FunD K "__init__" qual params [.Assign [.Attribute (.Name "self" p1) "code" p2] (.Constant (.str code) j p3) p4] scope [] [] fI fd) (S : FnScope N ["self"] scope)
    (T : OexG K C) (hc : PySem.W.findIn K (.ref C) "code" = some none)
    (hv : ∀ (cdv : Value) (A : Around) (outer : List Env) (s : Shared) (H : Hp) (E : XK), PE (cxOf (L2.CX P w) P w K mg base N qual scope fI cdv A outer s H E) (.Name "self" p1) (tVar 0)) (h0 : N.length = 1) :
    FnOk P w K mg base (L2.CX P w) (k + 1) fI fd ["self"] (spI C [] code) := by
  refine F.ok S (fun vs H Q E h => h.1) (fun cdv A outer s H vs Q E hr h => ⟨_, pss_one (psG_ost (hv cdv A outer s H E) pe_str), ?_⟩)
  obtain ⟨_, a, ys, rfl, hl, ha, h⟩ := h
  have : ys = [] := List.length_eq_zero_iff.mp hl
  subst this
  refine ⟨.ref a, rfl, a, C, rfl, T, hc, .inl ⟨ha, fun dx n ne => ?_⟩⟩
  exact h dx n ne
theorem init1 {N : List Str} (F : FunD K "__init__" qual params [.Assign [.Attribute (.Name "self" p1) f1 p2] (.Name f1 p3) p4, .Assign [.Attribute (.Name "self" q1) "code" q2] (.Constant (.str code) j q3) q4] scope [] [] fI fd) (S : FnScope N ["self", f1] scope)
    (T : OexG K C) (hc : PySem.W.findIn K (.ref C) "code" = some none) (h1 : PySem.W.findIn K (.ref C) f1 = some none)
    (hv : ∀ (cdv : Value) (A : Around) (outer : List Env) (s : Shared) (H : Hp) (E : XK) (p : Pos), PE (cxOf (L2.CX P w) P w K mg base N qual scope fI cdv A outer s H E) (.Name "self" p) (tVar 0))
    (hv1 : ∀ (cdv : Value) (A : Around) (outer : List Env) (s : Shared) (H : Hp) (E : XK), PE (cxOf (L2.CX P w) P w K mg base N qual scope fI cdv A outer s H E) (.Name f1 p3) (tVar 1))
    (hs : ∀ env : Env, swapsWith (.Name f1 p3) (some (.Attribute (.Name "self" p1) f1 p2)) p4.line env = pure false := by intro _; rfl) (h0 : N.length = 2) :
    FnOk P w K mg base (L2.CX P w) (k + 1) fI fd ["self", f1] (spI C [f1] code) := by
  refine F.ok S (fun vs H Q E h => h.1) (fun cdv A outer s H vs Q E hr h => ⟨_, pss_cons (psG_ost (hv cdv A outer s H E p1) (hv1 cdv A outer s H E) (hs _)) (pss_one (psG_ost (hv cdv A outer s H E q1) pe_str)), ?_⟩)
  obtain ⟨_, a, ys, rfl, hl, ha, h⟩ := h
  match ys, hl with
  | [y], _ =>
    refine ⟨y, rfl, .ref a, rfl, a, C, rfl, T, h1, .inl ⟨ha, fun dx n ne => ?_⟩⟩
    refine ⟨.ref a, rfl, a, C, rfl, T, hc, .inr ⟨dx, [(f1, y)], upd_same, by rw [upd_ne ne, upd_same], by simp, ?_⟩⟩
    show Q .non (upd (upd (upd H dx _) a _) dx _)
    rw [upd_again ne]
    exact h dx n ne
end
/-- an own exception class, as those who raise see it: its number c, its params, its code -/
structure XcG (P : Program) (w : World) (g : Gc) (mg : Str → Option Value) (base : Heap) (k : Nat) (x : Str) (c : Nat) (ps : List Str) (code : Str) : Prop where
  ex : ∃ (fI : Addr) (fd : FuncData), mg x = some (.ref (g.cls c)) ∧ OexG g.K (g.cls c) ∧ PySem.W.findIn g.K (.ref (g.cls c)) "__init__" = some (some (.ref fI)) ∧ PySem.W.typeIn g.K (.ref fI) = some (.type "function") ∧
    Binds g.K fd ("self" :: ps) [] ∧ FnOk P w g.K mg base (L2.CX P w) k fI fd ("self" :: ps) (spI (g.cls c) ps code)
def sRaise (c : Nat) (ps : List Str) (code : Str) (r : DA) : DS := fun ρ μ => (r ρ μ).toS ρ fun ds μ1 => if ds.length = ps.length ∧ ps.length ≤ 900 then .ex c ("code" :: ps.reverse) (.str code :: ds.reverse) ρ μ1 else .stuck
theorem zip_rev {α β : Type} : ∀ {xs : List α} {ys : List β}, ys.length = xs.length → xs.reverse.zip ys.reverse = (xs.zip ys).reverse
  | [], _, _ => by simp
  | x :: xs, [], h => by simp at h
  | x :: xs, y :: ys, h => by
    have h' : ys.length = xs.length := by simpa using h
    rw [List.reverse_cons, List.reverse_cons, List.zip_append (by simp [h']), zip_rev h']
    show (xs.zip ys).reverse ++ [(x, y)] = ((x, y) :: xs.zip ys).reverse
    rw [List.reverse_cons]
theorem fsI_zip {code : Str} {ps : List Str} {ys : List V} (h : ys.length = ps.length) : fsI code ps ys = (("code" : Str) :: ps.reverse).zip (V.str code :: ys.reverse) := by
  unfold fsI
  rw [List.zip_cons_cons, zip_rev h]
theorem RelL.reverse {g : Gc} {κ : KA} {H : Hp} {xs : List DV} {vs : List V} (r : RelL g κ H xs vs) : RelL g κ H xs.reverse vs.reverse := RelL.rev r
section
variable {g : Gc} {W : WX} {X : Cx} {e : Expr} {es : List Expr} {fr : DA} {pos p pos' : Pos} {x : Str} {k c : Nat} {ps : List Str} {code : Str}
theorem gs_raise (G : XcG X.prog X.w g X.mg X.base k x c ps code) (xg : XG g X) (hc : X.calm = true) (hr : Room (k + 1) X.A) (hg : Gl X x) (tk : Takes X W) (ha : GA g W X (e :: es) fr)
    (hdb : (x == ("__debug__" : Str)) = false := by decide) (he : starEach (e :: es) X.env = (false, eval e X.env) :: starEach es X.env := by rfl) (hpl : (backTo pos (starEach es X.env)).any (·.1) = false := by rfl) :
    GS g W X (.Raise (some (.Call (.Name x p) (e :: es) [] pos)) none pos') (sRaise c ps code fr) := by
  obtain ⟨fI, fd, h1, T, iC, tI, bn, F⟩ := G.ex
  have eK : X.K = g.K := xg.K
  rw [← eK] at T iC tI bn F
  refine PS.imp (ps_raise hc tk (pmkG_oex (dvs := []) T iC tI F hr bn .nil (passes_call tk fun _ _ _ _ h => h.elim) hg h1 ha hdb he hpl)) fun D σ H q => ?_
  obtain ⟨κ, ρ, μ, hE, hs, hw⟩ := q
  refine ⟨κ, ρ, μ, hE, hs, (wpS.bind hE hw).mono fun ds μ1 κ1 H1 e1 s1 hh vs rv => ?_⟩
  by_cases hl : ds.length = ps.length ∧ ps.length ≤ 900
  · rw [if_pos hl] at hh
    have hv : vs.length = ps.length := by rw [← rv.length]; exact hl.1
    refine ⟨by omega, fun a ha => ?_⟩
    rw [List.append_nil]
    refine ⟨by simp [hv], a, vs, rfl, hv, upd_same, fun dx n ne => ?_⟩
    have nd : H1 dx = none := by rwa [upd_ne ne] at n
    refine ⟨rfl, dx, fsI code ps vs, upd_same, by rw [upd_ne ne, upd_same], nd, ?_⟩
    have eH : upd (del (upd (upd (upd H1 a (exo a (g.cls c) none)) dx (exd dx (fsI code ps vs))) a (exo a (g.cls c) (some dx))) a) dx (.xd (fsI code ps vs)) = upd H1 dx (.xd (fsI code ps vs)) := by
      funext b
      by_cases hb : b = dx
      · subst hb; rw [upd_same, upd_same]
      · rw [upd_ne hb, upd_ne hb]
        by_cases hba : b = a
        · subst hba; rw [del_same, ha]
        · rw [del_ne hba, upd_ne hba, upd_ne hb, upd_ne hba]
    rw [eH]
    refine hh κ1 _ σ (Ext.new s1 nd) (s1.new nd) ((hE.ext e1).ext (Ext.new s1 nd)) dx (V.str code :: vs.reverse) ?_ (by simp [hv]) (RelL.cons (by simp [Rel]) ((RelL.rev rv).ext (Ext.new s1 nd)))
    rw [← fsI_zip hv]
    exact ⟨upd_same, s1.fresh nd⟩
  · rw [if_neg hl] at hh; exact hh.elim
end
end SD

set_option Elab.async false
set_option linter.all false
set_option maxRecDepth 100000
set_option maxHeartbeats 4000000
namespace SD
open PySem PySem.Spec PyProof.Rows L2

mutual
def DV.noE : DV → Bool
  | .tup xs => noEL xs
  | .lst xs => noEL xs
  | .scr xs => noEL xs
  | .dct _ xs => noEL xs
  | .obj _ _ xs => noEL xs
  | .exn _ _ _ => false
  | _ => true
def noEL : List DV → Bool
  | [] => true
  | x :: xs => x.noE && noEL xs
end
def CO.noE : CO → Bool
  | .dead => true
  | .lst xs => noEL xs
  | .ins _ _ xs => noEL xs
  | .dct _ xs => noEL xs
section
variable {g g' : Gc} {κ : KA} {H : Hp} {μ : Sto}
mutual
theorem Rel.isNoE (hg : g.ex = none) : ∀ {d : DV} {v : V}, Rel g κ H d v → d.noE = true
  | .non, _, _ => rfl
  | .bl _, _, _ => rfl
  | .int _, _, _ => rfl
  | .str _, _, _ => rfl
  | .ty _, _, _ => rfl
  | .gl _, _, _ => rfl
  | .cell _, _, _ => rfl
  | .tup xs, _, h => by simp only [Rel] at h; obtain ⟨_, _, _, _, h3⟩ := h; exact RelL.isNoE hg h3
  | .lst xs, _, h => by simp only [Rel] at h; obtain ⟨_, _, _, _, h3⟩ := h; exact RelL.isNoE hg h3
  | .scr xs, _, h => by simp only [Rel] at h; obtain ⟨_, _, _, _, h3⟩ := h; exact RelL.isNoE hg h3
  | .dct _ xs, _, h => by simp only [Rel] at h; obtain ⟨_, _, _, _, _, h3⟩ := h; exact RelL.isNoE hg h3
  | .obj _ _ xs, _, h => by simp only [Rel] at h; obtain ⟨_, _, _, _, _, _, h3⟩ := h; exact RelL.isNoE hg h3
  | .exn _ _ xs, _, h => by simp only [Rel] at h; obtain ⟨_, _, _, h0, _⟩ := h; rw [hg] at h0; cases h0
theorem RelL.isNoE (hg : g.ex = none) : ∀ {xs : List DV} {vs : List V}, RelL g κ H xs vs → noEL xs = true
  | [], _, _ => rfl
  | x :: xs, _, h => by
    obtain ⟨v, r, rfl, h1, h2⟩ := h.of_cons
    simp only [noEL, Bool.and_eq_true]
    exact ⟨Rel.isNoE hg h1, RelL.isNoE hg h2⟩
end
theorem frL_swap (hK : g'.K = g.K) {a : Addr} {vs : List V} (h : FrL g κ H a vs) : FrL g' κ H a vs := by
  unfold FrL at *
  rw [hK]; exact h
theorem frT_swap (hK : g'.K = g.K) {a : Addr} {vs : List V} (h : FrT g κ H a vs) : FrT g' κ H a vs := by
  unfold FrT at *
  rw [hK]; exact h
mutual
theorem Rel.swap (hK : g'.K = g.K) (hc : g'.cls = g.cls) : ∀ {d : DV} {v : V}, d.noE = true → Rel g κ H d v → Rel g' κ H d v
  | .non, _, _, h => by simpa only [Rel] using h
  | .bl _, _, _, h => by simpa only [Rel] using h
  | .int _, _, _, h => by simpa only [Rel] using h
  | .str _, _, _, h => by simpa only [Rel] using h
  | .ty _, _, _, h => by simpa only [Rel] using h
  | .gl _, _, _, h => by simp only [Rel] at h ⊢; rw [hc]; exact h
  | .cell _, _, _, h => by simpa only [Rel] using h
  | .tup xs, _, n, h => by simp only [Rel] at h ⊢; obtain ⟨a, vs, h1, h2, h3⟩ := h; exact ⟨a, vs, h1, frT_swap hK h2, RelL.swap hK hc n h3⟩
  | .lst xs, _, n, h => by simp only [Rel] at h ⊢; obtain ⟨a, vs, h1, h2, h3⟩ := h; exact ⟨a, vs, h1, h2, RelL.swap hK hc n h3⟩
  | .scr xs, _, n, h => by simp only [Rel] at h ⊢; obtain ⟨a, vs, h1, h2, h3⟩ := h; exact ⟨a, vs, h1, frL_swap hK h2, RelL.swap hK hc n h3⟩
  | .dct _ xs, _, n, h => by simp only [Rel] at h ⊢; obtain ⟨a, vs, h1, h2, hl, h3⟩ := h; exact ⟨a, vs, h1, h2, hl, RelL.swap hK hc n h3⟩
  | .obj _ _ xs, _, n, h => by simp only [Rel] at h ⊢; obtain ⟨a, dx, vs, h1, h2, hl, h3⟩ := h; exact ⟨a, dx, vs, h1, by rw [hc]; exact h2, hl, RelL.swap hK hc n h3⟩
  | .exn _ _ xs, _, n, _ => by cases n
theorem RelL.swap (hK : g'.K = g.K) (hc : g'.cls = g.cls) : ∀ {xs : List DV} {vs : List V}, noEL xs = true → RelL g κ H xs vs → RelL g' κ H xs vs
  | [], _, _, h => by cases h.of_nil; exact RelL.nil
  | x :: xs, _, n, h => by
    obtain ⟨v, r, rfl, h1, h2⟩ := h.of_cons
    simp only [noEL, Bool.and_eq_true] at n
    exact RelL.cons (Rel.swap hK hc n.1 h1) (RelL.swap hK hc n.2 h2)
end
theorem StoOk.swap (hK : g'.K = g.K) (hc : g'.cls = g.cls) (hT : g'.T = g.T) (n : ∀ c ∈ μ, c.noE = true) (s : StoOk g κ H μ) : StoOk g' κ H μ where
  len := s.len
  inj := s.inj
  at_ := fun i c hi => by
    obtain ⟨a, h1, h2⟩ := s.at_ i c hi
    refine ⟨a, h1, ?_⟩
    have n1 := n c (List.mem_of_getElem? hi)
    cases c with
    | dead => exact h2
    | lst xs => obtain ⟨p, vs, e, h3, h4⟩ := h2; exact ⟨p, vs, e, h3, h4.swap hK hc n1⟩
    | ins c ns xs => obtain ⟨p, dx, vs, e, h3, hl, h4⟩ := h2; exact ⟨p, dx, vs, e, by rw [hc]; exact h3, hl, h4.swap hK hc n1⟩
    | dct ks xs => obtain ⟨p, vs, e, h3, hl, h4⟩ := h2; exact ⟨p, vs, e, h3, hl, h4.swap hK hc n1⟩
  gst := s.gst
  tbs := fun p hp => s.tbs p (by rw [← hT]; exact hp)
theorem StoOk.isNoE (hg : g.ex = none) (s : StoOk g κ H μ) : ∀ c ∈ μ, c.noE = true := fun c hc => by
  obtain ⟨i, hi⟩ := List.getElem?_of_mem hc
  obtain ⟨a, h1, h2⟩ := s.at_ i c hi
  cases c with
  | dead => rfl
  | lst xs => obtain ⟨p, vs, e, h3, h4⟩ := h2; exact h4.isNoE hg
  | ins c ns xs => obtain ⟨p, dx, vs, e, h3, hl, h4⟩ := h2; exact h4.isNoE hg
  | dct ks xs => obtain ⟨p, vs, e, h3, hl, h4⟩ := h2; exact h4.isNoE hg
end
/-- the handled exception: at a, its dict at d, of the class c -/
def gX (g : Gc) (a d : Addr) (c : Nat) : Gc := { g with ex := some (a, d, c) }

def vXf (cs : List Nat) (n : Str) : V1 := fun d _ => match d with
  | .exn c ns xs => if cs.contains c = true then (ns.zip xs).lookup n else none
  | _ => none
theorem lookup_rel {g : Gc} {κ : KA} {H : Hp} {n : Str} {d : DV} : ∀ {ns : List Str} {xs : List DV} {vs : List V}, RelL g κ H xs vs → (ns.zip xs).lookup n = some d → ∃ v, (ns.zip vs).lookup n = some v ∧ Rel g κ H d v
  | [], xs, vs, r, h => by simp at h
  | m :: ns, [], vs, r, h => by simp at h
  | m :: ns, x :: xs, vs, r, h => by
    obtain ⟨v, r', rfl, h1, h2⟩ := r.of_cons
    rw [List.zip_cons_cons] at h ⊢
    by_cases e : n = m
    · subst e
      rw [List.lookup_cons_self] at h ⊢
      cases h
      exact ⟨v, rfl, h1⟩
    · have e' : (n == m) = false := by simpa using e
      rw [List.lookup_cons, e'] at h ⊢
      exact lookup_rel h2 h
/-- what the classes cs must have for the field n to be read -/
def XfOk (g : Gc) (cs : List Nat) (n : Str) : Prop := ∀ c ∈ cs, XfC g.K (g.cls c) ∧ PySem.W.findIn g.K (.ref (g.cls c)) n = some none
theorem ge_xf {g : Gc} {W : WX} {X : Cx} {e : Expr} {fe : DE} {n : Str} {a d : Addr} {c : Nat} {cs : List Nat} {oe : Obj} {pos : Pos} (xg : XG g X) (hx : g.ex = some (a, d, c)) (hp : (a, oe) ∈ X.pn) (hz : Zc (.ref (g.cls c)) (some d) oe) (hf : ∃ vs, oe.data = .fields vs) (hT : XfOk g cs n)
    (he : GE g W X e fe) (hb : attributeBase e n X.env (eval e X.env) = eval e X.env := by rfl) : GE g W X (.Attribute e n pos) (eUn (vXf cs n) fe) := by
  refine ⟨fun pins s σ H Q I h => ?_⟩
  obtain ⟨κ, ρ, μ, hE, hs, hw⟩ := h
  refine attr_of hb (thn (he.run pins s σ H (fun x H1 => ∃ κ1 ns xs μ1 dv, Rel g κ1 H1 (.exn c ns xs) x ∧ StoOk g κ1 H1 μ1 ∧ cs.contains c = true ∧ (ns.zip xs).lookup n = some dv ∧ ∀ v, Rel g κ1 H1 dv v → Q v H1) I ⟨κ, ρ, μ, hE, hs, (wpR.bind (show wpR g W σ κ H ((fe ρ μ).bind fun x μ1 => R.of (vXf cs n x μ1) μ1) _ from hw)).mono fun x μ1 κ1 H1 e1 s1 h1 v rv => ?_⟩) fun u s1 hh => ?_)
  · have h1 := out_of h1
    cases x with
    | exn c' ns xs =>
      have rv' := rv
      simp only [Rel] at rv'
      obtain ⟨a', d', vs, h0, _⟩ := rv'
      rw [hx] at h0
      cases h0
      simp only [vXf] at h1
      by_cases hc : cs.contains c = true
      · rw [if_pos hc] at h1
        cases hl : (ns.zip xs).lookup n with
        | none => rw [hl] at h1; exact h1.elim
        | some dv => rw [hl] at h1; exact ⟨κ1, ns, xs, μ1, dv, rv, s1, hc, hl, fun v r => h1 κ1 H1 Ext.refl s1 v r⟩
      · rw [if_neg hc] at h1; exact h1.elim
    | _ => exact h1.elim
  · obtain ⟨x, H1, I1, rx, κ1, ns, xs, μ1, dv, r1, so, hc, hl, q⟩ := hh
    simp only [Rel] at r1
    obtain ⟨a', d', vs, h0, rfl, h2, hlen, h3⟩ := r1
    rw [hx] at h0
    cases h0
    obtain rfl : u = Value.ref a := rx
    obtain ⟨T, hno⟩ := hT c (by simpa using hc)
    obtain ⟨v, hv, rv⟩ := lookup_rel h3 hl
    obtain ⟨ha, _⟩ := I1.pin (a, oe) (List.mem_append_left _ hp)
    obtain ⟨us, hd⟩ := hf
    have hxd : ObjOk X.prog X.w H1 s1.heap d (.xd (ns.zip vs)) := I1.hok d _ h2.1
    obtain ⟨mA, hns, hr⟩ := hxd
    obtain ⟨od, ho, hlk⟩ := lookIn_ns hns
    obtain ⟨w, hu, ru⟩ := RelO.some_of (v := v) (o := mA n) (by rw [← hv]; exact hr n)
    have eK : g.K = X.K := xg.K.symm
    rw [eK] at T hno
    have J : PySem.W.InstAt s1.heap a oe (g.cls c) (some od) := ⟨ha, hz.1, by unfold PySem.W.notCls; rw [hd] <;> rfl, by rw [hz.2]; exact ho⟩
    exact HandSPX.exc_get I1.kIn J T.ga T.gg T.exC (PySem.W.findObj_own T.hdC hno rfl (by rw [hlk, hu])) (handed_of ru) ⟨v, H1, I1.tok _, ru, q v rv⟩

theorem run_read {g : Gc} {E : XK} {κ : KA} {H : Hp} {μ : Sto} {N : List Str} {np : Nat} {md : Md} {fb : DS} {ds : List DV} {vs : List V} {Q : VK} (r : RelL g κ H ds vs) (so : StoOk g κ H μ) (hd : ds.length = np)
    (h : wpR g (WF E) [] κ H (runF md np N.length fb ds μ) (fun d _ κ' H' => ∀ v, Rel g κ' H' d v → Q v H')) : tS g (WF E) fb { nx := fun _ H' => Q .non H', rt := Q } (L2.start N vs) H := by
  unfold runF at h
  rw [if_pos hd] at h
  refine ⟨κ, _, μ, start_rel r, so, ?_⟩
  generalize fb (ds.map some ++ List.replicate (N.length - ds.length) none) μ = out at h
  have fin' : ∀ {d : DV} {v : V} {κ' : KA} {H' : Hp} {μ' : Sto}, Ext κ H κ' H' → StoOk g κ' H' μ' → Rel g κ' H' d v → wpR g (WF E) [] κ H (fin md μ.length d μ') (fun d _ κ' H' => ∀ v, Rel g κ' H' d v → Q v H') → Q v H' := fun {d v κ' H' μ'} e s' rv h => by
    cases ef : fin md μ.length d μ' with
    | ok d' μ'' =>
      rw [ef] at h
      obtain ⟨κ'', e2, s2, r2⟩ := fin_ok so e s' rv ef
      exact h κ'' H' e2 s2 v r2
    | ex c ns xs μ'' => cases md with
      | fz => exact (finF_no ef).elim
      | cl => exact (finC_no ef).elim
      | an => exact (finA_no ef).elim
    | stuck => rw [ef] at h; exact h.elim
  cases out with
  | nx ρ' μ' => intro κ' H' σ' e s' _; exact fin' e s' (by simp [Rel]) h
  | rt d μ' => intro κ' H' v e s' rv; exact fin' e s' rv h
  | bk ρ' μ' => exact h.elim
  | ct ρ' μ' => exact h.elim
  | ex c ns xs ρ' μ' =>
    intro κ' H' σ' e s' _ d vs' h1 h2 h3
    simp only at h
    unfold finX at h
    by_cases hl : μ'.length = μ.length
    · rw [if_pos hl] at h; exact h κ' H' e s' d vs' h1 h2 h3
    · rw [if_neg hl] at h
      by_cases hc : ((μ'.take μ.length).all (CO.low μ.length) && lowL μ.length xs) = true
      · rw [if_pos hc] at h
        simp only [Bool.and_eq_true] at hc
        have hn : μ.length ≤ κ'.cs.length := by rw [← so.len]; exact e.len
        exact h _ H' (by rw [← so.len]; exact e.cut) (s'.cut hn (all_low hc.1)) d vs' h1.cut h2 (h3.cut hn hc.2)
      · rw [if_neg hc] at h; exact h.elim
  | stuck => exact h.elim
abbrev E0 : XK := fun _ _ _ => False
/-- what such a def promises: its one argument is the handled exception -/
structure FnF (P : Program) (w : World) (g : Gc) (mg : Str → Option Value) (base : Heap) (k : Nat) (f : Addr) (fd : FuncData) (y : Str) (F : Fn) : Prop where
  run : ∀ (A : Around) (outer : List Env) (s : Shared) (H : Hp) (args : Args) (Q : VK) (p : Addr × Obj) (d : Addr) (c : Nat) (κ : KA) (x : DV) (μ : Sto), L2H.RoomH k A → L2H.PinOk outer H s p → Zc (.ref (g.cls c)) (some d) p.2 → (∃ vs, p.2.data = .fields vs) →
    Env0 P w g.K mg base A outer s H → BindsTo s fd args [(y, .ref p.1)] → StoOk (gX g p.1 d c) κ H μ → Rel (gX g p.1 d c) κ H x (.ref p.1) → wpR (gX g p.1 d c) (WF E0) [] κ H (F [x] μ) (fun r _ κ' H' => ∀ v, Rel (gX g p.1 d c) κ' H' r v → Q v H') →
    codeAny (model P w) A (.call (.ref f) args) (CR (L2.CX P w) outer P w H s Q E0) s
theorem fnF_ok {P : Program} {w : World} {g : Gc} {mg : Str → Option Value} {base : Heap} {k : Nat} {f : Addr} {fd : FuncData} {x qual y : Str} {params : Arguments} {body : List Stmt} {scope : Scope} {N : List Str} {fb : DS}
    (F : FunD g.K x qual params body scope [] [] f fd) (S : FnScope N [y] scope)
    (hb : ∀ (cdv : Value) (A : Around) (outer : List Env) (s : Shared) (H : Hp) (p : Addr × Obj) (d : Addr) (c : Nat), L2H.RoomH k (A.deeper (envOfC qual scope s.heap.objs.size f cdv)) → Zc (.ref (g.cls c)) (some d) p.2 → (∃ vs, p.2.data = .fields vs) →
      GSs (gX g p.1 d c) (WF E0) (L2H.cxH (L2.CX P w) P w g.K mg base N qual scope f cdv A outer s H E0 p) body fb) :
    FnF P w g mg base (k + 1) f fd y (runF .fz 1 N.length fb) := by
  obtain ⟨oc, od, dV, kV, doc, pm, an, cdv, ct, osl, rfl, lk, hcd, _, _⟩ := F.ex
  refine ⟨fun A outer s H args Q p d c κ x' μ hr hpin hz hf e0 hbd so rx hw => ?_⟩
  have KX : g.K.In s.heap := e0.mod.kin.keeps fun b o e => (e0.bs b o e).1
  have lim : s.heap.NoLimit := e0.mod.nolimit.keeps fun b o e => (e0.bs b o e).1
  have hkind : ∀ z ∈ [y].zip [Value.ref p.1], scope.names.lookup z.1 = some .local ∨ (scope.names.lookup z.1 = some .cell ∧ ((cellsFrom (s.heap.objs.size + 1) scope.names []).lookup z.1).isSome = true) := fun ⟨n, v⟩ hy => by
    rcases S.par n (List.of_mem_zip hy).1 with q | q
    · exact .inl q
    · exact .inr ⟨q, PySem.W.cellsFrom_some _ _ _ (.inl q)⟩
  refine codeAny_call_function hr.depth (KX _ _ lk) rfl S.co S.gen rfl (PySem.W.codeRec_of KX hcd) (hbd _ _ _ _ ?_)
  refine wpAny_newFunctionEnv_cells S.kind hkind fun env he s1 z => ?_
  subst he
  refine ⟨lim.keeps z.toInCall.keep, codeAny_func ?_⟩
  have ht := hb cdv A outer s H p d c (hr.deeper _) hz hf
  have I : Inv (L2H.cxH (L2.CX P w) P w g.K mg base N qual scope f cdv A outer s H E0 p) [] (L2.start N [.ref p.1]) H s1 := L2H.inv_startH (vs := [.ref p.1]) (us := [.ref p.1]) S hpin e0 rfl (.cons rfl .nil) z
  refine wpAny_mono (ht.run [] s1 (L2.start N [.ref p.1]) H _ I (run_read (RelL.cons rx RelL.nil) so rfl hw)) (fun fl s' hs => ?_) fun e s' hs => hs
  have fin : ∀ {σ' : L2.St} {H' : Hp} {v : V} {u : Value}, Inv (L2H.cxH (L2.CX P w) P w g.K mg base N qual scope f cdv A outer s H E0 p) [] σ' H' s' → RelV v u → Q v H' → CE outer P w H s Q u s' :=
    fun {σ' H' v u} J rv q => ⟨v, H', J.os, J.bare, J.base, J.hok, rv, q⟩
  cases fl with
  | ret u =>
    obtain ⟨v, σ', H', J, rv, q⟩ := hs
    exact fin J rv q
  | next =>
    obtain ⟨σ', H', J, q⟩ := hs
    exact fin (v := V.non) (u := Value.none) J rfl q
  | brk =>
    obtain ⟨_, _, _, q⟩ := hs
    exact False.elim q
  | cont =>
    obtain ⟨_, _, _, q⟩ := hs
    exact False.elim q
/-- f(e), e the handled exception -/
def eCallF (F : Fn) (a : DE) : DE := fun ρ μ => (a ρ μ).bind fun x μ1 => match x with
  | .exn c ns xs => (F [.exn c ns xs] μ1).nox
  | _ => .stuck
theorem noCXE {P : Program} {w : World} {outer : List Env} {H : Hp} {s : Shared} {e : Value} {s' : Shared} (z : L2.CX P w outer H s E0 e s') : False := by
  obtain ⟨_, _, _, _, _, _, _, _, _, _, _, _, z⟩ := z
  exact z
theorem ge_callF {g : Gc} {W : WX} {X : Cx} {e : Expr} {fe : DE} {a d : Addr} {c : Nat} {oe : Obj} {q pos : Pos} {x y : Str} {k : Nat} {f : Addr} {fd : FuncData} {F : Fn} (FF : FnF X.prog X.w g X.mg X.base k f fd y F) (xg : X.K = g.K) (hr : L2H.RoomH k X.A) (hp : (a, oe) ∈ X.pn) (hz : Zc (.ref (g.cls c)) (some d) oe) (hf : ∃ vs, oe.data = .fields vs)
    (hg : Gl X x) (hm : X.mg x = some (.ref f)) (hk : PySem.W.keepIn g.K (.ref f) = true) (hb : Binds g.K fd [y] []) (he : GE (gX g a d c) W X e fe)
    (hdb : (x == ("__debug__" : Str)) = false := by decide) (hs : starEach [e] X.env = (false, eval e X.env) :: starEach [] X.env := by rfl) (hpl : (backTo pos (starEach [] X.env)).any (·.1) = false := by rfl) :
    GE (gX g a d c) W X (.Call (.Name x q) [e] [] pos) (eCallF F fe) := by
  refine ⟨fun pins s σ H Q I h => ?_⟩
  obtain ⟨κ, ρ, μ, hE, hS, hw⟩ := h
  have hw : wpR (gX g a d c) W σ κ H ((fe ρ μ).bind fun x μ1 => match x with
    | .exn c ns xs => (F [.exn c ns xs] μ1).nox
    | _ => .stuck) (fun d' _ κ' H' => ∀ v, Rel (gX g a d c) κ' H' d' v → Q v H') := hw
  refine wpAny_Call_Name_kw (ld_glob I hg hm ?_ hdb)
  have ha : PA X [e] (tCons (tE (gX g a d c) W fe) tNil) := pa_cons he pa_nil hs
  refine PySem.W.callWith_K (h₀ := X.base) I.ok.mod.kin (by rw [xg]; exact hk) (thn (ha.run pos pins s σ H (fun vs H1 => ∃ κ1 v x μ1, vs = [v] ∧ Rel (gX g a d c) κ1 H1 x v ∧ v = .ref a ∧ StoOk (gX g a d c) κ1 H1 μ1 ∧ wpR (gX g a d c) (WF E0) [] κ1 H1 (F [x] μ1) (fun d' _ κ' H' => ∀ v, Rel (gX g a d c) κ' H' d' v → Q v H')) I ?_) fun us s1 ⟨vs, H1, I1, r, hh⟩ => ⟨I1.kIn, ?_⟩) hs hpl
  · refine ⟨κ, ρ, μ, hE, hS, hw.bind.mono fun x μ1 κ1 H1 e1 s1 h1 v rv => ?_⟩
    cases x with
    | exn c' ns xs =>
      have rv' := rv
      simp only [Rel] at rv'
      obtain ⟨a', d', vs, h0, hv, _⟩ := rv'
      cases h0
      refine ⟨κ1, v, .exn c ns xs, μ1, rfl, rv, hv, s1, ?_⟩
      have h1 : wpR (gX g a d c) W σ κ1 H1 (F [.exn c ns xs] μ1).nox _ := h1
      cases hF : F [.exn c ns xs] μ1 with
      | ok r μ2 => rw [hF] at h1; exact h1
      | ex c2 ns2 xs2 μ2 => rw [hF] at h1; exact h1.elim
      | stuck => rw [hF] at h1; exact h1
    | _ => exact h1.elim
  · obtain ⟨κ1, v, x, μ1, rfl, rx, rfl, so, hw1⟩ := hh
    obtain ⟨u, rfl, ru⟩ := vals1 r
    cases ru
    have P1 := I1.pin (a, oe) (List.mem_append_left _ hp)
    have hpin : L2H.PinOk X.stack H1 s1 (a, oe) := ⟨P1.1, P1.2.1, fun hm => (List.mem_cons.mp (I1.stkSub a hm)).elim P1.2.2.1 P1.2.2.2.1, P1.2.2.2.2⟩
    have b := hb s1 [.ref a] (by rw [← xg]; exact I1.kIn) rfl
    refine wpAny_call (codeAny_mono (FF.run X.A X.stack s1 H1 ⟨[.ref a], []⟩ Q (a, oe) d c κ1 x μ1 hr hpin hz hf (by rw [← xg]; exact I1.env0) b so rx hw1) fun r s' hq => ?_)
    cases r with
    | error e => exact (noCXE hq).elim
    | ok fl =>
      cases fl with
      | ret u => exact I1.after hq
      | next => exact False.elim hq
      | brk => exact False.elim hq
      | cont => exact False.elim hq
end SD

set_option Elab.async false
set_option linter.all false
set_option maxRecDepth 100000
set_option maxHeartbeats 4000000
namespace SD
open PySem PySem.Spec PyProof.Rows L2 LamX

theorem flying_push {B h : Heap} {l : List Env} {a : Addr} {Z : Obj → Prop} (o : Obj) (fl : HandSPX.FlyingZ B l a Z h) : HandSPX.FlyingZ B l a Z (h.push o) := by
  obtain ⟨k1, k2, k3, oe, vs, T, oT, ts, he, hz, hd, h1, h4, h5, h6, h7, h8⟩ := fl
  exact ⟨fun b u e => Heap.get?_push_of_some _ (k1 b u e), k2, k3.of_keeps fun b u e _ => ⟨u, Heap.get?_push_of_some _ e, rfl⟩, oe, vs, T, oT, ts, Heap.get?_push_of_some _ he, hz, hd, h1, h4, h5, Heap.get?_push_of_some _ h6, h7, h8⟩
/-- the wish: the exception is one of both; the suite runs with the slot i -/
def wAs2 (K : PySem.W.Frag) (c1 c2 : Value) (i : Nat) (ts : Addr → Value → Option Addr → TS) (D : Ends) : WX := fun cls d σ H =>
  PySem.W.exmAny K cls [c1, c2] = some true ∧ ∀ a, H a = none → ts a cls d { nx := fun σ' H' => D.nx (σ'.set i none) H', rt := D.rt, bk := fun σ' H' => D.bk (σ'.set i none) H', ct := fun σ' H' => D.ct (σ'.set i none) H' } (σ.set i (some (.ref a))) H
section
variable {X : Cx} {x1 x2 n : Str} {c1 c2 : Value} {i j : Nat} {body suite : List Stmt} {b₀ : Stmt} {np1 np2 tp pos pos' : Pos} {tb : WX → TS} {ts : Addr → Value → Option Addr → TS}
theorem ps_try2as (hs : X.stack = X.env :: X.outer) (hf : X.env.frame = some X.env.locals) (hN : X.N.Nodup) (hi : X.N[i]? = some n) (hln : X.env.kindOf n = some .local) (hc1 : Gl X x1 ∧ X.mg x1 = some c1) (hc2 : Gl X x2 ∧ X.mg x2 = some c2) (hd1 : (x1 == ("__debug__" : Str)) = false) (hd2 : (x2 == ("__debug__" : Str)) = false)
    (hb : ∀ (W : WX) (pn : List (Addr × Obj)) (xe : Value → Shared → Prop), Takes (X.tr pn xe) W → PassesOwn (model X.prog X.w) X.A X.env xe → PSs (X.tr pn xe) body (tb W))
    (hsu : ∀ (a : Addr) (oe : Obj) (cls : Value) (d : Option Addr) (pn : List (Addr × Obj)), Zc cls d oe → (∃ vs, oe.data = .fields vs) → PSs (X.suite a ((a, oe) :: pn)) (b₀ :: suite) (ts a cls d))
    (he1 : ∀ env : Env, starEach [.Name x1 np1, .Name x2 np2] env = (false, eval (.Name x1 np1) env) :: starEach [.Name x2 np2] env := by intro _; rfl) (he2 : ∀ env : Env, starEach [.Name x2 np2] env = (false, eval (.Name x2 np2) env) :: starEach [] env := by intro _; rfl) :
    PS X (.Try body [.ExceptHandler (some (.Tuple [.Name x1 np1, .Name x2 np2] j tp)) (some n) (b₀ :: suite) pos'] [] [] pos) (fun D σ H => tb (wAs2 X.K c1 c2 i ts D) D σ H) := by
  refine ⟨fun pins s σ H D I h => wpAny_Try_except ?_⟩
  have ok := I.ok
  have hfr : X.A.frames = some (X.env :: X.outer) := by rw [ok.frames, hs]
  have hloc : Loc X.env.scope n := .inl hln
  refine wpAny_mono ((hb (wAs2 X.K c1 c2 i ts D) (X.pn ++ pins) (fun e s₁ => wpAny (model X.prog X.w) X.A (noteFrame e X.env) (fun _ s₂ => wpAny (model X.prog X.w) X.A (setFlight e none) (fun _ s₃ =>
    wpAny (model X.prog X.w) X.A (handleBy e X.env [.ExceptHandler (some (.Tuple [.Name x1 np1, .Name x2 np2] j tp)) (some n) (b₀ :: suite) pos']) (SP X pins D) X.xe s₃) X.xe s₂) X.xe s₁) (fun u s' xx => ?_) PassesOwn.looking).run [] s σ H D (I.toTry _) h) (fun f s1 hsp => ?_) (fun e s1 he => he)
  · obtain ⟨a, B, sI, pins', σ', H', cls, d, rfl, J', nb, up, sky, na, os, ag, hb1, hyes⟩ := xx
    have J : Inv X pins σ' H' sI := J'.ofTry ok
    have sky' : Sky B (X.env :: X.outer) a (Zc cls d) X.env.locals s'.heap := by rw [← hs]; exact sky
    show wpAny (model X.prog X.w) X.A (noteFrame (.ref a) X.env) _ _ _
    refine Sky.land Zc.steady hfr hf sky' fun h3 fl3 up3 => ?_
    have J3 : Inv X pins σ' H' { s' with heap := h3 } := J.landed nb fl3.1 (up.trans up3) os ag
    obtain ⟨oe3, vs3, he3, hz3, hd3⟩ := fl3.there
    have nfr : ∀ {h : Heap} {o : Obj} {vs : Array Value}, h.FunFrames B (X.env :: X.outer) → h.get? a = some o → o.data = .fields vs → a ∉ frs (X.env :: X.outer) := fun {h o vs} ff e dd hm => by
      obtain ⟨_, o', e', hnf⟩ := ff.mem hm
      rw [e] at e'; cases e'
      exact hnf _ dd
    have nf3 := nfr fl3.2.2.1 he3 hd3
    have nL : a ≠ X.env.locals := fun z => nf3 (List.mem_filterMap.mpr ⟨X.env, List.mem_cons_self, by rw [hf, z]⟩)
    have nF : a ∉ X.fs := fun hm => by
      obtain ⟨e, he, q⟩ := List.mem_filterMap.mp hm
      exact nf3 (List.mem_filterMap.mpr ⟨e, List.mem_cons_of_mem _ he, q⟩)
    have S3 := J3.suite he3 hd3 na nL nF
    refine wpAny_handleBy_cons (codeAny_handlers_test ?_) (by intro q; cases q)
    refine wpAny_Tuple_spliced (spliced_more (ld_glob (X := X.suite a ((a, oe3) :: (X.pn ++ pins))) S3 hc1.1 hc1.2 (spliced_more (ld_glob (X := X.suite a ((a, oe3) :: (X.pn ++ pins))) S3 hc2.1 hc2.2 (spliced_none ⟨by show 2 ≤ sizeLine; rw [sizeLine_eq]; decide, ?_⟩) hd2) (he2 _)) hd1) (he1 _))
    -- behind the test's tuple
    have flp := flying_push { cls := .type "tuple", data := .seq [c1, c2].toArray } fl3
    have kp : ∀ b o, h3.get? b = some o → (h3.push { cls := .type "tuple", data := .seq [c1, c2].toArray }).get? b = some o := fun b o e => Heap.get?_push_of_some _ e
    have upp : s'.heap.UpToSlots (h3.push { cls := .type "tuple", data := .seq [c1, c2].toArray }) := up3.trans (Heap.UpToSlots.of_keeps kp)
    have LT : PySem.W.Looks (model X.prog X.w) (h3.push { cls := .type "tuple", data := .seq [c1, c2].toArray }) (typeOf (.ref a)) cls := fun A Q E s k q => wpAny_typeOf_ref (k _ _ (kp _ _ he3)) (by rw [hz3.1]; exact q)
    have LM := PySem.W.exm_tup2 (M := model X.prog X.w) (J3.kIn.keeps kp) LT (Heap.get?_push_size h3 rfl) hb1
    refine LM.here ?_
    refine codeAny_handlers_suite_as ?_
    refine HandSPX.lands_againZ flp fun h4 fl4 up4 => ?_
    have J4 : Inv X pins σ' H' { s' with heap := h4 } := J.landed nb fl4.1 (up.trans (upp.trans up4)) os ag
    obtain ⟨oe4, vs4, he4, hz4, hd4⟩ := fl4.there
    have S4 := J4.suite he4 hd4 na nL nF
    refine store_ok (X := X.suite a ((a, oe4) :: (X.pn ++ pins))) (v := .ref a) S4 hN hi hloc rfl (fun s5 S5 => ?_) (.inr hln)
    refine wpAny_mono ((hsu a oe4 cls d (X.pn ++ pins) hz4 ⟨_, hd4⟩).run [] s5 _ H' _ S5 (hyes a na)) (fun f s6 hsp => ?_) (fun _ _ z => False.elim z)
    have end_ : ∀ {σ6 : L2.St} {H6 : Hp} {Q : Shared → Prop}, Inv (X.suite a ((a, oe4) :: (X.pn ++ pins))) [] σ6 H6 s6 → (∀ s7, Inv X pins (σ6.set i none) H6 s7 → Q s7) →
        wpAny (model X.prog X.w) X.A (do bindName X.env n .none; unbindBehindTheSuite X.env n pos') (fun _ s7 => Q s7) X.xe s6 := fun {σ6 H6 Q} S6 hq => gone_ok (S6.unsuite ok) hN hi hln hq
    cases f with
    | next =>
      obtain ⟨σ6, H6, S6, q6⟩ := hsp
      exact end_ S6 fun s7 J7 => ⟨_, _, J7, q6⟩
    | brk =>
      obtain ⟨σ6, H6, S6, q6⟩ := hsp
      exact end_ S6 fun s7 J7 => ⟨_, _, J7, q6⟩
    | cont =>
      obtain ⟨σ6, H6, S6, q6⟩ := hsp
      exact end_ S6 fun s7 J7 => ⟨_, _, J7, q6⟩
    | ret u =>
      obtain ⟨v6, σ6, H6, S6, r6, q6⟩ := hsp
      exact end_ S6 fun s7 J7 => ⟨_, _, _, J7, r6, q6⟩
  · cases f with
    | next =>
      obtain ⟨σ', H', J', q⟩ := hsp
      exact wpAny_execs_nil ⟨σ', H', J'.ofTry ok, q⟩
    | brk =>
      obtain ⟨σ', H', J', q⟩ := hsp
      exact ⟨σ', H', J'.ofTry ok, q⟩
    | cont =>
      obtain ⟨σ', H', J', q⟩ := hsp
      exact ⟨σ', H', J'.ofTry ok, q⟩
    | ret u =>
      obtain ⟨v, σ', H', J', r, q⟩ := hsp
      exact ⟨v, σ', H', J'.ofTry ok, r, q⟩
end
end SD

set_option Elab.async false
set_option linter.all false
set_option maxRecDepth 100000
set_option maxHeartbeats 4000000
namespace SD
open PySem PySem.Spec PyProof.Rows L2 LamX
section
variable {g : Gc} {κ : KA} {X : Cx} {pins : List (Addr × Obj)} {σ : L2.St} {H : Hp} {s : Shared} {μ : Sto}
/-- a table grows by a new code object -/
theorem StoOk.grow {P c' : Addr} {q : Str} {ps : Array Value} {pos : Pos} (s0 : StoOk g κ H μ) (mP : P ∈ κ.gh) (hP : H P = some (.tbl ps)) (ht : TriplesOk ps.toList) (ha : ∀ (pos : Pos) (cv : Value), codeAmong pos ps.toList = some cv → ∃ c, cv = .ref c ∧ At κ H c (CodeO c q))
    (hu : ∀ p ∈ g.T, p.1 = P → p.2 = q) (nC : H c' = none) :
    Ext κ H κ (upd (upd H P (.tbl (ps ++ #[rawInt pos.line, rawInt pos.col, .ref c']))) c' (CodeO c' q)) ∧ StoOk g κ (upd (upd H P (.tbl (ps ++ #[rawInt pos.line, rawInt pos.col, .ref c']))) c' (CodeO c' q)) μ ∧ At κ (upd (upd H P (.tbl (ps ++ #[rawInt pos.line, rawInt pos.col, .ref c']))) c' (CodeO c' q)) c' (CodeO c' q) := by
  have nh : ¬ κ.has c' := s0.fresh nC
  have at_ : ∀ b, b ≠ P → b ≠ c' → upd (upd H P (.tbl (ps ++ #[rawInt pos.line, rawInt pos.col, .ref c']))) c' (CodeO c' q) b = H b := fun b h1 h2 => by rw [upd_ne h2, upd_ne h1]
  have nPc : P ≠ c' := ne_of_none hP nC
  have old : ∀ b o, H b = some o → b ≠ P → upd (upd H P (.tbl (ps ++ #[rawInt pos.line, rawInt pos.col, .ref c']))) c' (CodeO c' q) b = H b := fun b o e n => at_ b n (ne_of_none e nC)
  have e0 : Ext κ H κ (upd (upd H P (.tbl (ps ++ #[rawInt pos.line, rawInt pos.col, .ref c']))) c' (CodeO c' q)) := {
    keep := fun a o e n => by rw [old a o e fun z => n (.inr (by rw [z]; exact mP))]; exact e
    sep := fun _ _ _ n => n
    len := Nat.le_refl _
    old := fun _ _ _ e => e
    ghs := rfl
    ghv := fun a m nt => by
      obtain ⟨⟨u, hu'⟩, _⟩ := s0.gst a m
      exact old a u hu' fun z => nt ps (by rw [z]; exact hP) }
  have aC : At κ (upd (upd H P (.tbl (ps ++ #[rawInt pos.line, rawInt pos.col, .ref c']))) c' (CodeO c' q)) c' (CodeO c' q) := ⟨upd_same, nh⟩
  refine ⟨e0, ⟨s0.len, s0.inj, fun i c hc => ?_, fun a m => ?_, fun p hp => ?_⟩, aC⟩
  · obtain ⟨a, h1, h2⟩ := s0.at_ i c hc
    refine ⟨a, h1, h2.ext0 e0.toExt0 fun p hp => ?_⟩
    subst hp
    obtain ⟨o, ho⟩ := s0.live h1
    exact old p o ho fun z => (s0.gst P mP).2 (by rw [← z]; exact List.mem_of_getElem? h1)
  · obtain ⟨⟨u, hu'⟩, hn⟩ := s0.gst a m
    refine ⟨?_, hn⟩
    by_cases z : a = P
    · rw [z, upd_ne nPc, upd_same]; exact ⟨_, rfl⟩
    · rw [old a u hu' z]; exact ⟨u, hu'⟩
  · obtain ⟨m, t⟩ := s0.tbs p hp
    refine ⟨m, ?_⟩
    by_cases z : p.1 = P
    · rw [z, hu p hp z]
      have eL : (ps ++ #[rawInt pos.line, rawInt pos.col, .ref c']).toList = ps.toList ++ [rawInt pos.line, rawInt pos.col, .ref c'] := by simp
      refine ⟨_, by rw [upd_ne nPc, upd_same], by rw [eL]; exact PySem.TriplesOk_snoc _ _ _ _ ht, fun p' cv hcv => ?_⟩
      rw [eL] at hcv
      rcases among_app _ ht hcv with y | y
      · obtain ⟨c0, e1, e2⟩ := ha p' cv y
        exact ⟨c0, e1, e0.at e2⟩
      · exact ⟨c', y, aC⟩
    · obtain ⟨ps', e⟩ := t.tbl
      exact t.move (old _ _ e z) fun c y => e0.at y
theorem lam_made {c P : Addr} {params : Arguments} {body : Expr} {scope : Scope} {pos : Pos} {E : Value → Shared → Prop} {Q : Value → Shared → Prop} (s0 : StoOk g κ H μ) (I : Inv X pins σ H s) (TB : TabB X.base X.mg c P) (hcode : X.env.code = .ref c)
    (hm : (P, X.env.qual ++ "<lambda>") ∈ g.T) (hu : ∀ p ∈ g.T, p.1 = P → p.2 = X.env.qual ++ "<lambda>") (hdef : defaultsOf params X.env = ([], [])) (hfree : ∀ y ∈ scope.names, y.2 = .free → ∃ c, X.env.cells.lookup y.1 = some c)
    (h : ∀ (f c' : Addr) (pm ctv : Value) (H1 : Hp) (s' : Shared), Inv X pins σ H1 s' → Ext κ H κ H1 → StoOk g κ H1 μ →
      s'.heap.get? f = some (PySem.W.kla_obj "<lambda>" (X.env.qual ++ "<lambda>") params body scope (cloFrom X.env.cells scope.names []) pm c' ctv) → H1 f = none → f ∉ frs X.stack → At κ H1 c' (CodeO c' (X.env.qual ++ "<lambda>")) → Q (.ref f) s') :
    wpAny (model X.prog X.w) X.A (eval (.Lambda params body scope pos) X.env) Q E s := by
  obtain ⟨mP, ps, hP, ht, ha⟩ := s0.tbs _ hm
  refine PySem.W.kla_eval hdef ?_
  have bP : s.heap.BuiltinsAt X.mg P := TB.bm.keeps I.bk
  have hP' : s.heap.get? P = some { cls := .none, data := .fields ps } := I.hok P _ hP
  have nofr : ∀ f, s.heap.objs.size ≤ f → f ∉ frs X.stack := fun f hf z => by
    rcases List.mem_cons.mp (I.stkSub _ z) with e | e
    · have h1 := I.lt
      rw [← e] at h1
      exact Nat.lt_irrefl _ (Nat.lt_of_lt_of_le h1 hf)
    · exact I.nofs hf e
  cases hc : codeAmong pos ps.toList with
  | none =>
    refine PySem.W.kla_makeFunction (mg := X.mg) (c := c) (P := P) (ps := ps) (closure_ok hfree) I.ok.glob (I.mod.glob.keeps I.bk) hcode (TB.code.keeps I.bk) hP' ht hc TB.gP bP fun c' ctv h' tk hx hge hlt hrec htb => ?_
    obtain ⟨c2, oc, vs, t, e2, hoc, hd, hv⟩ := hrec
    cases e2
    have hsz : s.heap.objs.size ≤ h'.objs.size := Nat.le_trans hge (Nat.le_of_lt hlt)
    have nC : H c' = none := I.hok.fresh hge
    have I1 := inv_table (t' := tk) (more := #[rawInt pos.line, rawInt pos.col, .ref c']) (h' := h'.push (PySem.W.kla_obj "<lambda>" (X.env.qual ++ "<lambda>") params body scope (cloFrom X.env.cells scope.names []) ((X.mg "__name__").getD .none) c' ctv)) I hP
      (fun b o hb e => Heap.get?_push_of_some _ (hx b o hb e)) (Heap.get?_push_of_some _ htb) hge ⟨oc, vs, t, Heap.get?_push_of_some _ hoc, hd, hv⟩
    obtain ⟨e1, s1, a1⟩ := s0.grow (pos := pos) mP hP ht ha hu nC
    refine h h'.objs.size c' ((X.mg "__name__").getD .none) ctv _ _ I1 e1 s1 (Heap.get?_push_size _ rfl) ?_ (nofr _ hsz) a1
    have n1 : h'.objs.size ≠ c' := Nat.ne_of_gt hlt
    have n2 : h'.objs.size ≠ P := Nat.ne_of_gt (Nat.lt_of_lt_of_le (Heap.lt_size hP') hsz)
    rw [upd_ne n1, upd_ne n2]
    exact I.hok.fresh hsz
  | some cv =>
    obtain ⟨c', e, hco⟩ := ha pos cv hc
    subst e
    refine PySem.W.kla_makeFunctionHit (mg := X.mg) (c := c) (P := P) (ps := ps) (closure_ok hfree) I.ok.glob (I.mod.glob.keeps I.bk) hcode (TB.code.keeps I.bk) hP' ht hc bP fun ctv h' tk hx hsz => ?_
    have I1 : Inv X pins σ H { s with heap := h'.push (PySem.W.kla_obj "<lambda>" (X.env.qual ++ "<lambda>") params body scope (cloFrom X.env.cells scope.names []) ((X.mg "__name__").getD .none) c' ctv), toks := tk } := I.kept fun b o e => Heap.get?_push_of_some _ (hx b o e)
    exact h h'.objs.size c' ((X.mg "__name__").getD .none) ctv H _ I1 Ext.refl s0 (Heap.get?_push_size _ rfl) (I.hok.fresh hsz) (nofr _ hsz) hco
/-- the lambda called, in the def that got it: what it raises is wished for at that def's slots -/
theorem act_at {HZ0 : Hp} {CXg : CXT} {Eg : XK} {Ng : List Str} {qg : Str} {sg : Scope} {ga f c' : Addr} {cdg pm ctv : Value} {params : Arguments} {body : Expr} {scope : Scope} {k i : Nat} {a : Str} {pn : List (Addr × Obj)} {xe : Value → Shared → Prop} {W : WX} {E : XK} {tb : TE} {p1 p2 : Pos}
    (I : Inv X pins σ H s) (L : LamS X.env.scope scope) (hf : s.heap.get? f = some (PySem.W.kla_obj "<lambda>" (X.env.qual ++ "<lambda>") params body scope (cloFrom X.env.cells scope.names []) pm c' ctv)) (hfn : H f = none) (hfr : f ∉ frs X.stack)
    (hbind : bindArgs (PySem.W.kla_fn "<lambda>" (X.env.qual ++ "<lambda>") params body scope (cloFrom X.env.cells scope.names []) pm (.ref c') ctv) ⟨[], []⟩ = pure [])
    (tk : Takes ((cxOf CXg X.prog X.w X.K X.mg X.base Ng qg sg ga cdg X.A X.stack s H Eg).tr pn xe) W) (hr : Room (k + 1) (X.A.deeper (envOfC qg sg s.heap.objs.size ga cdg)))
    (hbody : ∀ (A : Around) (outer : List Env) (s : Shared) (H : Hp), Room k (A.deeper (lamEnv X scope s.heap.objs.size f c')) → PE (lamCx X A outer s H E scope f c') body tb)
    (hN : Ng[i]? = some a) (hv : Vis sg a) (hd : (a == ("__debug__" : Str)) = false := by decide) (hcd : (a == ("__classdict__" : Str)) = false := by decide) :
    PE ((cxOf CXg X.prog X.w X.K X.mg X.base Ng qg sg ga cdg X.A X.stack s H Eg).tr pn xe) (.Call (.Name a p1) [] [] p2)
      (fun σZ HZ Q => (∀ cls d H', E cls d H' → W cls d σZ H') ∧ σZ[i]? = some (some (.ref f)) ∧ HZ c' = some (CodeO c' (X.env.qual ++ "<lambda>")) ∧ tb σ HZ Q) := by
  refine ⟨fun pinsZ sZ σZ HZ Q IZ h => ?_⟩
  obtain ⟨hW, hs, hc, ht⟩ := h
  refine wpAny_Call_Name_kw (thn ((pe_var (pos := p1) (i := i) hN hv hd hcd).run pinsZ sZ σZ HZ (fun v H1 => v = .ref f ∧ H1 = HZ) IZ ⟨.ref f, hs, rfl, rfl⟩) fun u s1 ⟨v, H1, I1, r1, q1⟩ => ?_)
  obtain ⟨ev, eH⟩ := q1
  subst ev
  rw [eH] at I1
  obtain rfl : u = Value.ref f := r1
  have of1 : s1.heap.get? f = some (PySem.W.kla_obj "<lambda>" (X.env.qual ++ "<lambda>") params body scope (cloFrom X.env.cells scope.names []) pm c' ctv) := I1.base.keep f _ hf hfn hfr (fun z => nomatch (show f ∈ ([] : List Addr) from z))
  refine PySem.W.callWith_F0 ⟨_, _, _, _, of1⟩ ?_
  have un : Un (frs X.stack) [] H HZ s.heap s1.heap := I1.base
  obtain ⟨⟨oc, vs, t, hoc, hdc, hvc⟩, _, _⟩ := I1.hok c' _ hc
  have rc : codeAny (model X.prog X.w) (X.A.deeper (envOfC qg sg s.heap.objs.size ga cdg)) (.call (.ref f) ⟨[], []⟩) (CR (L2.CX X.prog X.w) (envOfC qg sg s.heap.objs.size ga cdg :: X.stack) X.prog X.w HZ s1 Q E) s1 := by
    refine PySem.W.kla_callFunE hr.depth of1 rfl L.co L.gen rfl ⟨c', oc, vs, t, rfl, hoc, hdc, hvc⟩ ?_
    rw [hbind]
    refine wpAny_pure (wpAny_newFunctionEnv (fun y hy => (L.own y hy).2) (fun y hy => absurd hy (by simp)) (fun h₁ hns hsb => ⟨I1.nolimit.fresh _ hsb, ?_⟩) L.kind)
    show codeAny _ _ (.expr body (lamEnv X scope s1.heap.objs.size f c')) _ _
    have kp : ∀ b o, s1.heap.get? b = some o → h₁.get? b = some o := fun b o e => hsb.extBut b o (Nat.ne_of_lt (Heap.lt_size e)) (Heap.get?_push_of_some _ e)
    have J : Inv (lamCx X (X.A.deeper (envOfC qg sg s.heap.objs.size ga cdg)) (envOfC qg sg s.heap.objs.size ga cdg :: X.stack) s1 HZ E scope f c') [] σ HZ { s1 with heap := h₁, toks := s1.toks + ([] : List (Str × Value)).length } :=
      lam_start2 I L I1.env0 hr.hd un hns kp
    refine PySem.W.kla_codeExpr (wpAny_mono ((hbody _ _ s1 HZ (hr.deeper _)).run [] _ _ HZ Q J ht) (fun v s' hq => ?_) fun e s' hq => hq)
    obtain ⟨w', H', J', rv, q⟩ := hq
    exact ⟨w', H', J'.os, J'.bare, J'.base, J'.hok, rv, q⟩
  refine wpAny_call (codeAny_mono rc fun r s' hq => ?_)
  cases r with
  | error e => exact tk e s' (XE.of_call I1 (fun cls d H' z => hW cls d H' z) hq)
  | ok fl =>
    cases fl with
    | ret u => exact I1.after hq
    | next => exact False.elim hq
    | brk => exact False.elim hq
    | cont => exact False.elim hq
end
end SD

set_option Elab.async false
set_option linter.all false
set_option maxRecDepth 100000
set_option maxHeartbeats 4000000
namespace SD
open PySem PySem.Spec PyProof.Rows L2 LamX
/-- the suite's reading, by the class that was caught -/
def tsOf (g : Gc) (fs : DS) : Addr → Value → Option Addr → TS := fun a cls d D σ H => ∃ c dd, cls = .ref (g.cls c) ∧ d = some dd ∧ tS (gX g a dd c) (WF E0) fs D σ H
end SD

set_option Elab.async false
set_option linter.all false
set_option maxRecDepth 100000
set_option maxHeartbeats 4000000
namespace SD
open PySem PySem.Spec PyProof.Rows L2 LamX He

def oexB (K : PySem.W.Frag) (C : Addr) : Bool := (match K.lookup C with
  | some ⟨.type "type", _, .cls cd, sl⟩ => (match cd.mro, sl.toList with
    | .ref C' :: bm, [_, _, _, _, some (.builtin n), _] => C' == C && (!cd.hasDel && (cd.hasDict && ((n == "ValueError.__new__" && PySem.HandSPX.refsVE bm) || (n == "LookupError.__new__" && refsLE bm))))
    | _, _ => false)
  | _ => false) && (eqO (PySem.W.findIn K (.ref C) "__setattr__") (some (some (.builtin "object.__setattr__"))) && (decide (PySem.W.subIn K (.ref C) (.type "BaseException") = some true) && (decide (PySem.W.typeIn K (.ref C) = some (.type "type")) && PySem.W.keepIn K (.ref C))))
theorem oexB_ok {K : PySem.W.Frag} {C : Addr} (h : oexB K C = true) : OexG K C := by
  obtain ⟨h0, h⟩ := ba h
  obtain ⟨h1, h⟩ := ba h
  obtain ⟨h2, h⟩ := ba h
  obtain ⟨h3, h4⟩ := ba h
  refine ⟨?_, eqO_ok h1, of_decide_eq_true h2, of_decide_eq_true h3, h4⟩
  cases q : K.lookup C with
  | none => rw [q] at h0; cases h0
  | some o =>
    rw [q] at h0
    split at h0
    · rename_i dd cd sl ho
      cases ho
      split at h0
      · rename_i C' bm k0 k1 k2 k3 n k5 hm hs
        simp only [Bool.and_eq_true, Bool.or_eq_true, beq_iff_eq, Bool.not_eq_true'] at h0
        obtain ⟨rfl, hdel, hdict, ht⟩ := h0
        obtain ⟨nm, bs, mro, ns, qn, hd, sn, sub, ab, col, del⟩ := cd
        dsimp only at hm hdel hdict
        subst hm hdel hdict
        have hsl : sl = #[k0, k1, k2, k3, some (.builtin n), k5] := by
          obtain ⟨l⟩ := sl
          simp only at hs
          rw [hs]
        subst hsl
        rcases ht with ⟨rfl, ht⟩ | ⟨rfl, ht⟩
        · exact ⟨nm, qn, ns, bs, bm, sn, sub, ab, col, dd, k0, k1, k2, k3, k5, _, _, _, _, rfl, F.excBase_ValueError, Tl.ve ht⟩
        · exact ⟨nm, qn, ns, bs, bm, sn, sub, ab, col, dd, k0, k1, k2, k3, k5, _, _, _, _, rfl, F.excBase_LookupError, Tl.le ht⟩
      · cases h0
    · cases h0
/-- the class x: own __init__, the fields fs free -/
def xcB (x : Str) (fs : List Str) (K : PySem.W.Frag) : Bool := oexB K (ga K x) && (eqO (PySem.W.findIn K (.ref (ga K x)) "__init__") (some (some (.ref (ma K (ga K x) "__init__")))) && (decide (PySem.W.typeIn K (.ref (ma K (ga K x) "__init__")) = some (.type "function")) &&
  (xfB K (ga K x) && ((fs.all fun f => eqO (PySem.W.findIn K (.ref (ga K x)) f) (some none)) && (fs.contains "#" || decide (PySem.W.exmAny K (.ref (ga K x)) [.ref (ga K "LotError"), .ref (ga K "Missing")] = some true))))))
structure XcF (K : PySem.W.Frag) (x : Str) (fs : List Str) : Prop where
  o : OexG K (ga K x)
  i : PySem.W.findIn K (.ref (ga K x)) "__init__" = some (some (.ref (ma K (ga K x) "__init__")))
  t : PySem.W.typeIn K (.ref (ma K (ga K x) "__init__")) = some (.type "function")
  f : XfC K (ga K x)
  n : ∀ f ∈ fs, PySem.W.findIn K (.ref (ga K x)) f = some none
  m : fs.contains "#" = false → PySem.W.exmAny K (.ref (ga K x)) [.ref (ga K "LotError"), .ref (ga K "Missing")] = some true
theorem xcB_ok {K : PySem.W.Frag} {x : Str} {fs : List Str} (h : xcB x fs K = true) : XcF K x fs := by
  obtain ⟨h0, h⟩ := ba h
  obtain ⟨h1, h⟩ := ba h
  obtain ⟨h2, h⟩ := ba h
  obtain ⟨h3, h⟩ := ba h
  obtain ⟨h4, h5⟩ := ba h
  exact ⟨oexB_ok h0, eqO_ok h1, of_decide_eq_true h2, xfB_ok h3, fun f hf => eqO_ok (List.all_eq_true.mp h4 f hf), fun z => by rw [z, Bool.false_or] at h5; exact of_decide_eq_true h5⟩
/-- all that the classes are asked -/
def allX (cs : List (Str × List Str)) (K : PySem.W.Frag) : Bool := cs.all fun c => xcB c.1 c.2 K
/-- the numbers of the classes, in order -/
def clsN (cs : List (Str × List Str)) (K : PySem.W.Frag) (n : Nat) : Addr := ga K (((cs[n]?).map (·.1)).getD Str.empty)
/-- the facts of the head, with those of the classes and of the tables -/
structure Hx (fa : List Fa) (fn : List DefD) (cs : List (Str × List Str)) (K : PySem.W.Frag) (mg : Str → Option Value) : Prop extends Hd fa fn K mg where
  more : allX cs K = true
section
variable {fa : List Fa} {fn : List DefD} {cs : List (Str × List Str)} {K : PySem.W.Frag} {mg : Str → Option Value}
theorem Hx.xc (T : Hx fa fn cs K mg) (i : Nat) {x : Str} {fs : List Str} (h : cs[i]? = some (x, fs) := by rfl) : XcF K x fs := xcB_ok (List.all_eq_true.mp T.more _ (List.mem_of_getElem? h))
/-- an attribute that may be read of each of them -/
theorem Hx.xf (T : Hx fa fn cs K mg) {g : Gc} (hK : g.K = K) {is : List Nat} {f : Str} (hc : is.map g.cls = is.map (clsN cs K)) (h : (is.all fun i => (cs[i]?).any fun c => c.2.contains f) = true) : XfOk g is f := by
  intro i hi
  have h1 := List.all_eq_true.mp h i hi
  cases e : cs[i]? with
  | none => rw [e] at h1; cases h1
  | some c =>
    rw [e] at h1
    have h2 : c.2.contains f = true := h1
    obtain ⟨x, fs⟩ := c
    have X := T.xc i e
    have ea : g.cls i = ga K x := by rw [List.map_inj_left.mp hc i hi]; unfold clsN; rw [e]; rfl
    rw [hK, ea]
    exact ⟨X.f, X.n f (by simpa using h2)⟩
/-- each is taken by the except clause -/
theorem Hx.xm (T : Hx fa fn cs K mg) {g : Gc} (hK : g.K = K) {is : List Nat} (hc : is.map g.cls = is.map (clsN cs K)) (h : (is.all fun i => (cs[i]?).any fun c => !c.2.contains "#") = true) : ∀ c ∈ is, PySem.W.exmAny g.K (.ref (g.cls c)) [.ref (ga K "LotError"), .ref (ga K "Missing")] = some true := by
  intro i hi
  have h1 := List.all_eq_true.mp h i hi
  cases e : cs[i]? with
  | none => rw [e] at h1; cases h1
  | some c =>
    rw [e] at h1
    have h2 : (!c.2.contains "#") = true := h1
    obtain ⟨x, fs⟩ := c
    have X := T.xc i e
    have ea : g.cls i = ga K x := by rw [List.map_inj_left.mp hc i hi]; unfold clsN; rw [e]; rfl
    rw [hK, ea]
    exact X.m (by simpa using h2)
end
section
variable {P : Program} {w : World} {g : Gc} {mg : Str → Option Value} {base : Heap} {x qual code f1 f2 : Str} {params : Arguments} {scope : Scope} {fI : Addr} {c i j k : Nat} {N : List Str} {body : List Stmt} {fs : List Str} {p1 p2 p3 p4 q1 q2 q3 q4 r1 r2 r3 r4 : Pos}
theorem xc0 (hm : mg x = some (.ref (g.cls c))) (X : XcF g.K x fs) (ea : g.cls c = ga g.K x) (hF : ∃ fd, FunD g.K "__init__" qual params [.Assign [.Attribute (.Name "self" p1) "code" p2] (.Constant (.str code) j p3) p4] scope [] [] (ma g.K (ga g.K x) "__init__") fd) (S : FnScope N ["self"] scope)
    (hb : ∀ (kV doc pm : Value) (an : Option Addr) (cdv ct : Value) (us : List Value), us.length = 1 → bindArgs (PySem.W.fnOf "__init__" qual params [.Assign [.Attribute (.Name "self" p1) "code" p2] (.Constant (.str code) j p3) p4] scope .none kV doc pm an cdv ct) ⟨us, []⟩ = pure ((["self"] : List Str).zip us))
    (hc : fs.contains "code" = true) (h0 : N[0]? = some ("self" : Str)) (hv : Vis scope "self") (hl : N.length = 1) :
    XcG P w g mg base (k + 1) x c [] code := by
  obtain ⟨fd, F⟩ := hF
  rw [← ea] at F
  refine ⟨_, fd, hm, by rw [ea]; exact X.o, by rw [ea]; exact X.i, X.t, F.bindsN hb, ?_⟩
  have T := X.o
  rw [← ea] at T ⊢
  exact init0 F S T (by rw [ea]; exact X.n _ (by simpa using hc)) (fun _ _ _ _ _ _ => pe_var h0 hv) hl
theorem xc1 (hm : mg x = some (.ref (g.cls c))) (X : XcF g.K x fs) (ea : g.cls c = ga g.K x) (hF : ∃ fd, FunD g.K "__init__" qual params [.Assign [.Attribute (.Name "self" p1) f1 p2] (.Name f1 p3) p4, .Assign [.Attribute (.Name "self" q1) "code" q2] (.Constant (.str code) j q3) q4] scope [] [] (ma g.K (ga g.K x) "__init__") fd) (S : FnScope N ["self", f1] scope)
    (hb : ∀ (kV doc pm : Value) (an : Option Addr) (cdv ct : Value) (us : List Value), us.length = 2 → bindArgs (PySem.W.fnOf "__init__" qual params [.Assign [.Attribute (.Name "self" p1) f1 p2] (.Name f1 p3) p4, .Assign [.Attribute (.Name "self" q1) "code" q2] (.Constant (.str code) j q3) q4] scope .none kV doc pm an cdv ct) ⟨us, []⟩ = pure ((["self", f1] : List Str).zip us))
    (hc : fs.contains "code" = true) (hf1 : fs.contains f1 = true) (h0 : N[0]? = some ("self" : Str)) (hv : Vis scope "self") (h1 : N[1]? = some f1) (hv1 : Vis scope f1) (hd : (f1 == ("__debug__" : Str)) = false) (hcd : (f1 == ("__classdict__" : Str)) = false) (hl : N.length = 2)
    (hs : ∀ env : Env, swapsWith (.Name f1 p3) (some (.Attribute (.Name "self" p1) f1 p2)) p4.line env = pure false) :
    XcG P w g mg base (k + 1) x c [f1] code := by
  obtain ⟨fd, F⟩ := hF
  rw [← ea] at F
  refine ⟨_, fd, hm, by rw [ea]; exact X.o, by rw [ea]; exact X.i, X.t, F.bindsN hb, ?_⟩
  have T := X.o
  rw [← ea] at T ⊢
  exact init1 F S T (by rw [ea]; exact X.n _ (by simpa using hc)) (by rw [ea]; exact X.n _ (by simpa using hf1)) (fun _ _ _ _ _ _ _ => pe_var h0 hv) (fun _ _ _ _ _ _ => pe_var h1 hv1 hd hcd) hs hl
end
theorem gf_okC {P : Program} {w : World} {g : Gc} {mg : Str → Option Value} {base : Heap} {x qual : Str} {params : Arguments} {body : List Stmt} {scope : Scope} {dvs : List V} {kws : List (Str × V)} {p : Defn} {fd : FuncData} {N ps : List Str} {k : Nat} {md : Md} {fb : DS}
    (F : FunD g.K x qual params body scope dvs kws (fAd g.K p) fd) (S : FnScope N ps scope)
    (hb : ∀ (A : Around) (outer : List Env) (s : Shared) (H : Hp) (E : XK), Room k (A.deeper (envOfC qual scope s.heap.objs.size (fAd g.K p) (.ref (codeOf g.K p)))) → GSs g (WF E) (cxOf (L2.CX P w) P w g.K mg base N qual scope (fAd g.K p) (.ref (codeOf g.K p)) A outer s H E) body fb) :
    FnOk P w g.K mg base (L2.CX P w) (k + 1) (fAd g.K p) fd ps (spF g (runF md ps.length N.length fb) ps.length) := by
  obtain ⟨oc, od, dV, kV, doc, pm, an, cdv, ct, osl, rfl, lk, hcd, _, _⟩ := F.ex
  obtain ⟨c, ec⟩ := codeIn_ref hcd
  have e2 : cdv = .ref (codeOf g.K p) := by rw [codeOf_eq lk ec]; exact ec
  refine fn_of lk hcd S (fun vs H Q E h => h.1) fun A outer s H vs Q E hr h => ?_
  rw [e2] at hr ⊢
  refine ⟨_, hb A outer s H E hr, ?_⟩
  obtain ⟨hl, κ, ds, μ, r, so, h⟩ := h
  exact run_read r so (by rw [r.length]; exact hl) h
theorem tk_lam {X : Cx} {A : Around} {outer : List Env} {s : Shared} {H : Hp} {E : XK} {scope : Scope} {f c : Addr} : Takes (lamCx X A outer s H E scope f c) (WF E) := takes_of rfl rfl rfl rfl
theorem stoOk_start {g : Gc} {H : Hp} (h : ∀ p ∈ g.T, H p.1 = some (.tbl #[])) : StoOk g ⟨[], g.T.map (·.1)⟩ H [] where
  len := rfl
  inj := fun i j a h => by simp at h
  at_ := fun i c h => by simp at h
  gst := fun a ha => by
    obtain ⟨p, hp, e⟩ := List.mem_map.mp ha
    exact ⟨⟨_, by rw [← e]; exact h p hp⟩, by simp⟩
  tbs := fun p hp => ⟨List.mem_map_of_mem hp, #[], h p hp, True.intro, fun pos cv z => by
    have z' : codeAmong pos [] = some cv := z
    simp [codeAmong] at z'⟩
theorem sp_start {g : Gc} {F : Fn} {H : Hp} {a : Addr} {ns : List Int} (h : ∀ p ∈ g.T, H p.1 = some (.tbl #[])) (hS : SqL g.K H a (ns.map V.int)) (hF : ∃ μ, F [.scr (ns.map .int)] [] = .ok (.bl true) μ) : spF g F 1 [.ref a] H (fun v _ => v = .bl true) (fun _ _ _ => False) := by
  have no : ∀ (b : Addr) (o : HO), H b = some o → (∀ ps, o ≠ .tbl ps) → ¬ KA.has ⟨[], g.T.map (·.1)⟩ b := fun b o e n m => by
    rcases m with m | m
    · simp at m
    · obtain ⟨p, hp, e2⟩ := List.mem_map.mp m
      rw [← e2, h p hp] at e
      exact n _ (Option.some.inj e).symm
  refine ⟨rfl, ⟨[], g.T.map (·.1)⟩, [.scr (ns.map .int)], [], RelL.cons ?_ RelL.nil, stoOk_start h, ?_⟩
  · simp only [Rel]
    refine ⟨a, ns.map V.int, rfl, ?_, RelL.ints ns⟩
    rcases hS with (z | ⟨o, z⟩) | z
    · exact .inl ⟨z, no _ _ z fun ps e => by cases e⟩
    · exact .inr (.inl ⟨o, z, no _ _ z fun ps e => by cases e⟩)
    · exact .inr (.inr z)
  · obtain ⟨μ, e⟩ := hF
    rw [e]
    intro κ' H' _ _ v rv
    simpa only [Rel] using rv
/-- what the end asks of the law, by its body -/
theorem law_atS {l : PySem.W.OpenLaw} {w : World} {K : PySem.W.Frag} {mg : Str → Option Value} {fa' : Addr} {h : Heap} {fa : List Fa} {fn : List DefD} {ts : List Tab} {tf : List Defn} {ex : PySem.W.Frag → Bool} {g : Gc} {k n : Nat} {F : Fn} {fd : FuncData}
    (X : K.In h) (c : SaysX fa fn ts tf ex w h K) (hK : g.K = K) (hT : g.T.map (·.1) = tf.map fun p => (cT K p).2) (hb : ∀ (s : Shared) (u : Value), BindsTo s fd ⟨[u], []⟩ [("script", u)])
    (hpl : ∀ ns : List Int, ns.length ≤ n → ∃ μ, F [.scr (ns.map .int)] [] = .ok (.bl true) μ)
    (hF : ∀ base : Heap, K.In base → base.Ns mainGlobals mg → (∀ p ∈ tf, TabB base mg (cT K p).1 (cT K p).2) → FnOk l.prog w K mg base (L2.CX l.prog w) k fa' fd ["script"] (spF g F 1)) :
    LawAtS l w K (L2.CX l.prog w) k n "script" mg fa' h := by
  refine ⟨fd, tf.map (cT K), spF g F 1, fun p hp => ?_, fun p hp => ?_, fun p hp => ?_, hb, fun H a ns hl _ hH hS => ?_, fun base h1 h2 h3 => hF base h1 h2 fun p hp => h3 _ (List.mem_map_of_mem hp)⟩
  · obtain ⟨q, hq, rfl⟩ := List.mem_map.mp hp
    exact c.empty q hq
  · obtain ⟨q, hq, rfl⟩ := List.mem_map.mp hp
    exact c.out q hq
  · obtain ⟨q, hq, rfl⟩ := List.mem_map.mp hp
    exact PySem.W.codeHd_of_K X (c.hd q hq)
  · refine sp_start (fun p hp => ?_) (by rw [hK]; exact hS) (hpl ns hl)
    have m : p.1 ∈ tf.map fun p => (cT K p).2 := by rw [← hT]; exact List.mem_map_of_mem hp
    obtain ⟨q, hq, e⟩ := List.mem_map.mp m
    rw [← e]
    exact hH _ (List.mem_map_of_mem hq)
/-- got(lambda: e), the def given by what the head tells of it -/
theorem bn1 {K : PySem.W.Frag} {x a : Str} {st : Stmt} {ga : Addr} {fd : FuncData} (F : FunD K x x (defArgs st) (defBody st) (defScope st) [] [] ga fd) (hb : ∀ (kV doc pm : Value) (an : Option Addr) (cdv ct : Value) (us : List Value), us.length = 1 → bindArgs (PySem.W.fnOf x x (defArgs st) (defBody st) (defScope st) .none kV doc pm an cdv ct) ⟨us, []⟩ = pure (([a] : List Str).zip us)) : Binds K fd [a] [] := F.bindsN hb
end SD

set_option Elab.async false
set_option linter.all false
set_option maxRecDepth 100000
set_option maxHeartbeats 4000000
namespace SD
open PySem PySem.Spec PyProof.Rows L2
section
variable {prog : Program} {w : World} {A : Around} {R : Result → Shared → Prop} {s : Shared} {elt t0 i0 t1 i1 : Expr} {f0 f1 : List Expr} {sc : Scope} {pos : Pos} {it acc : Value} {env : Env}
abbrev tsts (fs : List Expr) (env : Env) : Sem Bool := forIn fs true fun q go => if go = true then do let ok ← isTrue q env (eval q env); pure (ForInStep.yield ok) else pure (ForInStep.yield go)
end
end SD

set_option Elab.async false
set_option linter.all false
set_option maxRecDepth 100000
set_option maxHeartbeats 4000000
namespace SD
open PySem PySem.Spec PyProof.Rows L2
section
variable {X : Cx}
end
end SD

set_option Elab.async false
set_option linter.all false
set_option maxRecDepth 100000
set_option maxHeartbeats 4000000
namespace SD
open PySem PySem.Spec PyProof.Rows L2

abbrev I2 := Int × Int
def prL (q : I2) : List Int := [q.1, q.2]
def unL : List Int → I2
  | [a, b] => (a, b)
  | _ => (0, 0)
section
variable {prog : Program} {w : World} {A : Around} {E : Value → Shared → Prop} {s : Shared}
end
section
variable {X : Cx}
end
end SD

set_option Elab.async false
set_option linter.all false
set_option maxRecDepth 100000
set_option maxHeartbeats 4000000
namespace SD
open PySem PySem.Spec PyProof.Rows L2
theorem nox_ok {α β : Type} {g : Gc} {W : WX} {σ : L2.St} {κ : KA} {H : Hp} {r : R α} {k : α → Sto → R β} {Φ : β → Sto → KA → Hp → Prop} (h : wpR g W σ κ H (r.nox.bind k) Φ) : ∃ a μ, r = .ok a μ ∧ wpR g W σ κ H (k a μ) Φ := by
  cases r with
  | ok a μ => exact ⟨a, μ, rfl, h⟩
  | ex c ns xs μ => exact h.elim
  | stuck => exact h.elim
def addP (ms : List I2) (q : I2) : List I2 := if q ∈ ms then ms else ms ++ [q]
/-- the set at D while it is filled -/
structure PS0 (g : Gc) (P : Program) (w : World) (κ1 : KA) (H1 : Hp) (D : Addr) (ms : List I2) (κ : KA) (H : Hp) (μ : Sto) : Prop where
  gh : κ.gh = D :: κ1.gh
  ex : Ext0 κ1 H1 κ H
  hv : ∀ a ∈ κ1.gh, NoTbl H1 a → H a = H1 a
  so : StoOk g κ H μ
  st : ∃ L, H D = some (SetTO P w D L) ∧ (L.map (·.2)).Perm (ms.map prL) ∧ ∀ p ∈ L, FrT g κ H p.1 (p.2.map V.int)
theorem noTbl_set {P : Program} {w : World} {H : Hp} {D : Addr} {L : List (Addr × List Int)} (h : H D = some (SetTO P w D L)) : NoTbl H D := fun ps e => by rw [h] at e; cases e
section
variable {g : Gc} {P : Program} {w : World} {κ1 κ κ' : KA} {H1 H H' : Hp} {D : Addr} {ms : List I2} {μ μ' : Sto}
theorem PS0.ext (p : PS0 g P w κ1 H1 D ms κ H μ) (e : Ext κ H κ' H') (s : StoOk g κ' H' μ') : PS0 g P w κ1 H1 D ms κ' H' μ' := by
  obtain ⟨L, h1, h2, h3⟩ := p.st
  refine ⟨e.ghs.trans p.gh, p.ex.trans e.toExt0, fun a ha n => ?_, s, L, ?_, h2, fun q hq => (h3 q hq).ext e⟩
  · have z := p.hv a ha n
    exact (e.ghv a (by rw [p.gh]; exact List.mem_cons_of_mem _ ha) fun ps y => n ps (by rw [← z]; exact y)).trans z
  · exact (e.ghv D (by rw [p.gh]; exact List.mem_cons_self) (noTbl_set h1)).trans h1
theorem prL_inj {a b : I2} (h : prL a = prL b) : a = b := by
  have := congrArg unL h
  exact this
theorem mem_prL {ms : List I2} {q : I2} : prL q ∈ ms.map prL ↔ q ∈ ms := by
  constructor
  · intro h
    obtain ⟨m, hm, e⟩ := List.mem_map.mp h
    rw [← prL_inj e]; exact hm
  · exact fun h => List.mem_map.mpr ⟨q, h, rfl⟩
theorem PS0.add (s1 : StoOk g κ1 H1 μ') (hD : H1 D = none) (p : PS0 g P w κ1 H1 D ms κ H μ) {L L' : List (Addr × List Int)} {x : Addr} {q : I2} (h1 : H D = some (SetTO P w D L)) (h2 : (L.map (·.2)).Perm (ms.map prL)) (h3 : ∀ p ∈ L, FrT g κ H p.1 (p.2.map V.int))
    (hx : FrT g κ H x [.int q.1, .int q.2]) (c1 : prL q ∈ L.map (·.2) → L' = L) (c2 : prL q ∉ L.map (·.2) → L'.Perm ((x, prL q) :: L)) :
    Ext0 κ H κ (upd H D (SetTO P w D L')) ∧ PS0 g P w κ1 H1 D (addP ms q) κ (upd H D (SetTO P w D L')) μ := by
  have mD : D ∈ κ.gh := by rw [p.gh]; exact List.mem_cons_self
  have xw : Ext0 κ H κ (upd H D (SetTO P w D L')) := Ext0.write (.inr mD)
  refine ⟨xw, p.gh, p.ex.trans xw, fun a ha n => ?_, p.so.fill mD (noTbl_set h1), L', upd_same, ?_, fun r hr => ?_⟩
  · rw [upd_ne fun e => ?_]
    · exact p.hv a ha n
    · obtain ⟨⟨u, hu⟩, _⟩ := s1.gst a ha
      rw [e, hD] at hu; cases hu
  · have hm : prL q ∈ L.map (·.2) ↔ q ∈ ms := h2.mem_iff.trans mem_prL
    unfold addP
    by_cases hq : q ∈ ms
    · rw [if_pos hq, c1 (hm.mpr hq)]; exact h2
    · rw [if_neg hq]
      have z := (c2 fun y => hq (hm.mp y)).map (·.2)
      refine z.trans ?_
      rw [List.map_append]
      exact ((h2.cons (prL q)).trans (List.perm_append_singleton _ _).symm)
  · by_cases hq : prL q ∈ L.map (·.2)
    · rw [c1 hq] at hr; exact (h3 r hr).ext0 xw
    · rcases List.mem_cons.mp ((c2 hq).mem_iff.mp hr) with e | e
      · rw [e]; exact hx.ext0 xw
      · exact (h3 r e).ext0 xw
end

section
variable {g : Gc} {W : WX} {X : Cx}
end
end SD

set_option Elab.async false
set_option linter.all false
set_option maxRecDepth 100000
set_option maxHeartbeats 4000000
namespace SD
open PySem PySem.Spec PyProof.Rows L2
section
variable {X : Cx}
end
section
variable {g : Gc} {W : WX} {X : Cx} {elt t0 i0 t1 i1 : Expr} {f0 f1 : List Expr} {sc : Scope} {own : List (PySem.Str × Nat)} {vs1 sl sl1 : List Nat} {pos p2 cp : Pos} {fi fi1 : DI} {t t' : DG} {tt tt1 : DT} {te : DE} {N : List Str} {sc0 : Scope} {x : Str}
end

section
variable {g : Gc} {X : Cx}
end
end SD

set_option Elab.async false
set_option linter.all false
set_option maxRecDepth 100000
set_option maxHeartbeats 4000000
namespace SD
open PySem PySem.Spec PyProof.Rows L2
def trimE (n : Nat) (ρ : En) : En := ρ.map fun o => match o with
  | some d => if d.low n = true then some d else none
  | none => none
def trimOk (n : Nat) (μ : Sto) : Bool := decide (n ≤ μ.length) && (μ.take n).all (CO.low n)
def loopT (w : Wk) (t : DG) (f : DS) (n0 : Nat) : Nat → Nat → DS
  | 0, _ => fun _ _ => .stuck
  | n + 1, k => fun ρ μ => match wkAt w μ k with
    | none => .stuck
    | some none => .nx ρ μ
    | some (some d) => match t d ρ μ with
      | none => .stuck
      | some ρ1 => match f ρ1 μ with
        | .nx ρ' μ' => if trimOk n0 μ' = true then loopT w t f n0 n (k + 1) (trimE n0 ρ') (μ'.take n0) else .stuck
        | .ct ρ' μ' => if trimOk n0 μ' = true then loopT w t f n0 n (k + 1) (trimE n0 ρ') (μ'.take n0) else .stuck
        | .bk ρ' μ' => .nx ρ' μ'
        | r => r
def sForT (it : DI) (t : DG) (f : DS) : DS := fun ρ μ => (it ρ μ).toS ρ fun w μ1 => loopT w t f μ1.length (wkLen w μ1 + 1) 0 ρ μ1
section
variable {g : Gc} {W : WX} {X : Cx} {sts : List Stmt} {pos : Pos} {f : DS}
end
section
variable {ρ : En} {μ : Sto} {t : DG} {f : DS}
def R.forT (r : R Wk) (t : DG) (f : DS) (ρ : En) : SR := r.toS ρ fun w μ1 => loopT w t f μ1.length (wkLen w μ1 + 1) 0 ρ μ1
@[simp] theorem sForT_ap {it : DI} : sForT it t f ρ μ = R.forT (it ρ μ) t f ρ := rfl
end
end SD

set_option Elab.async false
set_option linter.all false
set_option maxRecDepth 100000
set_option maxHeartbeats 4000000
namespace SD
open PySem PySem.Spec PyProof.Rows L2
abbrev Xs := List (List Int × Addr × Value)
def DctT (P : Program) (w : World) (h : Heap) (d : Addr) (xs : Xs) : Prop :=
  (d == sysModules) = false ∧ ∃ o es ep, h.get? d = some o ∧ o.ExactDict ∧ o.data = .dict es ep ∧ es.toList = xs.map (entryOfKey (TK P w)) ∧ (xs.map (·.1)).Nodup
def DTX (P : Program) (w : World) (d : Addr) (xs : Xs) : HO := .ext fun h => DctT P w h d xs
section
variable {X : Cx}
end
end SD

set_option Elab.async false
set_option linter.all false
set_option maxRecDepth 100000
set_option maxHeartbeats 4000000
namespace SD
open PySem PySem.Spec PyProof.Rows L2
/-- the dict at D while it is filled -/
structure PD0 (g : Gc) (P : Program) (w : World) (κ1 : KA) (H1 : Hp) (D : Addr) (ms : List I2) (κ : KA) (H : Hp) (μ : Sto) : Prop where
  gh : κ.gh = D :: κ1.gh
  ex : Ext0 κ1 H1 κ H
  hv : ∀ a ∈ κ1.gh, NoTbl H1 a → H a = H1 a
  so : StoOk g κ H μ
  st : ∃ xs, H D = some (DTX P w D xs) ∧ xs.map (·.1) = ms.map prL ∧ ∀ p ∈ xs, FrT g κ H p.2.1 (p.1.map V.int)
theorem noTbl_dt {P : Program} {w : World} {H : Hp} {D : Addr} {xs : Xs} (h : H D = some (DTX P w D xs)) : NoTbl H D := fun ps e => by rw [h] at e; cases e
section
variable {g : Gc} {P : Program} {w : World} {κ1 κ κ' : KA} {H1 H H' : Hp} {D : Addr} {ms : List I2} {μ μ' : Sto}
theorem PD0.ext (p : PD0 g P w κ1 H1 D ms κ H μ) (e : Ext κ H κ' H') (s : StoOk g κ' H' μ') : PD0 g P w κ1 H1 D ms κ' H' μ' := by
  obtain ⟨xs, h1, h2, h3⟩ := p.st
  refine ⟨e.ghs.trans p.gh, p.ex.trans e.toExt0, fun a ha n => ?_, s, xs, ?_, h2, fun q hq => (h3 q hq).ext e⟩
  · have z := p.hv a ha n
    exact (e.ghv a (by rw [p.gh]; exact List.mem_cons_of_mem _ ha) fun ps y => n ps (by rw [← z]; exact y)).trans z
  · exact (e.ghv D (by rw [p.gh]; exact List.mem_cons_self) (noTbl_dt h1)).trans h1
end
section
variable {g : Gc} {W : WX} {X : Cx}
section
variable {kx vx t0 i0 : Expr} {f0 : List Expr} {sc : Scope} {own : List (PySem.Str × Nat)} {sl : List Nat} {pos : Pos} {fi : DI} {t : DG} {tt : DT} {tk tv : DE} {N : List Str} {sc0 : Scope} {tg : Expr}
end
end
end SD

set_option Elab.async false
set_option linter.all false
set_option maxRecDepth 100000
set_option maxHeartbeats 4000000
namespace SD
open PySem PySem.Spec PyProof.Rows L2
section
variable {g : Gc} {W : WX} {X : Cx}
def rngOf3 : List DV → Option Wk
  | [.int i, .int j, .int c] => if (!decide (c = 0)) && (decide (c.natAbs < 1073741824) && (Builtin.Range.small i j c && decide (0 ≤ Builtin.Range.rangeSize i j c))) then some (.fix ((List.range (Builtin.Range.rangeSize i j c).toNat).map fun k => .int (i + (k : Nat) * c))) else none
  | _ => none
def iRng3' (r : DA) : DI := fun ρ μ => (r ρ μ).bind fun ds μ1 => R.of (rngOf3 ds) μ1
end
section
variable {ρ : En} {μ : Sto}
def R.rg3 (r : R (List DV)) : R Wk := r.bind fun ds μ1 => R.of (rngOf3 ds) μ1
@[simp] theorem iRng3_ap {r : DA} : iRng3' r ρ μ = R.rg3 (r ρ μ) := rfl
@[simp] theorem rg3_ok {ds : List DV} : R.rg3 (.ok ds μ) = R.of (rngOf3 ds) μ := rfl
end
end SD

set_option Elab.async false
set_option linter.all false
set_option maxRecDepth 100000
set_option maxHeartbeats 4000000
namespace SD
open PySem PySem.Spec PyProof.Rows L2
/-- what is known of an instance -/
def insOf (μ : Sto) : DV → Option (Nat × List Str × List DV)
  | .obj c ns xs => some (c, ns, xs)
  | .cell i => match μ[i]? with
    | some (.ins c ns xs) => some (c, ns, xs)
    | _ => none
  | _ => none
section
variable {g : Gc} {κ : KA} {H : Hp} {μ : Sto} {d : DV} {v : V} {c : Nat} {ns : List Str} {xs : List DV}
theorem insOf_rel (s : StoOk g κ H μ) (r : Rel g κ H d v) (h : insOf μ d = some (c, ns, xs)) : ∃ a dx vs, v = .ref a ∧ H a = some (.ins (g.cls c) dx (ns.zip vs)) ∧ ns.length = vs.length ∧ RelL g κ H xs vs := by
  cases d with
  | obj c' ns' xs' =>
    cases h
    simp only [Rel] at r
    obtain ⟨a, dx, vs, rfl, h2, hl, h3⟩ := r
    exact ⟨a, dx, vs, rfl, h2.1, hl, h3⟩
  | cell i =>
    simp only [insOf] at h
    cases ec : μ[i]? with
    | none => rw [ec] at h; cases h
    | some co =>
      rw [ec] at h
      cases co with
      | ins c' ns' xs' =>
        cases h
        simp only [Rel] at r
        obtain ⟨o, h1, h2⟩ := s.at_ i _ ec
        obtain ⟨p, dx, vs, rfl, h3, hl, h4⟩ := h2
        exact ⟨p, dx, vs, r.2 p h1, h3, hl, h4⟩
      | _ => cases h
  | _ => cases h
theorem fld_rel {f : Str} {dv : DV} : ∀ {ns : List Str} {xs : List DV} {vs : List V}, RelL g κ H xs vs → (ns.zip xs).lookup f = some dv → ∃ v, (ns.zip vs).lookup f = some v ∧ Rel g κ H dv v
  | [], _, _, _, h => by simp at h
  | n :: ns, [], _, _, h => by simp at h
  | n :: ns, x :: xs, _, r, h => by
    obtain ⟨v, vs, rfl, r1, r2⟩ := r.of_cons
    rw [List.zip_cons_cons] at h ⊢
    by_cases e : (f == n) = true
    · simp only [List.lookup, e] at h ⊢
      cases h
      exact ⟨v, rfl, r1⟩
    · have e : (f == n) = false := by simpa using e
      simp only [List.lookup, e] at h ⊢
      exact fld_rel r2 h
end
/-- e.f, of an instance of one of the classes cs -/
def vFl (cs : List Nat) (f : Str) : V1 := fun d μ => match insOf μ d with
  | some (c, ns, xs) => if cs.contains c = true then (ns.zip xs).lookup f else none
  | none => none
/-- the classes' text lets the field be -/
def FlOk (g : Gc) (cs : List Nat) (f : Str) : Prop := ∀ c ∈ cs, Cls g.K (g.cls c) ∧ NoAttr g.K (g.cls c) f
section
variable {g : Gc} {W : WX} {X : Cx} {e o value : Expr} {es : List Expr} {fe fo fv : DE} {fr fk : DA} {f x m : Str} {cs : List Nat} {c k : Nat} {pos pos' p apos : Pos} {ps : List Str} {dvs : List V} {F : Fn} {fd : FuncData} {C fm : Addr}
theorem ge_fl (xg : XG g X) (ok : FlOk g cs f) (he : GE g W X e fe) (hb : attributeBase e f X.env (eval e X.env) = eval e X.env := by rfl) : GE g W X (.Attribute e f pos) (eUn (vFl cs f) fe) := by
  refine PE.imp (pe_fld he hb) fun σ H Q q => ?_
  obtain ⟨κ, ρ, μ, hE, hs, hw⟩ := q
  refine ⟨κ, ρ, μ, hE, hs, (wpR.bind (show wpR g W σ κ H ((fe ρ μ).bind fun x μ1 => R.of (vFl cs f x μ1) μ1) _ from hw)).mono fun x μ1 κ1 H1 e1 s1 h1 v rv => ?_⟩
  have h1 := out_of h1
  unfold vFl at h1
  cases hi : insOf μ1 x with
  | none => rw [hi] at h1; exact h1.elim
  | some t =>
    obtain ⟨c, ns, xs⟩ := t
    rw [hi] at h1
    by_cases hc : cs.contains c = true
    · simp only [if_pos hc] at h1
      cases hl : (ns.zip xs).lookup f with
      | none => rw [hl] at h1; exact h1.elim
      | some dv =>
        rw [hl] at h1
        obtain ⟨a, dx, vs, rfl, h2, h3, h4⟩ := insOf_rel s1 rv hi
        obtain ⟨w, l1, l2⟩ := fld_rel h4 hl
        obtain ⟨k1, k2⟩ := ok c (by simpa using hc)
        exact ⟨a, g.cls c, dx, ns.zip vs, w, rfl, h2, by rw [xg.K]; exact k1, by rw [xg.K]; exact k2, l1, h1 κ1 H1 Ext.refl s1 w l2⟩
    · simp only [if_neg hc] at h1; exact h1.elim
def sFl (c : Nat) (f : Str) (fv fo : DE) : DS := fun ρ μ => (fv ρ μ).toS ρ fun y μ1 => (fo ρ μ1).toS ρ fun o μ2 => match o with
  | .cell i => match μ2[i]? with
    | some (.ins c' ns xs) => if (decide (c' = c) && (decide (f ∉ ns) && (decide (ns.length = xs.length) && decide (xs.length < 1000)))) = true then .nx ρ (μ2.set i (.ins c (ns ++ [f]) (xs ++ [y]))) else .stuck
    | _ => .stuck
  | _ => .stuck
theorem putF_new {f : Str} {v : V} : ∀ {fs : List (Str × V)}, f ∉ fs.map (·.1) → putF f v fs = fs ++ [(f, v)]
  | [], _ => rfl
  | (n, x) :: r, h => by
    rw [List.map_cons, List.mem_cons, not_or] at h
    show (if n = f then (n, v) :: r else (n, x) :: putF f v r) = _
    rw [if_neg fun e => h.1 e.symm, putF_new h.2]
    rfl
theorem gs_fl (xg : XG g X) (ok : FlOk g [c] f) (hv : GE g W X value fv) (ho : GE g W X o fo) (hs : swapsWith value (some (.Attribute o f pos')) pos.line X.env = pure false := by rfl) : GS g W X (.Assign [.Attribute o f pos'] value pos) (sFl c f fv fo) :=
  PS.imp (ps_fld ho hv hs) fun D σ H q => by
  obtain ⟨κ, ρ, μ, hE, hs, hw⟩ := q
  refine ⟨κ, ρ, μ, hE, hs, (wpS.bind hE hw).mono fun y μ1 κ1 H1 e1 s1 h1 v rv => ?_⟩
  refine ⟨κ1, ρ, μ1, hE.ext e1, s1, (wpS.bind (hE.ext e1) h1).mono fun d μ2 κ2 H2 e2 s2 h2 w rw' => ?_⟩
  split at h2
  · rename_i i
    split at h2
    · rename_i c' ns xs hx
      split at h2
      · rename_i hc
        simp only [Bool.and_eq_true, decide_eq_true_eq] at hc
        obtain ⟨rfl, hn, hl, h1000⟩ := hc
        simp only [Rel] at rw'
        obtain ⟨o', q1, q2⟩ := s2.at_ i _ hx
        obtain ⟨p, dx, vs, rfl, h3, h4, h5⟩ := q2
        have hw' := rw'.2 p q1
        subst hw'
        obtain ⟨k1, k2⟩ := ok c' (by simp)
        have hlv : xs.length = vs.length := h5.length
        refine ⟨p, g.cls c', dx, ns.zip vs, rfl, h3, by rw [xg.K]; exact k1, by rw [xg.K]; exact k2, by rw [List.length_zip]; omega, ?_⟩
        have hm : (ns.zip vs).map (·.1) = ns := by rw [List.map_fst_zip (by omega)]
        rw [putF_new (by rw [hm]; exact hn)]
        have hz : ns.zip vs ++ [(f, v)] = (ns ++ [f]).zip (vs ++ [v]) := by rw [List.zip_append h4]; rfl
        rw [hz]
        have ry := rv.ext e2
        have ex := Ext.write (o := .ins (g.cls c') dx ((ns ++ [f]).zip (vs ++ [v]))) s2 q1
        exact h2 κ2 _ σ ex (s2.write q1 ⟨p, dx, vs ++ [v], rfl, upd_same, by rw [List.length_append, List.length_append, h4]; rfl, (h5.append (RelL.cons ry RelL.nil)).ext ex⟩) (((hE.ext e1).ext e2).ext ex)
      · exact h2.elim
    · exact h2.elim
  · exact h2.elim
/-- what becomes of the instance that __init__ has filled: it is frozen -/
def mkR (n : Nat) (r : R DV) : R DV := match r with
  | .ok .non μ2 => finF n (.cell n) μ2
  | .ex c ns xs μ2 => finX n c ns xs μ2
  | _ => .stuck
def eMk (c : Nat) (F : Fn) (r : DA) : DE := fun ρ μ => (r ρ μ).bind fun xs μ1 => mkR μ1.length (F (.cell μ1.length :: xs) (μ1 ++ [.ins c [] []]))
theorem run_makeSD {k : Nat} {C f : Addr} {ps : List Str} {sp : Sp} {E : L2.St → XK} {pins : List (Addr × Obj)} {σ : L2.St} {H : Hp} {s : Shared} {Q : VK} {us : List Value} {vs : List V} (M : Mk X.K C f) (G : FnOk X.prog X.w X.K X.mg X.base (L2.CX X.prog X.w) k f fd ps sp) (hr : Room (k + 1) X.A)
    (hb : Binds X.K fd ps []) (hx : PassesAt (L2.CX X.prog X.w) X σ (E σ)) (I : Inv X pins σ H s) (r : Vals vs us)
    (h : ∀ x dx, H x = none → H dx = none → dx ≠ x → sp (.ref x :: vs) (upd (upd H dx (.own x)) x (.ins C dx [])) (fun v H2 => v = .non ∧ Q (.ref x) H2) (E σ)) :
    wpAny (model X.prog X.w) X.A (call (.ref C) us) (EP X pins σ Q) X.xe s := by
  have hq := h (s.heap.objs.size + 1) s.heap.objs.size (I.hok.fresh (Nat.le_succ _)) (I.hok.fresh (Nat.le_refl _)) (Nat.ne_of_lt (Nat.lt_succ_self _))
  have J := Inv.made (C := C) I
  have rs : Vals (V.ref (s.heap.objs.size + 1) :: vs) (Value.ref (s.heap.objs.size + 1) :: us) := .cons rfl r
  have el : (Value.ref (s.heap.objs.size + 1) :: us ++ []).length = ps.length := by
    rw [List.append_nil, ← rs.length]
    exact G.len _ _ _ _ hq
  have bt := hb _ (Value.ref (s.heap.objs.size + 1) :: us) J.kIn el
  rw [List.append_nil] at bt
  refine wpAny_call (make_map (f := f) I.kIn M.makes M.init (beq_iff_eq.mp M.fn) (codeAny_mono (G.run _ X.stack _ _ ⟨Value.ref (s.heap.objs.size + 1) :: us, []⟩ (Value.ref (s.heap.objs.size + 1) :: us) _ _ (E σ) (hr.make C us []) (J.env0.make C us []) bt rs hq) fun r s' z => ?_))
  match r, z with
  | .error e, z => exact hx pins _ _ e s' J z
  | .ok (.ret u), z =>
    obtain ⟨v, H', I3, rv, ev, q3⟩ := J.after z
    subst ev
    exact ⟨rv, ⟨V.ref (s.heap.objs.size + 1), H', I3, rfl, q3⟩⟩
  | .ok .next, z => exact False.elim z
  | .ok .brk, z => exact False.elim z
  | .ok .cont, z => exact False.elim z
/-- a class as those who make see it -/
structure MkG (P : Program) (w : World) (g : Gc) (mg : Str → Option Value) (base : Heap) (k : Nat) (x : Str) (c : Nat) (qual : Str) (st : Stmt) (ps : List Str) (F : Fn) : Prop where
  ex : ∃ (f : Addr) (fd : FuncData), mg x = some (.ref (g.cls c)) ∧ Mk g.K (g.cls c) f ∧ FunD g.K "__init__" qual (defArgs st) (defBody st) (defScope st) [] [] f fd ∧ FnOk P w g.K mg base (L2.CX P w) k f fd ps (spF g F ps.length)
theorem mk_read {σ : L2.St} {κ1 : KA} {H1 : Hp} {xs : List DV} {vs : List V} {μ1 : Sto} {np : Nat} {Q : VK} (ar : Ar F np) (rv : RelL g κ1 H1 xs vs) (s1 : StoOk g κ1 H1 μ1)
    (hh : wpR g W σ κ1 H1 (mkR μ1.length (F (.cell μ1.length :: xs) (μ1 ++ [.ins c [] []]))) (fun d _ κ' H' => ∀ v, Rel g κ' H' d v → Q v H')) {x dx : Addr} (nx : H1 x = none) (nd : H1 dx = none) (ne : dx ≠ x) :
    spF g F np (.ref x :: vs) (upd (upd H1 dx (.own x)) x (.ins (g.cls c) dx [])) (fun v H2 => v = .non ∧ Q (.ref x) H2) (WE W σ) := by
  have e1 : Ext κ1 H1 κ1 (upd H1 dx (.own x)) := Ext.new s1 nd
  have s2 : StoOk g κ1 (upd H1 dx (.own x)) μ1 := s1.new nd
  have nx2 : (upd H1 dx (.own x)) x = none := by rw [upd_ne fun e => ne e.symm]; exact nx
  have e2 : Ext κ1 (upd H1 dx (.own x)) (κ1.more x) (upd (upd H1 dx (.own x)) x (.ins (g.cls c) dx [])) := Ext.newCell s2 nx2
  have s3 : StoOk g (κ1.more x) (upd (upd H1 dx (.own x)) x (.ins (g.cls c) dx [])) (μ1 ++ [.ins c [] []]) := s2.newCell nx2 ⟨x, dx, [], rfl, upd_same, rfl, RelL.nil⟩
  have rc : Rel g (κ1.more x) (upd (upd H1 dx (.own x)) x (.ins (g.cls c) dx [])) (.cell μ1.length) (.ref x) := by
    simp only [Rel]
    refine ⟨by simp [s1.len, KA.more], fun a ha => ?_⟩
    have ha : (κ1.cs ++ [some x])[μ1.length]? = some (some a) := ha
    rw [← s1.len, List.getElem?_append_right (Nat.le_refl _)] at ha
    simp at ha
    rw [ha]
  have e12 := e1.trans e2
  refine sp_read (W := W) (σ := σ) ar (RelL.cons rc (rv.ext e12)) s3 ?_
  generalize F (.cell μ1.length :: xs) (μ1 ++ [.ins c [] []]) = out at hh
  cases out with
  | stuck => exact hh.elim
  | ok d μ2 =>
    cases d with
    | non =>
      intro κ3 H3 e3 s3' v rv'
      simp only [Rel] at rv'
      refine ⟨rv', ?_⟩
      have hh : wpR g W σ κ1 H1 (finF μ1.length (.cell μ1.length) μ2) (fun d _ κ' H' => ∀ v, Rel g κ' H' d v → Q v H') := hh
      cases ef : finF μ1.length (.cell μ1.length) μ2 with
      | ok d' μ'' =>
        rw [ef] at hh
        obtain ⟨κ'', e4, s4, r4⟩ := finF_ok s1 (e12.trans e3) s3' (rc.ext e3) ef
        exact hh κ'' H3 e4 s4 _ r4
      | ex c ns xs μ'' => exact (finF_no ef).elim
      | stuck => rw [ef] at hh; exact hh.elim
    | _ => exact hh.elim
  | ex c' ns ys μ2 =>
    intro κ3 H3 e3 s3' d vs' h1 h2 h3
    have hh : wpR g W σ κ1 H1 (finX μ1.length c' ns ys μ2) (fun d _ κ' H' => ∀ v, Rel g κ' H' d v → Q v H') := hh
    have e := e12.trans e3
    unfold finX at hh
    by_cases hl : μ2.length = μ1.length
    · rw [if_pos hl] at hh
      exact hh κ3 H3 e (by have := s3'.len; have h0 := e3.len; simp [KA.more] at h0; have := s1.len; omega) d vs' h1 h2 h3
    · rw [if_neg hl] at hh
      by_cases hc : ((μ2.take μ1.length).all (CO.low μ1.length) && lowL μ1.length ys) = true
      · rw [if_pos hc] at hh
        simp only [Bool.and_eq_true] at hc
        have hn : μ1.length ≤ κ3.cs.length := by rw [← s1.len]; exact e.len
        exact hh _ H3 (by rw [← s1.len]; exact e.cut) (s3'.cut hn (all_low hc.1)) d vs' h1.cut h2 (h3.cut hn hc.2)
      · rw [if_neg hc] at hh; exact hh.elim
theorem ge_mk {qual : Str} {st : Stmt} (G : MkG X.prog X.w g X.mg X.base k x c qual st ps F) (xg : XG g X) (ar : Ar F ps.length) (hr : Room (k + 1) X.A) (hg : Gl X x) (tk : Takes X W) (ha : GA g W X (e :: es) fr)
    (hb : ∀ (kV doc pm : Value) (an : Option Addr) (cdv ct : Value) (us : List Value), us.length = ps.length → bindArgs (PySem.W.fnOf "__init__" qual (defArgs st) (defBody st) (defScope st) .none kV doc pm an cdv ct) ⟨us, []⟩ = pure (ps.zip us))
    (hdb : (x == ("__debug__" : Str)) = false := by decide) (he : starEach (e :: es) X.env = (false, eval e X.env) :: starEach es X.env := by rfl) (hpl : (backTo pos (starEach es X.env)).any (·.1) = false := by rfl) :
    GE g W X (.Call (.Name x p) (e :: es) [] pos) (eMk c F fr) := by
  obtain ⟨f, fd, h1, h2, h3, h4⟩ := G.ex
  have eK : X.K = g.K := xg.K
  rw [← eK] at h2 h3 h4
  have bn : Binds X.K fd ps [] := h3.bindsN hb
  refine ⟨fun pins s σ H Q I h => ?_⟩
  obtain ⟨κ, ρ, μ, hE, hs, hw⟩ := h
  refine wpAny_Call_Name_kw (ld_glob I hg h1 ?_ hdb)
  refine PySem.W.callWith_K (h₀ := X.base) I.ok.mod.kin h2.kp (thn (ha.run pos pins s σ H (fun vs H1 => ∃ κ1 xs μ1, RelL g κ1 H1 xs vs ∧ StoOk g κ1 H1 μ1 ∧ wpR g W σ κ1 H1 (mkR μ1.length (F (.cell μ1.length :: xs) (μ1 ++ [.ins c [] []]))) (fun d _ κ' H' => ∀ v, Rel g κ' H' d v → Q v H')) I
    ⟨κ, ρ, μ, hE, hs, hw.bind.mono fun xs μ1 κ1 H1 e1 s1 hh vs rv => ⟨κ1, xs, μ1, rv, s1, hh⟩⟩) fun us s1 ⟨vs, H1, I1, r, κ1, xs, μ1, rv, so, hh⟩ => ⟨I1.kIn, ?_⟩) he hpl
  refine run_makeSD (E := fun σ => WE W σ) h2 h4 hr bn (passAt tk σ) I1 r fun a dx na nd ne => ?_
  exact mk_read ar rv so hh na nd ne
end
end SD

set_option Elab.async false
set_option linter.all false
set_option maxRecDepth 100000
set_option maxHeartbeats 4000000
namespace SD
open PySem PySem.Spec PyProof.Rows L2
section
variable {prog : Program} {w : World} {A : Around} {E : Value → Shared → Prop} {s : Shared} {K : PySem.W.Frag} {x C f : Addr} {ox : Obj} {od : Option Obj}
end
end SD

set_option Elab.async false
set_option linter.all false
set_option maxRecDepth 100000
set_option maxHeartbeats 4000000
namespace SD
open PySem PySem.Spec PyProof.Rows L2
section
variable {M : Model} {prog : Program} {w : World} {A : Around} {E : Value → Shared → Prop} {s : Shared} {K : PySem.W.Frag} {x C f : Addr} {ox : Obj} {od : Option Obj} {b tb : Value}
theorem objNe_K {Q : Fin → Shared → Prop} (X : K.In s.heap) (I : PySem.W.InstAt s.heap x ox C od) (hs : PySem.W.findIn K (.ref C) "__eq__" = some (some (.ref f))) (hf : PySem.W.isFn K (.ref f) = true) (hu : A.units < cLine)
    (hcall : wpAny (model prog w) A (call (.ref f) [.ref x, b]) (fun v s' => ∃ k, v = .bool k ∧ Q (.done (.ret (.bool (!k)))) s') E s) :
    wpAny (model prog w) A (Builtin.«object.__ne__» ⟨[.ref x, b], []⟩) Q E s := by
  unfold Builtin.«object.__ne__»
  repeat (first
    | with_reducible refine wpAny_cRoomFor hu ?_
    | (refine wpAny_bind (m := callSpecialIfBound? (.ref x) (Str.ofString "__eq__") [b])
        (PySem.W.ifBound_K X I hs hf (wpAny_mono hcall (fun r s' hr => by
          obtain ⟨k, rfl, hq⟩ := hr
          repeat (first | exact hq | exact wpAny_pure hq | exact wpAny_truthy_bool hq | (refine wpAny_bind (m := truthy (.bool _)) (wpAny_truthy_bool ?_)) | wp_step)) fun _ _ e => e)))
    | wp_step)
theorem ifBound_objNe {args : List Value} {Q : Option Value → Shared → Prop} (X : K.In s.heap) (I : PySem.W.InstAt s.heap x ox C od) (hs : PySem.W.findIn K (.ref C) "__ne__" = some (some (.builtin "object.__ne__")))
    (h : wpAny M A (call (.builtin "object.__ne__") (.ref x :: args)) (fun v => Q (some v)) E s) : wpAny M A (callSpecialIfBound? (.ref x) "__ne__" args) Q E s := by
  simp only [callSpecialIfBound?, bindSpecialIfBound?]
  refine wpAny_holding (wpAny_bind (wpAny_bind (wpAny_bind (I.type.here ((PySem.W.looks_findIn X hs).here ?_)))))
  refine wpAny_bind (wpAny_askSetting (wpAny_ite ?_))
  have fin : wpAny M A (call (.builtin "object.__ne__") ([.ref x] ++ args) >>= fun v => pure (some v)) Q E s := wpAny_bind (wpAny_mono h (fun v s' h' => wpAny_pure h') fun _ _ h' => h')
  split
  · exact wpAny_bind (wpAny_of_eq (F.cmp_object.ne.bind _) (wpAny_pure (by exact fin)))
  · exact wpAny_tryCatch (wpAny_bind (wpAny_of_eq (F.cmp_object.ne.bind _) (wpAny_pure (by exact fin))))
theorem ne_K {Q : Value → Shared → Prop} (hu : A.units + 1 < cLine) (X : K.In s.heap) (I : PySem.W.InstAt s.heap x ox C od) (hb : PySem.W.Looks (model prog w) s.heap (typeOf b) tb) (hn : PySem.W.notFirst K C tb = true)
    (hm : PySem.W.mroIn K C (.type "object") = some true) (hne : PySem.W.findIn K (.ref C) "__ne__" = some (some (.builtin "object.__ne__"))) (hs : PySem.W.findIn K (.ref C) "__eq__" = some (some (.ref f))) (hf : PySem.W.isFn K (.ref f) = true)
    (h : wpAny (model prog w) A.in1 (call (.ref f) [.ref x, b]) (fun v s' => ∃ k, v = .bool k ∧ Q (.bool (!k)) s') E s) : wpAny (model prog w) A (richCompare .NotEq (.ref x) b) Q E s := by
  have one : wpAny (model prog w) A (tryCompare (.ref x) (cmpInfo .NotEq).2.1 b) (fun r s' => ∃ v, r = some v ∧ Q v s') E s := by
    show wpAny (model prog w) A (tryCompare (.ref x) "__ne__" b) _ E s
    unfold tryCompare
    refine wpAny_bind (ifBound_objNe X I hne (wpAny_call (codeAny_call_builtin F.cmp_object.ne.plain F.cmpEntry_ne
      (PySem.W.check_slot F.cmpKind_ne F.cmpSplit_ne (I.type.andThen (PySem.W.looks_mroIn X hm)) (F.cmpArgs_ne _ _) (objNe_K X I hs hf hu (wpAny_mono h (fun v s' hv => ?_) fun _ _ e => e))))))
    obtain ⟨k, rfl, hq⟩ := hv
    first | exact ⟨k, rfl, wpAny_pure ⟨_, rfl, hq⟩⟩ | exact ⟨k, rfl, wpAny_pure (wpAny_pure ⟨_, rfl, hq⟩)⟩ | exact ⟨k, rfl, ⟨_, rfl, hq⟩⟩
  unfold richCompare
  simp only [oneThing_ref]
  refine wpAny_holding (wpAny_bind (wpAny_cRoomFor (Nat.lt_of_succ_lt hu) ?_))
  refine wpAny_bind (I.type.here (wpAny_bind (hb.here ?_)))
  split
  · rename_i q
    have e : PySem.W.subIn K tb (.ref C) = some false := by
      rcases Bool.or_eq_true_iff.mp hn with e | e
      · rw [beq_iff_eq.mp e] at q; simp at q
      · exact beq_iff_eq.mp e
    refine wpAny_bind ((PySem.W.looks_subIn X e).here ?_)
    simp only [Bool.false_eq_true, if_false]
    refine wpAny_bind (wpAny_mono one (fun r s' z => ?_) fun _ _ e => e)
    obtain ⟨v, rfl, hq⟩ := z
    exact wpAny_pure hq
  · refine wpAny_bind (wpAny_pure ?_)
    simp only [Bool.false_eq_true, if_false]
    refine wpAny_bind (wpAny_mono one (fun r s' z => ?_) fun _ _ e => e)
    obtain ⟨v, rfl, hq⟩ := z
    exact wpAny_pure hq
end
end SD

set_option Elab.async false
set_option linter.all false
set_option maxRecDepth 100000
set_option maxHeartbeats 4000000
namespace SD
open PySem PySem.Spec PyProof.Rows L2
/-- a def of a class as those who use it see it -/
structure MtG (P : Program) (w : World) (g : Gc) (mg : Str → Option Value) (base : Heap) (k c : Nat) (m : Str) (ps : List Str) (F : Fn) : Prop where
  ex : ∃ (f : Addr) (fd : FuncData), Cls g.K (g.cls c) ∧ Meth g.K (g.cls c) m f ∧ Binds g.K fd ps [] ∧ FnOk P w g.K mg base (L2.CX P w) k f fd ps (spF g F ps.length)
section
variable {P : Program} {w : World} {g : Gc} {mg : Str → Option Value} {base : Heap} {k c : Nat} {m qual : Str} {st : Stmt} {N ps : List Str} {md : Md} {fb : DS} {f : Addr}
theorem mt_of (hc : Cls g.K (g.cls c)) (hm : Meth g.K (g.cls c) m f) (hF : ∃ fd, FunD g.K m qual (defArgs st) (defBody st) (defScope st) [] [] f fd) (S : FnScope N ps (defScope st))
    (bn : ∀ (kV doc pm : Value) (an : Option Addr) (cdv ct : Value) (us : List Value), us.length = ps.length → bindArgs (PySem.W.fnOf m qual (defArgs st) (defBody st) (defScope st) .none kV doc pm an cdv ct) ⟨us, []⟩ = pure (ps.zip us))
    (hb : ∀ (cdv : Value) (A : Around) (outer : List Env) (s : Shared) (H : Hp) (E : XK), Room k (A.deeper (envOfC qual (defScope st) s.heap.objs.size f cdv)) → GSs g (WF E) (cxOf (L2.CX P w) P w g.K mg base N qual (defScope st) f cdv A outer s H E) (defBody st) fb) :
    MtG P w g mg base (k + 1) c m ps (runF md ps.length N.length fb) := by
  obtain ⟨fd, F⟩ := hF
  exact ⟨f, fd, hc, hm, F.bindsN bn, gf_ok F S hb⟩
theorem mk_of (x : Str) (hx : mg x = some (.ref (g.cls c))) (hm : Mk g.K (g.cls c) f) (hF : ∃ fd, FunD g.K "__init__" qual (defArgs st) (defBody st) (defScope st) [] [] f fd) (S : FnScope N ps (defScope st))
    (hb : ∀ (cdv : Value) (A : Around) (outer : List Env) (s : Shared) (H : Hp) (E : XK), Room k (A.deeper (envOfC qual (defScope st) s.heap.objs.size f cdv)) → GSs g (WF E) (cxOf (L2.CX P w) P w g.K mg base N qual (defScope st) f cdv A outer s H E) (defBody st) fb) :
    MkG P w g mg base (k + 1) x c qual st ps (runF md ps.length N.length fb) := by
  obtain ⟨fd, F⟩ := hF
  exact ⟨f, fd, hx, hm, F, gf_ok F S hb⟩
end
section
variable {X : Cx} {k : Nat} {f : Addr} {fd : FuncData} {ps : List Str} {sp : Sp} {A : Around} {pins : List (Addr × Obj)} {σ : L2.St} {H : Hp} {s : Shared}
theorem run_in (G : FnOk X.prog X.w X.K X.mg X.base (L2.CX X.prog X.w) k f fd ps sp) (hb : Binds X.K fd ps []) (hr : Room k A) (env : Env0 X.prog X.w X.K X.mg X.base A X.stack s H) (I : Inv X pins σ H s) {us : List Value} {vs : List V} (r : Vals vs us) {Q : VK} (h : sp vs H Q E0) {E' : Value → Shared → Prop} :
    wpAny (model X.prog X.w) A (call (.ref f) us) (EP X pins σ Q) E' s := by
  have el : (us ++ ([] : List Value)).length = ps.length := by
    rw [List.append_nil, ← r.length]
    exact G.len _ _ _ _ h
  have bt := hb s us I.kIn el
  rw [List.append_nil] at bt
  refine wpAny_call (codeAny_mono (G.run A X.stack s H ⟨us, []⟩ us vs Q E0 hr env bt r h) fun r s' z => ?_)
  match r, z with
  | .error e, z => exact (noCXE z).elim
  | .ok (.ret u), z => exact I.after z
  | .ok .next, z => exact False.elim z
  | .ok .brk, z => exact False.elim z
  | .ok .cont, z => exact False.elim z
end
theorem wpR_nox {g : Gc} {W : WX} {σ τ : L2.St} {κ : KA} {H : Hp} {r : R DV} {Φ : DV → Sto → KA → Hp → Prop} (h : wpR g W σ κ H r.nox Φ) : wpR g W0 τ κ H r Φ := by
  cases r with
  | ok a μ => exact h
  | ex c ns xs μ => exact h.elim
  | stuck => exact h.elim
section
variable {g : Gc} {W : WX} {X : Cx} {e : Expr} {es : List Expr} {fr : DA} {pos p : Pos} {x : Str} {F : Fn} {k c : Nat}
def insC (μ : Sto) (c : Nat) (d : DV) : Bool := match insOf μ d with
  | some (c', _, _) => c' == c
  | none => false
theorem insC_rel {κ : KA} {H : Hp} {μ : Sto} {d : DV} {v : V} (s : StoOk g κ H μ) (r : Rel g κ H d v) (h : insC μ c d = true) : ∃ a dx fs, v = .ref a ∧ H a = some (.ins (g.cls c) dx fs) := by
  unfold insC at h
  split at h
  · rename_i c' ns xs hi
    have : c' = c := by simpa using h
    subst this
    obtain ⟨a, dx, vs, h1, h2, _⟩ := insOf_rel s r hi
    exact ⟨a, dx, _, h1, h2⟩
  · cases h
/-- what the def answers, turned -/
def ownR (F : Fn) (t : DV → Option DV) (ds : List DV) (μ : Sto) : R DV := (F ds μ).nox.bind fun z μ2 => R.of (t z) μ2
theorem own_sp {κ : KA} {H : Hp} {μ : Sto} {ds : List DV} {vs : List V} {t : DV → Option DV} {Q Q' : VK} {np : Nat} (rd : RelL g κ H ds vs) (so : StoOk g κ H μ) (hl : ds.length = np) (h : wpR g W0 [] κ H (ownR F t ds μ) (fun d _ κ' H' => ∀ v, Rel g κ' H' d v → Q v H'))
    (hq : ∀ z v κ' H' z', t z = some z' → Rel g κ' H' z v → (∀ v, Rel g κ' H' z' v → Q v H') → Q' v H') : spF g F np vs H Q' E0 := by
  refine ⟨by rw [← rd.length, hl], κ, ds, μ, rd, so, ?_⟩
  unfold ownR at h
  generalize F ds μ = out at h
  cases out with
  | stuck => exact h.elim
  | ex c ns xs μ2 => exact h.elim
  | ok z μ2 =>
    intro κ' H' e' s' v rv
    have h : wpR g W0 [] κ H (R.of (t z) μ2) (fun d _ κ' H' => ∀ v, Rel g κ' H' d v → Q v H') := h
    cases ht : t z with
    | none => rw [ht] at h; exact h.elim
    | some z' =>
      rw [ht] at h
      exact hq z v κ' H' z' ht rv (h κ' H' e' s')
theorem ins_at {pins : List (Addr × Obj)} {σ : L2.St} {H : Hp} {s : Shared} {a C dx : Addr} {fs : List (Str × V)} (I : Inv X pins σ H s) (h : H a = some (.ins C dx fs)) : ∃ ox od, PySem.W.InstAt s.heap a ox C od := by
  obtain ⟨mA, J, _⟩ := ins_get I.hok h
  obtain ⟨od, J, _⟩ := J.look
  exact ⟨_, _, J⟩
end
end SD

set_option Elab.async false
set_option linter.all false
set_option maxRecDepth 100000
set_option maxHeartbeats 4000000
namespace SD
open PySem PySem.Spec PyProof.Rows L2
theorem lookup_zip_none {β : Type} {m : Str} : ∀ {ns : List Str} {vs : List β}, ns.contains m = false → (ns.zip vs).lookup m = none
  | [], _, _ => by simp
  | n :: ns, [], _ => by simp
  | n :: ns, v :: vs, h => by
    rw [List.contains_cons, Bool.or_eq_false_iff] at h
    rw [List.zip_cons_cons]
    simp only [List.lookup, h.1]
    exact lookup_zip_none h.2
section
variable {g : Gc} {W : WX} {X : Cx} {e o : Expr} {es : List Expr} {fe fo : DE} {fr : DA} {m : Str} {c k : Nat} {pos apos : Pos} {ps : List Str} {F : Fn}
/-- o.m(..), o an instance of c -/
def eMt (c : Nat) (m : Str) (F : Fn) (o : DE) (r : DA) : DE := fun ρ μ => (o ρ μ).bind fun d μ1 => match insOf μ1 d with
  | some (c', ns, _) => if (c' == c && !ns.contains m) = true then (r ρ μ1).bind fun ys μ2 => F (d :: ys) μ2 else .stuck
  | none => .stuck
theorem mt_obj {σ : L2.St} {κ : KA} {H : Hp} {ρ : En} {μ : Sto} {Q : VK} (hw : wpR g W σ κ H (eMt c m F fo fr ρ μ) (fun d _ κ' H' => ∀ v, Rel g κ' H' d v → Q v H')) (hE : RelE g κ H ρ σ) :
    wpR g W σ κ H (fo ρ μ) (fun d μ1 κ1 H1 => ∀ v, Rel g κ1 H1 d v → ∃ ns xs, RelE g κ1 H1 ρ σ ∧ StoOk g κ1 H1 μ1 ∧ Rel g κ1 H1 d v ∧ insOf μ1 d = some (c, ns, xs) ∧ ns.contains m = false ∧ wpR g W σ κ1 H1 ((fr ρ μ1).bind fun ys μ2 => F (d :: ys) μ2) (fun d _ κ' H' => ∀ v, Rel g κ' H' d v → Q v H')) := by
  refine (wpR.bind (show wpR g W σ κ H ((fo ρ μ).bind fun d μ1 => match insOf μ1 d with
    | some (c', ns, _) => if (c' == c && !ns.contains m) = true then (fr ρ μ1).bind fun ys μ2 => F (d :: ys) μ2 else .stuck
    | none => .stuck) _ from hw)).mono fun d μ1 κ1 H1 e1 s1 h1 v rv => ?_
  cases hi : insOf μ1 d with
  | none => rw [hi] at h1; exact h1.elim
  | some t =>
    obtain ⟨c', ns, xs⟩ := t
    rw [hi] at h1
    by_cases hc : (c' == c && !ns.contains m) = true
    · simp only [if_pos hc] at h1
      simp only [Bool.and_eq_true, beq_iff_eq, Bool.not_eq_true'] at hc
      obtain ⟨rfl, hn⟩ := hc
      exact ⟨ns, xs, hE.ext e1, s1, rv, rfl, hn, h1⟩
    · simp only [if_neg hc] at h1; exact h1.elim
theorem ge_mt {pl : Sem Bool} (G : MtG X.prog X.w g X.mg X.base k c m ps F) (xg : XG g X) (ar : Ar F ps.length) (hr : Room k X.A) (tk : Takes X W) (ho : GE g W X o fo) (ha : GA g W X (e :: es) fr)
    (hst : starEach (e :: es) X.env = (false, eval e X.env) :: starEach es X.env := by rfl) (hpl : (backTo pos (starEach es X.env)).any (·.1) = false := by rfl)
    (ht : eval (.Call (.Attribute o m apos) (e :: es) [] pos) X.env = (do
      let ov ← eval o X.env
      standAt apos.atName
      let (f, first) ← holding [ov] (getMethod ov m pl)
      callWith pos f first (backTo pos (starEach (e :: es) X.env)) (backToKw pos (keywordEach [] X.env))) := by rfl) :
    GE g W X (.Call (.Attribute o m apos) (e :: es) [] pos) (eMt c m F fo fr) := by
  obtain ⟨f, fd, hc, M, bn, FO⟩ := G.ex
  rw [← xg.K] at hc M bn FO
  refine ⟨fun pins s σ H Q I h => ?_⟩
  obtain ⟨κ, ρ, μ, hE, hs, hw⟩ := h
  refine PySem.W.methodCall_KW (pl := pl) (thn (ho.run pins s σ H (fun x H1 => ∃ κ1 d μ1 ns xs, RelE g κ1 H1 ρ σ ∧ StoOk g κ1 H1 μ1 ∧ Rel g κ1 H1 d x ∧ insOf μ1 d = some (c, ns, xs) ∧ ns.contains m = false ∧ wpR g W σ κ1 H1 ((fr ρ μ1).bind fun ys μ2 => F (d :: ys) μ2) (fun d _ κ' H' => ∀ v, Rel g κ' H' d v → Q v H')) I
    ⟨κ, ρ, μ, hE, hs, (mt_obj hw hE).mono fun d μ1 κ1 H1 e1 s1 h1 v rv => let ⟨ns, xs, a1, a2, a3, a4, a5, a6⟩ := h1 v rv; ⟨κ1, d, μ1, ns, xs, a1, a2, a3, a4, a5, a6⟩⟩) fun u s1 ⟨x, H1, I1, rx, κ1, d, μ1, ns, xs, rE, so, rd, hi, hn, hh⟩ => ?_) ht
  obtain ⟨a, dx, vs, rfl, h2, h3, h4⟩ := insOf_rel so rd hi
  obtain rfl : u = Value.ref a := rx
  refine getmeth_ok I1 h2 hc M (lookup_zip_none hn) ?_
  refine PySem.W.callWith_K (first := [.ref a]) (h₀ := X.base) I.ok.mod.kin M.kp (thn (ha.run pos pins s1 σ H1 (fun ws H2 => ∃ κ2 ys μ2, RelL g κ2 H2 ys ws ∧ StoOk g κ2 H2 μ2 ∧ Rel g κ2 H2 d (.ref a) ∧ wpR g W σ κ2 H2 (F (d :: ys) μ2) (fun d _ κ' H' => ∀ v, Rel g κ' H' d v → Q v H')) I1
    ⟨κ1, ρ, μ1, rE, so, hh.bind.mono fun ys μ2 κ2 H2 e2 s2 h2 ws rw' => ⟨κ2, ys, μ2, rw', s2, rd.ext e2, h2⟩⟩) fun us s2 ⟨ws, H2, I2, r, κ2, ys, μ2, rys, so2, rd2, hh2⟩ => ⟨I2.kIn, ?_⟩) hst hpl
  refine run_fnSD (E := fun σ => WE W σ) (us := .ref a :: us) (vs := .ref a :: ws) (dvs := []) (ds := []) FO hr bn .nil (passAt tk σ) I2 (.cons rfl r) ?_
  rw [List.append_nil]
  exact sp_read ar (RelL.cons rd2 rys) so2 hh2
theorem ge_mt0 {pl : Sem Bool} (G : MtG X.prog X.w g X.mg X.base k c m ["self"] F) (xg : XG g X) (ar : Ar F 1) (hr : Room k X.A) (tk : Takes X W) (ho : GE g W X o fo)
    (ht : eval (.Call (.Attribute o m apos) [] [] pos) X.env = (do
      let ov ← eval o X.env
      standAt apos.atName
      let (f, first) ← holding [ov] (getMethod ov m pl)
      callWith pos f first (backTo pos (starEach [] X.env)) (backToKw pos (keywordEach [] X.env))) := by rfl) :
    GE g W X (.Call (.Attribute o m apos) [] [] pos) (eMt c m F fo aNil) := by
  obtain ⟨f, fd, hc, M, bn, FO⟩ := G.ex
  rw [← xg.K] at hc M bn FO
  refine ⟨fun pins s σ H Q I h => ?_⟩
  obtain ⟨κ, ρ, μ, hE, hs, hw⟩ := h
  refine PySem.W.methodCall_KW (pl := pl) (thn (ho.run pins s σ H (fun x H1 => ∃ κ1 d μ1 ns xs, RelE g κ1 H1 ρ σ ∧ StoOk g κ1 H1 μ1 ∧ Rel g κ1 H1 d x ∧ insOf μ1 d = some (c, ns, xs) ∧ ns.contains m = false ∧ wpR g W σ κ1 H1 ((aNil ρ μ1).bind fun ys μ2 => F (d :: ys) μ2) (fun d _ κ' H' => ∀ v, Rel g κ' H' d v → Q v H')) I
    ⟨κ, ρ, μ, hE, hs, (mt_obj hw hE).mono fun d μ1 κ1 H1 e1 s1 h1 v rv => let ⟨ns, xs, a1, a2, a3, a4, a5, a6⟩ := h1 v rv; ⟨κ1, d, μ1, ns, xs, a1, a2, a3, a4, a5, a6⟩⟩) fun u s1 ⟨x, H1, I1, rx, κ1, d, μ1, ns, xs, rE, so, rd, hi, hn, hh⟩ => ?_) ht
  obtain ⟨a, dx, vs, rfl, h2, h3, h4⟩ := insOf_rel so rd hi
  obtain rfl : u = Value.ref a := rx
  refine getmeth_ok I1 h2 hc M (lookup_zip_none hn) ?_
  exact PySem.W.callWith_K0 (first := [.ref a]) I1.kIn M.kp (run_fnSD (E := fun σ => WE W σ) (us := [.ref a]) (vs := [.ref a]) (dvs := []) (ds := []) FO hr bn .nil (passAt tk σ) I1 (.cons rfl .nil) (sp_read ar (RelL.cons rd RelL.nil) so hh))
structure PrG (P : Program) (w : World) (g : Gc) (mg : Str → Option Value) (base : Heap) (k c : Nat) (m : Str) (F : Fn) : Prop where
  ex : ∃ (p f : Addr) (fd : FuncData), Cls g.K (g.cls c) ∧ PropOf g.K (g.cls c) m p f ∧ Binds g.K fd ["self"] [] ∧ FnOk P w g.K mg base (L2.CX P w) k f fd ["self"] (spF g F 1)
def eProp (c : Nat) (F : Fn) (o : DE) : DE := fun ρ μ => (o ρ μ).bind fun d μ1 => if insC μ1 c d = true then (F [d] μ1).nox else .stuck
theorem ge_prop (G : PrG X.prog X.w g X.mg X.base k c m F) (xg : XG g X) (ar : Ar F 1) (hr : Room (k + 1) X.A) (ho : GE g W X o fo) (hab : attributeBase o m X.env (eval o X.env) = eval o X.env := by rfl) : GE g W X (.Attribute o m pos) (eProp c F fo) := by
  obtain ⟨p, f, fd, hc, M, bn, FO⟩ := G.ex
  rw [← xg.K] at hc M bn FO
  refine ⟨fun pins s σ H Q I h => ?_⟩
  obtain ⟨κ, ρ, μ, hE, hs, hw⟩ := h
  refine attr_of hab (thn (ho.run pins s σ H (fun x H1 => ∃ κ1 d μ1, StoOk g κ1 H1 μ1 ∧ Rel g κ1 H1 d x ∧ insC μ1 c d = true ∧ wpR g W0 [] κ1 H1 (F [d] μ1) (fun d _ κ' H' => ∀ v, Rel g κ' H' d v → Q v H')) I
    ⟨κ, ρ, μ, hE, hs, (wpR.bind (show wpR g W σ κ H ((fo ρ μ).bind fun d μ1 => if insC μ1 c d = true then (F [d] μ1).nox else .stuck) _ from hw)).mono fun d μ1 κ1 H1 e1 s1 h1 v rv => ?_⟩) fun u s1 ⟨x, H1, I1, rx, κ1, d, μ1, so, rd, hi, hh⟩ => ?_)
  · by_cases hi : insC μ1 c d = true
    · rw [if_pos hi] at h1
      exact ⟨κ1, d, μ1, s1, rv, hi, wpR_nox h1⟩
    · rw [if_neg hi] at h1; exact h1.elim
  · obtain ⟨a, dx, fs, rfl, hH⟩ := insC_rel so rd hi
    obtain rfl : u = Value.ref a := rx
    refine getprop_ok (dvs := []) (ds := []) I1 hH hc M FO hr bn .nil (fun _ _ _ _ _ _ _ z => (noCXE z).elim) ?_
    exact ⟨rfl, κ1, [d], μ1, RelL.cons rd RelL.nil, so, hh⟩
def r2F (g : Gc) (F : DV → DV → Sto → R DV) : R2 := fun x y H Q => ∃ κ d e μ, Rel g κ H d x ∧ Rel g κ H e y ∧ StoOk g κ H μ ∧ wpR g W0 [] κ H (F d e μ) (fun z _ κ' H' => ∀ v, Rel g κ' H' z v → Q v H')
def eBinO (F : DV → DV → Sto → R DV) (a b : DE) : DE := fun ρ μ => (a ρ μ).bind fun x μ1 => (b ρ μ1).bind fun y μ2 => (F x y μ2).nox
def tBl : DV → Option DV
  | .bl b => some (.bl b)
  | _ => none
def tNbl : DV → Option DV
  | .bl b => some (.bl (!b))
  | _ => none
/-- what stands on the right: not of a class below c -/
def okTy (μ : Sto) (c : Nat) (e : DV) : Bool := insC μ c e || match e with
  | .str _ | .int _ | .bl _ | .non | .tup _ | .lst _ => true
  | _ => false
def eqOw (c : Nat) (F : Fn) (d e : DV) (μ : Sto) : R DV := if insC μ c d = true then (if okTy μ c e = true then ownR F tBl [d, e] μ else .stuck) else R.of (vEq d e μ) μ
def neOw (c : Nat) (F : Fn) (d e : DV) (μ : Sto) : R DV := if insC μ c d = true then (if okTy μ c e = true then ownR F tNbl [d, e] μ else .stuck) else R.of (vNe d e μ) μ
theorem sub_ty {K : PySem.W.Frag} {C : Addr} {T : String} (h : ∃ l : List String, fastBuiltinMro T = some (l.map Value.type)) : PySem.W.subIn K (.type T) (.ref C) = some false := by
  obtain ⟨l, e⟩ := h
  show (fastBuiltinMro T).map (·.contains (.ref C)) = some false
  rw [e]
  show some ((l.map Value.type).contains (.ref C)) = some false
  congr 1
  induction l with
  | nil => rfl
  | cons a l ih => simpa using ih
theorem notFirst_ty {K : PySem.W.Frag} {C : Addr} {T : String} (h : ∃ l : List String, fastBuiltinMro T = some (l.map Value.type)) : PySem.W.notFirst K C (.type T) = true := by
  unfold PySem.W.notFirst
  rw [sub_ty h]
  simp
theorem looks_ty {M : Model} {s : Shared} {v : Value} {T : String} (h : ∀ s' : Shared, (∀ b o, s.heap.get? b = some o → s'.heap.get? b = some o) → s'.TypeIs v T) : PySem.W.Looks M s.heap (typeOf v) (.type T) := fun A Q E s' k q => wpAny_typeOf (h s' k) q
theorem ty_looks {pins : List (Addr × Obj)} {σ : L2.St} {H : Hp} {s : Shared} {κ : KA} {μ : Sto} {d : DV} {y : V} {u : Value} {C : Addr} (xg : XG g X) (eC : C = g.cls c) (I : Inv X pins σ H s) (so : StoOk g κ H μ) (rd : Rel g κ H d y) (ry : RelV y u) (h : okTy μ c d = true) :
    ∃ tb, PySem.W.Looks (model X.prog X.w) s.heap (typeOf u) tb ∧ PySem.W.notFirst X.K C tb = true := by
  unfold okTy at h
  rw [Bool.or_eq_true] at h
  rcases h with h | h
  · obtain ⟨a, dx, fs, rfl, hH⟩ := insC_rel so rd h
    obtain rfl : u = Value.ref a := ry
    obtain ⟨ox, od, J⟩ := ins_at I hH
    exact ⟨_, J.type, by rw [eC]; simp [PySem.W.notFirst]⟩
  · cases d with
    | str z =>
      simp only [Rel] at rd
      subst rd
      obtain ⟨t, rfl⟩ := (show ∃ t, u = Value.str z t from ry)
      exact ⟨_, looks_ty (T := "str") fun s' _ => typeIs_str _ _ _, notFirst_ty ⟨["str", "object"], by decide +kernel⟩⟩
    | int z =>
      simp only [Rel] at rd
      subst rd
      obtain ⟨t, rfl⟩ := (show ∃ t, u = Value.int z t from ry)
      exact ⟨_, looks_ty (T := "int") fun s' _ => PySem.typeIs_int _ _ _, notFirst_ty ⟨["int", "object"], by decide +kernel⟩⟩
    | bl z =>
      simp only [Rel] at rd
      subst rd
      obtain rfl := (show u = Value.bool z from ry)
      exact ⟨_, looks_ty (T := "bool") fun s' _ => PySem.typeIs_bool _ _, notFirst_ty ⟨["bool", "int", "object"], by decide +kernel⟩⟩
    | non =>
      simp only [Rel] at rd
      subst rd
      obtain rfl := (show u = Value.none from ry)
      exact ⟨_, looks_ty (T := "NoneType") fun s' _ => (show s'.TypeIs .none "NoneType" from rfl), notFirst_ty ⟨["NoneType", "object"], by decide +kernel⟩⟩
    | tup xs =>
      obtain ⟨a, vs, rfl, h2, _⟩ := tup_rel rd
      obtain rfl : u = Value.ref a := ry
      rw [← xg.K] at h2
      obtain ⟨its, _, ⟨o, ho, hcl, _⟩, _⟩ := I.tuple h2
      exact ⟨_, looks_ty (T := "tuple") fun s' k => ⟨o, k _ _ ho, hcl⟩, notFirst_ty ⟨["tuple", "object"], by decide +kernel⟩⟩
    | lst xs =>
      simp only [Rel] at rd
      obtain ⟨a, vs, rfl, h2, _⟩ := rd
      obtain rfl : u = Value.ref a := ry
      obtain ⟨its, _, ⟨o, n, ho, hcl, _⟩, _⟩ := I.list (a := a) (xs := vs) (.inl (.inl h2.1))
      exact ⟨_, looks_ty (T := "list") fun s' k => ⟨o, k _ _ ho, hcl⟩, notFirst_ty ⟨["list", "object"], by decide +kernel⟩⟩
    | _ => cases h
theorem opEqO (xg : XG g X) (hu : X.A.units + 64 < cLine) (G : MtG X.prog X.w g X.mg X.base k c "__eq__" ["self", "other"] F) (hr : Room k X.A) : OpR X (compareOp .Eq) (r2F g (eqOw c F)) := by
  intro pins s σ H x y v u Q I rx ry h
  obtain ⟨κ, d, e, μ, rd, re, so, ho⟩ := h
  unfold eqOw at ho
  split at ho
  · rename_i hi
    split at ho
    · rename_i ht
      obtain ⟨a, dx, fs, rfl, hH⟩ := insC_rel so rd hi
      obtain rfl : v = Value.ref a := rx
      obtain ⟨f, fd, hc, M, bn, FO⟩ := G.ex
      rw [← xg.K] at hc M bn FO
      obtain ⟨tb, lk, nf⟩ := ty_looks (C := g.cls c) xg rfl I so re ry ht
      obtain ⟨ox, od, J⟩ := ins_at I hH
      obtain ⟨m, hF⟩ := I.fr
      show wpAny (model X.prog X.w) X.A (richCompare .Eq (.ref a) u) (EP X pins σ Q) X.xe s
      refine PySem.W.cmp_K (op := .Eq) hr.units0 hF I.ok.mod.kin J lk nf M.at_ M.fn (wpAny_mono (run_in FO bn hr I.env0 I (show Vals [V.ref a, y] [Value.ref a, u] from .cons rfl (.cons ry .nil)) (own_sp (Q' := fun z H' => ∃ b : Bool, z = .bl b ∧ Q (.bl b) H') (RelL.cons rd (RelL.cons re RelL.nil)) so rfl ho fun z v κ' H' z' ht rz hq => ?_)) (fun w s' z => ?_) fun _ _ y => y)
      · unfold tBl at ht
        split at ht
        · cases ht
          simp only [Rel] at rz
          subst rz
          exact ⟨_, rfl, hq _ (by simp [Rel])⟩
        · cases ht
      · obtain ⟨z', H', I', rz, b, rfl, q⟩ := z
        obtain rfl := (show w = Value.bool b from rz)
        exact ⟨.bl b, H', I', rfl, q⟩
    · exact ho.elim
  · exact opEq xg hu pins s σ H x y v u Q I rx ry ⟨κ, d, e, μ, rd, re, so, out_of ho⟩
theorem opNeO (xg : XG g X) (hu : X.A.units + 64 < cLine) (G : MtG X.prog X.w g X.mg X.base k c "__eq__" ["self", "other"] F) (hr : Room (k + 1) X.A) (hm : PySem.W.mroIn g.K (g.cls c) (.type "object") = some true)
    (hne : PySem.W.findIn g.K (.ref (g.cls c)) "__ne__" = some (some (.builtin "object.__ne__"))) : OpR X (compareOp .NotEq) (r2F g (neOw c F)) := by
  intro pins s σ H x y v u Q I rx ry h
  obtain ⟨κ, d, e, μ, rd, re, so, ho⟩ := h
  unfold neOw at ho
  split at ho
  · rename_i hi
    split at ho
    · rename_i ht
      obtain ⟨a, dx, fs, rfl, hH⟩ := insC_rel so rd hi
      obtain rfl : v = Value.ref a := rx
      obtain ⟨f, fd, hc, M, bn, FO⟩ := G.ex
      rw [← xg.K] at hc M bn FO hm hne
      obtain ⟨tb, lk, nf⟩ := ty_looks (C := g.cls c) xg rfl I so re ry ht
      obtain ⟨ox, od, J⟩ := ins_at I hH
      show wpAny (model X.prog X.w) X.A (richCompare .NotEq (.ref a) u) (EP X pins σ Q) X.xe s
      refine ne_K (by omega) I.kIn J lk nf hm hne M.at_ M.fn (wpAny_mono (run_in FO bn hr.in1 I.env0.in1 I (show Vals [V.ref a, y] [Value.ref a, u] from .cons rfl (.cons ry .nil)) (own_sp (Q' := fun z H' => ∃ b : Bool, z = .bl b ∧ Q (.bl (!b)) H') (RelL.cons rd (RelL.cons re RelL.nil)) so rfl ho fun z v κ' H' z' ht rz hq => ?_)) (fun w s' z => ?_) fun _ _ y => y)
      · unfold tNbl at ht
        split at ht
        · cases ht
          simp only [Rel] at rz
          subst rz
          exact ⟨_, rfl, hq _ (by simp [Rel])⟩
        · cases ht
      · obtain ⟨z', H', I', rz, b, rfl, q⟩ := z
        obtain rfl := (show w = Value.bool b from rz)
        exact ⟨b, rfl, .bl (!b), H', I', rfl, q⟩
    · exact ho.elim
  · exact opNe xg hu pins s σ H x y v u Q I rx ry ⟨κ, d, e, μ, rd, re, so, out_of ho⟩
theorem binO_read {G : DV → DV → Sto → R DV} {a b : Expr} {fa fb : DE} {σ : L2.St} {H : Hp} {Q : VK} (q : tE g W (eBinO G fa fb) σ H Q) : tOp (r2F g G) (tE g W fa) (tE g W fb) σ H Q := by
  obtain ⟨κ, ρ, μ, he, hs, hw⟩ := q
  refine ⟨κ, ρ, μ, he, hs, hw.bind.mono fun x μ1 κ1 H1 e1 s1 h1 v rv => ?_⟩
  refine ⟨κ1, ρ, μ1, he.ext e1, s1, h1.bind.mono fun y μ2 κ2 H2 e2 s2 h2 w rw => ?_⟩
  exact ⟨κ2, x, y, μ2, rv.ext e2, rw, s2, wpR_nox h2⟩
theorem ge_cmpO {G : DV → DV → Sto → R DV} {a b : Expr} {fa fb : DE} {op : CmpOp} (ho : OpR X (compareOp op) (r2F g G)) (ha : GE g W X a fa) (hb : GE g W X b fb) (hm : behindInMarks op b = false) : GE g W X (.Compare a [op] [b] pos) (eBinO G fa fb) :=
  PE.imp (pe_cmpR ho ha hb hm) fun _ _ _ q => binO_read (a := a) (b := b) q
theorem gt_cmpO {G : DV → DV → Sto → R DV} {a b : Expr} {fa fb : DE} {op : CmpOp} (ho : OpR X (compareOp op) (r2F g G)) (ha : GE g W X a fa) (hb : GE g W X b fb) (hm : behindInMarks op b = false) : GT g W X (.Compare a [op] [b] pos) (tB' (eBinO G fa fb)) :=
  PT.imp (pt_cmpR ho ha hb hm) fun _ _ _ q => test_read (fun _ _ _ z => binO_read (a := a) (b := b) z) q
end
end SD

set_option Elab.async false
set_option linter.all false
set_option maxRecDepth 100000
set_option maxHeartbeats 4000000
namespace SD
open PySem PySem.Spec PyProof.Rows L2 He

/-- a property: its class, its name, its getter -/
structure GetD where
  cls : Str
  prop : Str
  name : Str
  qual : Str
  params : Arguments
  body : List Stmt
  scope : Scope
  /-- a classmethod, no property -/
  cm : Bool := false
/-- the getter's address -/
def gtA (K : PySem.W.Frag) (x f : Str) : Addr := match PySem.W.recIn K (ma K (ga K x) f) "property" with
  | some (.ref a :: _) => a
  | _ => 0
def cmA (K : PySem.W.Frag) (x m : Str) : Addr := match PySem.W.recIn K (ma K (ga K x) m) "classmethod" with
  | some (.ref a :: _) => a
  | _ => 0
def cmB (x m : Str) (K : PySem.W.Frag) : Bool := PySem.W.readsIn K (ga K x) (.type "type") && (He.eqO (PySem.W.specialIn K (.ref (ga K x)) "__getattribute__") (some (some (.builtin "type.__getattribute__"))) &&
  (He.eqO (PySem.W.findIn K (.type "type") m) (some none) && (He.eqO (PySem.W.findIn K (.ref (ga K x)) m) (some (some (.ref (ma K (ga K x) m)))) && (!Builtin.heldUnderItsOwnName m (.ref (ma K (ga K x) m)) &&
  (decide (PySem.W.typeIn K (.ref (ma K (ga K x) m)) = some (.type "classmethod")) && (He.eqO (PySem.W.specialIn K (.ref (ma K (ga K x) m)) "__get__") (some (some (.builtin "classmethod.__get__"))) &&
  ((match PySem.W.recIn K (ma K (ga K x) m) "classmethod" with | some (.ref _ :: _) => true | _ => false) && PySem.W.fnIn K (cmA K x m))))))))
theorem cmB_ok {K : PySem.W.Frag} {x m : Str} (h : cmB x m K = true) : ClX.CRead K (ga K x) (.type "type") ∧ ClX.CMet K (ga K x) (.type "type") m (ma K (ga K x) m) (cmA K x m) := by
  unfold cmB at h
  obtain ⟨a1, h⟩ := ba h
  obtain ⟨a2, h⟩ := ba h
  obtain ⟨a3, h⟩ := ba h
  obtain ⟨a4, h⟩ := ba h
  obtain ⟨a5, h⟩ := ba h
  obtain ⟨a6, h⟩ := ba h
  obtain ⟨a7, h⟩ := ba h
  obtain ⟨a8, a9⟩ := ba h
  have a5 : Builtin.heldUnderItsOwnName m (.ref (ma K (ga K x) m)) = false := by simpa using a5
  refine ⟨⟨a1, He.eqO_ok a2⟩, ⟨?_, ?_, a9⟩⟩
  · unfold PySem.W.findCls
    rw [He.eqO_ok a3, Option.bind_some]
    simp only [Option.bind_some, He.eqO_ok a4, a5, of_decide_eq_true a6, He.eqO_ok a7]
    first
      | rfl
      | (rw [if_neg Bool.false_ne_true, if_neg (by decide +kernel)])
  · revert a8
    unfold cmA
    split
    · rename_i a rest e; exact fun _ => ⟨rest, by rw [e]⟩
    · exact fun q => by cases q
def GetD.adr (K : PySem.W.Frag) (d : GetD) : Addr := if d.cm = true then cmA K d.cls d.prop else gtA K d.cls d.prop
def gtW (K : PySem.W.Frag) (a : Addr) : FnW := match K.lookup a with
  | some ob => (match ob.data with
    | .func d => some (d.name, d.qualname, d.params, d.body, d.scope, d.globals, d.closure, d.builtins)
    | _ => none)
  | none => none
def GetD.val (d : GetD) : FnW := some (d.name, d.qual, d.params, .stmts d.body, d.scope, mainGlobals, [], builtinsNs)
def gtRec (K : PySem.W.Frag) (x f : Str) : Bool := match PySem.W.recIn K (ma K (ga K x) f) "property" with
  | some (.ref _ :: _) => true
  | _ => false
def gtFn (K : PySem.W.Frag) (q : Str) (a : Addr) : Bool := match K.lookup a with
  | some ob => (match ob.data with
    | .func d => PySem.W.codeIn K d.code q && (dflB K d.defaults [] && kwdB K d.kwdefaults [])
    | _ => false)
  | none => false
def GetD.ok (K : PySem.W.Frag) (d : GetD) : Bool := if d.cm = true then (PySem.W.keepIn K (.ref (cmA K d.cls d.prop)) && (gtFn K d.qual (cmA K d.cls d.prop) && cmB d.cls d.prop K)) else PySem.W.keepIn K (.ref (gtA K d.cls d.prop)) && (gtFn K d.qual (gtA K d.cls d.prop) && (gtRec K d.cls d.prop &&
  (He.eqO (PySem.W.findIn K (.ref (ga K d.cls)) d.prop) (some (some (.ref (ma K (ga K d.cls) d.prop)))) && (He.eqO (PySem.W.specialIn K (.ref (ma K (ga K d.cls) d.prop)) "__get__") (some (some (.builtin "property.__get__"))) &&
    decide (PySem.W.takesIn K (.ref (ma K (ga K d.cls) d.prop)) = some true)))))
theorem gt_funD {K : PySem.W.Frag} {x q : Str} {ps : Arguments} {b : List Stmt} {sc : Scope} {a : Addr} (kp : PySem.W.keepIn K (.ref a) = true) (c : gtFn K q a = true) (e : gtW K a = some (x, q, ps, .stmts b, sc, mainGlobals, [], builtinsNs)) : ∃ fd, FunD K x q ps b sc [] [] a fd := by
  unfold gtFn at c
  unfold gtW at e
  cases lk : K.lookup a with
  | none => rw [lk] at c; cases c
  | some ob =>
    rw [lk] at c e
    obtain ⟨oc, od, dt, sl⟩ := ob
    cases dt with
    | func d =>
      simp only [Bool.and_eq_true] at c
      simp only [Option.some.injEq, Prod.mk.injEq] at e
      obtain ⟨c1, c2, c3⟩ := c
      refine ⟨d, ⟨oc, od, d.defaults, d.kwdefaults, d.doc, d.pyModule, d.annotations, d.code, d.closureTuple, sl, ?_, lk, c1, dflB_ok c2, kwdB_ok c3⟩, kp⟩
      cases d
      obtain ⟨e1, e2, e3, e4, e5, e6, e7, e8⟩ := e
      simp only at e1 e2 e3 e4 e5 e6 e7 e8
      subst e1 e2 e3 e4 e5 e6 e7 e8
      rfl
    | _ => cases c
theorem gt_prop {K : PySem.W.Frag} {d : GetD} (nc : d.cm = false) (c : d.ok K = true) : PropOf K (ga K d.cls) d.prop (ma K (ga K d.cls) d.prop) (gtA K d.cls d.prop) := by
  unfold GetD.ok at c
  rw [nc, if_neg Bool.false_ne_true] at c
  obtain ⟨_, c⟩ := ba c
  obtain ⟨_, c⟩ := ba c
  obtain ⟨c1, c⟩ := ba c
  obtain ⟨c2, c⟩ := ba c
  obtain ⟨c3, c4⟩ := ba c
  refine ⟨He.eqO_ok c2, He.eqO_ok c3, of_decide_eq_true c4, ?_⟩
  unfold gtRec at c1
  unfold gtA
  split at c1
  · rename_i b rest hb
    exact ⟨rest, by rw [hb]⟩
  · cases c1
structure OwnF (K : PySem.W.Frag) (x : Str) (fs ms : List Str) : Prop where
  c : Cls K (ga K x)
  mkr : Mk K (ga K x) (ma K (ga K x) "__init__")
  nf : ∀ f ∈ fs, NoAttr K (ga K x) f
  mt : ∀ m ∈ ms, Meth K (ga K x) m (ma K (ga K x) m)
  k1 : PySem.W.findIn K (.ref (ga K x)) "__class__" = some (some (.builtin "object.__class__"))
  k2 : PySem.W.specialIn K (.builtin "object.__class__") "__get__" = some (some (.builtin "getset_descriptor.__get__"))
  k3 : PySem.W.takesIn K (.builtin "object.__class__") = some true
  k4 : PySem.W.mroIn K (ga K x) (.type "object") = some true
  k5 : ((PySem.W.clsIn K (ga K x)).isSome && PySem.W.typeIn K (.ref (ga K x)) == some (.type "type")) = true
  ne : PySem.W.findIn K (.ref (ga K x)) "__ne__" = some (some (.builtin "object.__ne__"))
  rd : ClX.CRead K (ga K x) (.type "type")
def ownB (x : Str) (fs ms : List Str) (K : PySem.W.Frag) : Bool := (Fa.cls x).ok K && ((Fa.mkr x).ok K && ((fs.all fun f => (Fa.noat x f).ok K) && ((ms.all fun m => (Fa.meth x m).ok K) &&
  (He.eqO (PySem.W.findIn K (.ref (ga K x)) "__class__") (some (some (.builtin "object.__class__"))) && (He.eqO (PySem.W.specialIn K (.builtin "object.__class__") "__get__") (some (some (.builtin "getset_descriptor.__get__"))) &&
  (decide (PySem.W.takesIn K (.builtin "object.__class__") = some true) && (decide (PySem.W.mroIn K (ga K x) (.type "object") = some true) && (((PySem.W.clsIn K (ga K x)).isSome && PySem.W.typeIn K (.ref (ga K x)) == some (.type "type")) &&
  (He.eqO (PySem.W.findIn K (.ref (ga K x)) "__ne__") (some (some (.builtin "object.__ne__"))) && (PySem.W.readsIn K (ga K x) (.type "type") && He.eqO (PySem.W.specialIn K (.ref (ga K x)) "__getattribute__") (some (some (.builtin "type.__getattribute__")))))))))))))
theorem ownB_ok {K : PySem.W.Frag} {x : Str} {fs ms : List Str} (h : ownB x fs ms K = true) : OwnF K x fs ms := by
  unfold ownB at h
  obtain ⟨a1, h⟩ := ba h
  obtain ⟨a2, h⟩ := ba h
  obtain ⟨a3, h⟩ := ba h
  obtain ⟨a4, h⟩ := ba h
  obtain ⟨a5, h⟩ := ba h
  obtain ⟨a6, h⟩ := ba h
  obtain ⟨a7, h⟩ := ba h
  obtain ⟨a8, h⟩ := ba h
  obtain ⟨a9, h⟩ := ba h
  obtain ⟨b1, h⟩ := ba h
  obtain ⟨b2, b3⟩ := ba h
  exact ⟨cls_ok a1, mkr_ok a2, fun f hf => noat_ok (List.all_eq_true.mp a3 f hf), fun m hm => meth_ok (List.all_eq_true.mp a4 m hm), He.eqO_ok a5, He.eqO_ok a6, of_decide_eq_true a7, of_decide_eq_true a8, a9, He.eqO_ok b1, b2, He.eqO_ok b3⟩
abbrev OwnY : Type := Str × List Str × List Str
def allY (ys : List OwnY) (K : PySem.W.Frag) : Bool := ys.all fun y => ownB y.1 y.2.1 y.2.2 K
abbrev ConY : Type := Str × Str × Dv
def conYB (K : PySem.W.Frag) (c : ConY) : Bool := match PySem.W.findCls K (.ref (ga K c.1)) (.type "type") c.2.1 with
  | some (.val u) => relB (c.2.2.v K) u
  | _ => false
def allC (cv : List ConY) (K : PySem.W.Frag) : Bool := cv.all (conYB K)
structure Hy (fa : List Fa) (fn : List DefD) (cs : List (Str × List Str)) (ys : List OwnY) (cv : List ConY) (gt : List GetD) (K : PySem.W.Frag) (mg : Str → Option Value) : Prop extends Hx fa fn cs K mg where
  owns : allY ys K = true
  cons : allC cv K = true
  gtok : (gt.all fun d => d.ok K) = true
  gtvl : gt.map (fun d => gtW K (d.adr K)) = gt.map GetD.val
section
variable {fa : List Fa} {fn : List DefD} {cs : List (Str × List Str)} {ys : List OwnY} {cv : List ConY} {gt : List GetD} {K : PySem.W.Frag} {mg : Str → Option Value}
theorem Hy.own (T : Hy fa fn cs ys cv gt K mg) (i : Nat) {x : Str} {fs ms : List Str} (h : ys[i]? = some (x, fs, ms) := by rfl) : OwnF K x fs ms := ownB_ok (List.all_eq_true.mp T.owns _ (List.mem_of_getElem? h))
theorem Hy.get (T : Hy fa fn cs ys cv gt K mg) (i : Nat) {d : GetD} (h : gt[i]? = some d := by rfl) (nc : d.cm = false := by rfl) : PropOf K (ga K d.cls) d.prop (ma K (ga K d.cls) d.prop) (gtA K d.cls d.prop) ∧ ∃ fd, FunD K d.name d.qual d.params d.body d.scope [] [] (gtA K d.cls d.prop) fd := by
  have c := List.all_eq_true.mp T.gtok _ (List.mem_of_getElem? h)
  refine ⟨gt_prop nc c, ?_⟩
  have e2 : (gt.map fun d => gtW K (d.adr K))[i]? = (gt.map GetD.val)[i]? := by rw [T.gtvl]
  rw [List.getElem?_map, List.getElem?_map, h] at e2
  have c' := c
  unfold GetD.ok at c'
  rw [nc, if_neg Bool.false_ne_true] at c'
  obtain ⟨c1, c'⟩ := ba c'
  obtain ⟨c2, _⟩ := ba c'
  have e3 : gtW K (d.adr K) = d.val := Option.some.inj e2
  unfold GetD.adr at e3
  rw [nc, if_neg Bool.false_ne_true] at e3
  exact gt_funD c1 c2 e3
theorem Hy.getC (T : Hy fa fn cs ys cv gt K mg) (i : Nat) {d : GetD} (h : gt[i]? = some d := by rfl) (nc : d.cm = true := by rfl) : ClX.CRead K (ga K d.cls) (.type "type") ∧ ClX.CMet K (ga K d.cls) (.type "type") d.prop (ma K (ga K d.cls) d.prop) (cmA K d.cls d.prop) ∧ ∃ fd, FunD K d.name d.qual d.params d.body d.scope [] [] (cmA K d.cls d.prop) fd := by
  have c := List.all_eq_true.mp T.gtok _ (List.mem_of_getElem? h)
  have e2 : (gt.map fun d => gtW K (d.adr K))[i]? = (gt.map GetD.val)[i]? := by rw [T.gtvl]
  rw [List.getElem?_map, List.getElem?_map, h] at e2
  unfold GetD.ok at c
  rw [nc, if_pos rfl] at c
  obtain ⟨c1, c⟩ := ba c
  obtain ⟨c2, c3⟩ := ba c
  have e3 : gtW K (d.adr K) = d.val := Option.some.inj e2
  unfold GetD.adr at e3
  rw [nc, if_pos rfl] at e3
  exact ⟨(cmB_ok c3).1, (cmB_ok c3).2, gt_funD c1 c2 e3⟩
/-- fields of a class that may be read or set -/
theorem OwnF.fl {g : Gc} {x : Str} {fs ms : List Str} (O : OwnF K x fs ms) {n : Nat} {f : Str} (hK : g.K = K) (ec : g.cls n = ga K x) (hf : fs.contains f = true) : FlOk g [n] f := fun c hc => by
  rw [List.mem_singleton.mp hc, hK, ec]
  exact ⟨O.c, O.nf f (by simpa using hf)⟩
theorem OwnF.meth {x : Str} {fs ms : List Str} (O : OwnF K x fs ms) {m : Str} (hm : ms.contains m = true) : Meth K (ga K x) m (ma K (ga K x) m) := O.mt m (by simpa using hm)
theorem OwnF.free {x : Str} {fs ms : List Str} (O : OwnF K x fs ms) {f : Str} (hf : fs.contains f = true) : NoAttr K (ga K x) f := O.nf f (by simpa using hf)
end
abbrev AlG : Type := AlX × (Bool × List FnW)
def obsGt (gt : List GetD) (K : PySem.W.Frag) : Bool × List FnW := (gt.all fun d => d.ok K, gt.map fun d => gtW K (d.adr K))
/-- the addresses of the head, and the table of the interpreter's own statics -/
def asY (g : Addr → Option Obj) (n : Nat) : List Addr := cStatics :: asD g n
theorem saysX_at {fa : List Fa} {fn : List DefD} {tf : List Defn} {ex : PySem.W.Frag → Bool} {w : World} {h : Heap} {as : List Addr} (e1 : obsT fa fn [] (frT h.get? as) = valT fn [] w) (e2 : (ex (frT h.get? as) && tabsB h.get? tf (frT h.get? as)) = true) : SaysX fa fn [] tf ex w h (frT h.get? as) := by
  obtain ⟨e2, e3⟩ := ba e2
  have one : ∀ p ∈ tf, ∃ o, h.get? (cT (frT h.get? as) p).2 = some o ∧ emptyTab o = true ∧ PySem.W.codeHdIn (frT h.get? as) (cT (frT h.get? as) p).1 (cT (frT h.get? as) p).2 = true := by
    intro p hp
    have z := List.all_eq_true.mp e3 p hp
    obtain ⟨z1, z2⟩ := ba z
    split at z2
    · rename_i o ho
      exact ⟨o, ho, z2, z1⟩
    · cases z2
  refine ⟨e1, e2, fun p hp => ?_, fun p hp => ?_, fun p hp => ?_⟩ <;> obtain ⟨o, ho, he, hc⟩ := one p hp
  · exact hc
  · exact frT_none ho he
  · rw [ho, emptyTab_eq he]
def obsY (n : Nat) (fa : List Fa) (fn : List DefD) (tf : List Defn) (ex : PySem.W.Frag → Bool) (gt : List GetD) (g : Addr → Option Obj) : AlG := ((obsT fa fn [] (frT g (asY g n)), ex (frT g (asY g n)) && tabsB g tf (frT g (asY g n))), obsGt gt (frT g (asY g n)))
structure SaysY (fa : List Fa) (fn : List DefD) (tf : List Defn) (ex : PySem.W.Frag → Bool) (gt : List GetD) (w : World) (h : Heap) (K : PySem.W.Frag) : Prop where
  x : SaysX fa fn [] tf ex w h K
  g : obsGt gt K = (true, gt.map GetD.val)
def hookY (n : Nat) (fa : List Fa) (fn : List DefD) (tf : List Defn) (ex : PySem.W.Frag → Bool) (gt : List GetD) : PySem.W.Hook where
  α := AlG
  obs := fun s => obsY n fa fn tf ex gt s.heap.get?
  val := fun w => (valX fn [] w, (true, gt.map GetD.val))
  says := fun w h => ∃ K : PySem.W.Frag, K.In h ∧ SaysY fa fn tf ex gt w h K
  of := fun _ _ e => ⟨_, frT_in, saysX_at (congrArg (fun z : AlG => z.1.1) e) (congrArg (fun z : AlG => z.1.2) e), congrArg (fun z : AlG => z.2) e⟩
  keeps := fun _ _ _ ⟨K, hK, c⟩ k => ⟨K, PySem.W.Frag.In.keeps hK k, ⟨⟨c.x.t, c.x.more, c.x.hd, c.x.out, fun p hp => k _ _ (c.x.empty p hp)⟩, c.g⟩⟩
theorem obsY_eq {n : Nat} {fa : List Fa} {fn : List DefD} {tf : List Defn} {ex : PySem.W.Frag → Bool} {gt : List GetD} {g : Addr → Option Obj} {s : Shared} (h : ∀ a, g a = s.heap.get? a) : obsY n fa fn tf ex gt g = (hookY n fa fn tf ex gt).obs s := by
  have e : g = s.heap.get? := funext h
  rw [e]
  rfl
end SD

set_option Elab.async false
set_option linter.all false
set_option maxRecDepth 100000
set_option maxHeartbeats 4000000
namespace SD
open PySem PySem.Spec PyProof.Rows L2
structure IsOk (g : Gc) (c : Nat) : Prop where
  cl : Cls g.K (g.cls c)
  k1 : PySem.W.findIn g.K (.ref (g.cls c)) "__class__" = some (some (.builtin "object.__class__"))
  k2 : PySem.W.specialIn g.K (.builtin "object.__class__") "__get__" = some (some (.builtin "getset_descriptor.__get__"))
  k3 : PySem.W.takesIn g.K (.builtin "object.__class__") = some true
  k4 : PySem.W.mroIn g.K (g.cls c) (.type "object") = some true
  k5 : ((PySem.W.clsIn g.K (g.cls c)).isSome && PySem.W.typeIn g.K (.ref (g.cls c)) == some (.type "type")) = true
theorem OwnF.is {K : PySem.W.Frag} {g : Gc} {x : Str} {fs ms : List Str} (O : OwnF K x fs ms) {n : Nat} (hK : g.K = K) (ec : g.cls n = He.ga K x) : ∀ c ∈ [n], IsOk g c := fun c hc => by
  rw [List.mem_singleton.mp hc]
  subst hK
  exact ⟨by rw [ec]; exact O.c, by rw [ec]; exact O.k1, O.k2, O.k3, by rw [ec]; exact O.k4, by rw [ec]; exact O.k5⟩
def vIsiO (cs : List Nat) : VN := fun ds μ => match ds with
  | [d, .gl c] => if cs.contains c = true then (match insOf μ d with
    | some (c', _, _) => if (c' == c) = true then some (.bl true) else none
    | none => (tyOf μ d).map fun _ => .bl false) else none
  | _ => vIsi ds μ
theorem t7_mro (t : T7) : ∃ l : List String, fastBuiltinMro t.name = some (l.map Value.type) := by
  cases t
  · exact ⟨["NoneType", "object"], by decide +kernel⟩
  · exact ⟨["bool", "int", "object"], by decide +kernel⟩
  · exact ⟨["int", "object"], by decide +kernel⟩
  · exact ⟨["str", "object"], by decide +kernel⟩
  · exact ⟨["tuple", "object"], by decide +kernel⟩
  · exact ⟨["list", "object"], by decide +kernel⟩
  · exact ⟨["dict", "object"], by decide +kernel⟩
theorem kit_no {K : PySem.W.Frag} {C : Addr} (k5 : ((PySem.W.clsIn K C).isSome && PySem.W.typeIn K (.ref C) == some (.type "type")) = true) (t : T7) : PySem.W.kitOne K (.type t.name) (.ref C) = some false := by
  unfold PySem.W.kitOne
  have e : ((Value.type t.name) == Value.ref C) = false := by cases t <;> rfl
  rw [e, if_neg (by decide)]
  show (if ((PySem.W.clsIn K C).isSome && PySem.W.typeIn K (.ref C) == some (.type "type")) = true then PySem.W.subIn K (.type t.name) (.ref C) else none) = some false
  rw [if_pos k5]
  exact sub_ty (t7_mro t)
section
variable {g : Gc} {W : WX} {X : Cx} {e o value : Expr} {es : List Expr} {fe fo fv : DE} {fr fk : DA} {f x m : Str} {cs : List Nat} {c k : Nat} {pos pos' p apos : Pos} {ps : List Str} {F : Fn}
theorem cIsiO (xg : XG g X) (ok : ∀ c ∈ cs, IsOk g c) : CallR X (.builtin "isinstance") (rN g (vIsiO cs)) := by
  intro pins s σ H xs us Q I rx h
  obtain ⟨κ, ds, μ, rd, so, ho⟩ := h
  unfold vIsiO at ho
  split at ho
  · rename_i d c
    split at ho
    case isFalse => exact ho.elim
    rename_i hc
    have O := ok c (by simpa using hc)
    obtain ⟨v, w', rfl, r1, r2⟩ := relL2 rd
    simp only [Rel] at r2
    subst r2
    cases hi : insOf μ d with
    | some t =>
      obtain ⟨c', ns, ys⟩ := t
      rw [hi] at ho
      by_cases e : (c' == c) = true
      · simp only [if_pos e] at ho
        have e := beq_iff_eq.mp e
        subst e
        obtain ⟨a, dx, vs, rfl, h2, _, _⟩ := insOf_rel so r1 hi
        refine call_isi pins s σ H _ us Q I rx ⟨.ref a, .ref (g.cls c'), .ref (g.cls c'), .ref (g.cls c'), true, rfl, .own _, ?_, ?_, rOut.flat so ho (by simp [Rel])⟩
        · rw [xg.K]
          exact .base (.ins h2 O.cl O.k1 O.k2 O.k3 O.k4)
        · unfold PySem.W.kitOne
          simp
      · simp only [if_neg e] at ho; exact ho.elim
    | none =>
      rw [hi] at ho
      cases ht : tyOf μ d with
      | none => rw [ht] at ho; exact ho.elim
      | some a =>
        rw [ht] at ho
        exact call_isi pins s σ H _ us Q I rx ⟨v, .ref (g.cls c), .type a.name, .ref (g.cls c), false, rfl, .own _, by rw [xg.K]; exact tyX_of so r1 ht, by rw [xg.K]; exact kit_no O.k5 a, rOut.flat so ho (by simp [Rel])⟩
  · exact cIsi xg pins s σ H xs us Q I rx ⟨κ, ds, μ, rd, so, ho⟩
theorem ge_gl (hm : X.mg x = some (.ref (g.cls c))) (hg : Gl X x) (hd : (x == ("__debug__" : Str)) = false := by decide) : GE g W X (.Name x pos) (eC (.gl c)) := ge_c (v := .ref (g.cls c)) (pe_glob hg hm rfl hd)
end
end SD

set_option Elab.async false
set_option linter.all false
set_option maxRecDepth 100000
set_option maxHeartbeats 4000000
namespace SD
open PySem PySem.Spec PyProof.Rows L2
def IsPPs (h : Heap) : List Value → List I2 → Prop
  | [], [] => True
  | u :: us, q :: qs => Srt.IsPair h u q.1 q.2 ∧ IsPPs h us qs
  | _, _ => False
def IsPP (h : Heap) (v : Value) (qs : List I2) : Prop := ∃ a o us n, v = .ref a ∧ h.get? a = some o ∧ o.cls = .type "tuple" ∧ o.data = .seq us n ∧ IsPPs h us.toList qs
theorem IsPPs.keeps {h h' : Heap} (k : ∀ b o, h.get? b = some o → o.cls = .type "tuple" → h'.get? b = some o) : ∀ {us : List Value} {qs : List I2}, IsPPs h us qs → IsPPs h' us qs
  | [], [], _ => trivial
  | [], _ :: _, x => x.elim
  | _ :: _, [], x => x.elim
  | u :: us, q :: qs, x => ⟨Srt.IsPair.keeps x.1 k, IsPPs.keeps k x.2⟩
theorem IsPP.keeps {h h' : Heap} {v : Value} {qs : List I2} (x : IsPP h v qs) (k : ∀ b o, h.get? b = some o → o.cls = .type "tuple" → h'.get? b = some o) : IsPP h' v qs := by
  obtain ⟨a, o, us, n, e, ho, hc, hd, hp⟩ := x
  exact ⟨a, o, us, n, e, k _ _ ho hc, hc, hd, hp.keeps k⟩
theorem IsPPs.length {h : Heap} : ∀ {us : List Value} {qs : List I2}, IsPPs h us qs → us.length = qs.length
  | [], [], _ => rfl
  | [], _ :: _, x => x.elim
  | _ :: _, [], x => x.elim
  | u :: us, q :: qs, x => by rw [List.length_cons, List.length_cons, IsPPs.length x.2]
section
variable {prog : Program} {w : World} {A : Around} {E : Value → Shared → Prop} {s : Shared}
end
end SD

set_option Elab.async false
set_option linter.all false
set_option maxRecDepth 100000
set_option maxHeartbeats 4000000
namespace SD
open PySem PySem.Spec PyProof.Rows L2
section
variable {g : Gc} {X : Cx}
end
end SD

set_option Elab.async false
set_option linter.all false
set_option maxRecDepth 100000
set_option maxHeartbeats 4000000
namespace SD
open PySem PySem.Spec PyProof.Rows L2
section
variable {g : Gc} {W : WX} {X : Cx} {pos : Pos}
end
end SD

set_option Elab.async false
set_option linter.all false
set_option maxRecDepth 100000
set_option maxHeartbeats 4000000
namespace SD
open PySem PySem.Spec PyProof.Rows L2
/-- the list at D while it is filled -/
structure PL0 (g : Gc) (κ1 : KA) (H1 : Hp) (D : Addr) (acc : List DV) (κ : KA) (H : Hp) (μ : Sto) : Prop where
  gh : κ.gh = D :: κ1.gh
  ex : Ext0 κ1 H1 κ H
  hv : ∀ a ∈ κ1.gh, NoTbl H1 a → H a = H1 a
  so : StoOk g κ H μ
  st : ∃ avs, H D = some (.lst avs) ∧ RelL g κ H acc avs
theorem noTbl_lst {H : Hp} {D : Addr} {l : List V} (h : H D = some (.lst l)) : NoTbl H D := fun ps e => by rw [h] at e; cases e
section
variable {g : Gc} {κ1 κ κ' : KA} {H1 H H' : Hp} {D : Addr} {acc : List DV} {μ μ' : Sto}
theorem PL0.ext (p : PL0 g κ1 H1 D acc κ H μ) (e : Ext κ H κ' H') (s : StoOk g κ' H' μ') : PL0 g κ1 H1 D acc κ' H' μ' := by
  obtain ⟨avs, h1, h2⟩ := p.st
  refine ⟨e.ghs.trans p.gh, p.ex.trans e.toExt0, fun a ha n => ?_, s, avs, ?_, h2.ext e⟩
  · have z := p.hv a ha n
    exact (e.ghv a (by rw [p.gh]; exact List.mem_cons_of_mem _ ha) fun ps y => n ps (by rw [← z]; exact y)).trans z
  · exact (e.ghv D (by rw [p.gh]; exact List.mem_cons_self) (noTbl_lst h1)).trans h1
theorem PL0.add (s1 : StoOk g κ1 H1 μ') (hD : H1 D = none) (p : PL0 g κ1 H1 D acc κ H μ) {avs : List V} {y : DV} {v : V} (h1 : H D = some (.lst avs)) (h2 : RelL g κ H acc avs) (hy : Rel g κ H y v) :
    Ext0 κ H κ (upd H D (.lst (avs ++ [v]))) ∧ PL0 g κ1 H1 D (acc ++ [y]) κ (upd H D (.lst (avs ++ [v]))) μ := by
  have mD : D ∈ κ.gh := by rw [p.gh]; exact List.mem_cons_self
  have xw : Ext0 κ H κ (upd H D (.lst (avs ++ [v]))) := Ext0.write (.inr mD)
  refine ⟨xw, p.gh, p.ex.trans xw, fun a ha n => ?_, p.so.fill mD (noTbl_lst h1), _, upd_same, RelL.append (h2.ext0 xw) (RelL.cons (hy.ext0 xw) RelL.nil)⟩
  rw [upd_ne fun e => ?_]
  · exact p.hv a ha n
  · obtain ⟨⟨u, hu⟩, _⟩ := s1.gst a ha
    rw [e, hD] at hu; cases hu
end
section
variable {g : Gc} {W : WX} {X : Cx}
section
variable {elt t0 i0 t1 i1 : Expr} {f0 f1 : List Expr} {sc : Scope} {own : List (PySem.Str × Nat)} {vs1 sl sl1 : List Nat} {pos : Pos} {fi fi1 : DI} {t t' : DG} {tt tt1 : DT} {te : DE} {N : List Str} {sc0 : Scope}
end
end
end SD

set_option Elab.async false
set_option linter.all false
set_option maxRecDepth 100000
set_option maxHeartbeats 4000000
namespace SD
open PySem PySem.Spec PyProof.Rows L2
section
variable {P : Program} {w : World} {g : Gc} {mg : Str → Option Value} {base : Heap} {k c : Nat} {m name qual : Str} {st : Stmt} {N : List Str} {md : Md} {fb : DS} {f p : Addr}
theorem pr_of (hc : Cls g.K (g.cls c)) (hp : PropOf g.K (g.cls c) m p f) (hF : ∃ fd, FunD g.K name qual (defArgs st) (defBody st) (defScope st) [] [] f fd) (S : FnScope N ["self"] (defScope st))
    (bn : ∀ (kV doc pm : Value) (an : Option Addr) (cdv ct : Value) (us : List Value), us.length = 1 → bindArgs (PySem.W.fnOf name qual (defArgs st) (defBody st) (defScope st) .none kV doc pm an cdv ct) ⟨us, []⟩ = pure ((["self"] : List Str).zip us))
    (hb : ∀ (cdv : Value) (A : Around) (outer : List Env) (s : Shared) (H : Hp) (E : XK), Room k (A.deeper (envOfC qual (defScope st) s.heap.objs.size f cdv)) → GSs g (WF E) (cxOf (L2.CX P w) P w g.K mg base N qual (defScope st) f cdv A outer s H E) (defBody st) fb) :
    PrG P w g mg base (k + 1) c m (runF md 1 N.length fb) := by
  obtain ⟨fd, F⟩ := hF
  exact ⟨p, f, fd, hc, hp, F.bindsN bn, gf_ok F S hb⟩
end
end SD

set_option Elab.async false
set_option linter.all false
set_option maxRecDepth 100000
set_option maxHeartbeats 4000000
namespace PySem
open PySem.Calls PyProof.Rows
set_option maxHeartbeats 1000000 in
section
variable {prog : Program} {w : World} {A : Around} {E : Value → Shared → Prop} {s : Shared}
end
end PySem
namespace SD
open PySem PySem.Spec PyProof.Rows L2
section
variable {g : Gc} {W : WX} {X : Cx} {e : Expr} {fe : DE} {p pos : Pos}
end
end SD

set_option Elab.async false
set_option linter.all false
set_option maxRecDepth 100000
set_option maxHeartbeats 4000000
namespace SD
open PySem PySem.Spec PyProof.Rows L2
/-- a method's def, told with its text -/
structure MtDG (P : Program) (w : World) (g : Gc) (mg : Str → Option Value) (base : Heap) (k c : Nat) (m qual : Str) (st : Stmt) (ps : List Str) (dvs : List V) (F : Fn) : Prop where
  ex : ∃ (f : Addr) (fd : FuncData), Cls g.K (g.cls c) ∧ Meth g.K (g.cls c) m f ∧ FunD g.K m qual (defArgs st) (defBody st) (defScope st) dvs [] f fd ∧ FnOk P w g.K mg base (L2.CX P w) k f fd ps (spF g F ps.length)
section
variable {P : Program} {w : World} {g : Gc} {mg : Str → Option Value} {base : Heap} {k c : Nat} {m qual : Str} {st : Stmt} {N ps : List Str} {md : Md} {fb : DS} {f : Addr} {dvs : List V}
theorem mtd_of (hc : Cls g.K (g.cls c)) (hm : Meth g.K (g.cls c) m f) (hF : ∃ fd, FunD g.K m qual (defArgs st) (defBody st) (defScope st) dvs [] f fd) (S : FnScope N ps (defScope st))
    (hb : ∀ (cdv : Value) (A : Around) (outer : List Env) (s : Shared) (H : Hp) (E : XK), Room k (A.deeper (envOfC qual (defScope st) s.heap.objs.size f cdv)) → GSs g (WF E) (cxOf (L2.CX P w) P w g.K mg base N qual (defScope st) f cdv A outer s H E) (defBody st) fb) :
    MtDG P w g mg base (k + 1) c m qual st ps dvs (runF md ps.length N.length fb) := by
  obtain ⟨fd, F⟩ := hF
  exact ⟨f, fd, hc, hm, F, gf_ok F S hb⟩
end
/-- what is given by name, in the parameters' order -/
def kwF (F : Fn) (ix : List Nat) (nk : Nat) : Fn := fun ds μ => match ds with
  | d :: ys => if ys.length = nk then F (d :: permL ix ys) μ else .stuck
  | [] => .stuck
section
variable {g : Gc} {W : WX} {X : Cx} {e o : Expr} {es : List Expr} {fe fo : DE} {fr fk : DA} {m qual : Str} {c k : Nat} {pos apos : Pos} {ps : List Str} {F : Fn} {st : Stmt} {dvs : List V}
/-- o.m(k = v, ..): all of them by name -/
theorem ge_mtK {pl : Sem Bool} {kws : List Keyword} {ix : List Nat} {ks : List Str} (G : MtDG X.prog X.w g X.mg X.base k c m qual st ps dvs F) (xg : XG g X) (ar : Ar F ps.length) (hr : Room k X.A) (tk : Takes X W) (ho : GE g W X o fo) (hk : GK g W X kws fk)
    (hb : (dvs = [] ∧ ∀ (kV doc pm : Value) (an : Option Addr) (cdv ct : Value) (u : Value) (ws : List Value), ws.length = ks.length → bindArgs (PySem.W.fnOf m qual (defArgs st) (defBody st) (defScope st) .none kV doc pm an cdv ct) ⟨[u], ks.zip ws⟩ = pure (ps.zip (u :: permL ix ws))) ∨
      (dvs ≠ [] ∧ ∀ (T : Addr) (kV doc pm : Value) (an : Option Addr) (cdv ct : Value) (u : Value) (ws its : List Value), ws.length = ks.length → its.length = dvs.length → ∃ k, bindArgs (PySem.W.fnOf m qual (defArgs st) (defBody st) (defScope st) (.ref T) kV doc pm an cdv ct) ⟨[u], ks.zip ws⟩ = seqItems? (.ref T) >>= k ∧ k (some its.toArray) = pure (ps.zip (u :: permL ix ws))))
    (hall : (backToKw pos (keywordEach kws X.env)).all (·.1.isSome) = true := by rfl) (hks : (backToKw pos (keywordEach kws X.env)).filterMap (·.1) = ks := by rfl)
    (hpl : ((backTo pos (starEach [] X.env)).any (·.1) || (backToKw pos (keywordEach kws X.env)).any (·.1.isNone)) = false := by rfl)
    (ht : eval (.Call (.Attribute o m apos) [] kws pos) X.env = (do
      let ov ← eval o X.env
      standAt apos.atName
      let (f, first) ← holding [ov] (getMethod ov m pl)
      callWith pos f first (backTo pos (starEach [] X.env)) (backToKw pos (keywordEach kws X.env))) := by rfl) :
    GE g W X (.Call (.Attribute o m apos) [] kws pos) (eMt c m (kwF F ix ks.length) fo fk) := by
  obtain ⟨f, fd, hc, M, FD, FO⟩ := G.ex
  have bn : KBn g.K fd ps 1 ks (fun us ws => us ++ permL ix ws) (fun vs zs => vs ++ permL ix zs) := by
    obtain ⟨oc, od, dV, kV, doc, pm, an, cdv, ct, osl, rfl, lk, hcd, hD, hK⟩ := FD.ex
    refine ⟨fun s us ws X l1 l2 => ?_, fun r1 r2 => r1.append (permL_vals r2)⟩
    obtain ⟨u, rfl⟩ : ∃ u, us = [u] := by
      match us, l1 with
      | [u], _ => exact ⟨u, rfl⟩
    rcases hb with ⟨e, hb⟩ | ⟨e, hb⟩
    · rcases hD with ⟨_, rfl⟩ | ⟨e2, _⟩
      · exact .of_eq (hb kV doc pm an cdv ct u ws l2)
      · exact absurd e e2
    · rcases hD with ⟨e2, _⟩ | ⟨_, T, o, its, mm, rfl, lT, oT, rT⟩
      · exact absurd e2 e
      · obtain ⟨kk, e1, e2⟩ := hb T kV doc pm an cdv ct u ws its l2 rT.length.symm
        refine BindsTo.of_looks fun M => ?_
        rw [e1]
        exact looks_items X lT oT (.of_pure e2)
  rw [← xg.K] at hc M bn FO
  refine ⟨fun pins s σ H Q I h => ?_⟩
  obtain ⟨κ, ρ, μ, hE, hs, hw⟩ := h
  refine PySem.W.methodCall_KW (pl := pl) (thn (ho.run pins s σ H (fun x H1 => ∃ κ1 d μ1 ns xs, RelE g κ1 H1 ρ σ ∧ StoOk g κ1 H1 μ1 ∧ Rel g κ1 H1 d x ∧ insOf μ1 d = some (c, ns, xs) ∧ ns.contains m = false ∧ wpR g W σ κ1 H1 ((fk ρ μ1).bind fun ys μ2 => kwF F ix ks.length (d :: ys) μ2) (fun d _ κ' H' => ∀ v, Rel g κ' H' d v → Q v H')) I
    ⟨κ, ρ, μ, hE, hs, (mt_obj hw hE).mono fun d μ1 κ1 H1 e1 s1 h1 v rv => let ⟨ns, xs, a1, a2, a3, a4, a5, a6⟩ := h1 v rv; ⟨κ1, d, μ1, ns, xs, a1, a2, a3, a4, a5, a6⟩⟩) fun u s1 ⟨x, H1, I1, rx, κ1, d, μ1, ns, xs, rE, so, rd, hi, hn, hh⟩ => ?_) ht
  obtain ⟨a, dx, vs, rfl, h2, h3, h4⟩ := insOf_rel so rd hi
  obtain rfl : u = Value.ref a := rx
  refine getmeth_ok I1 h2 hc M (lookup_zip_none hn) ?_
  refine PySem.W.callWith_KW0 (first := [.ref a]) (h₀ := X.base) I.ok.mod.kin M.kp hall ?_ hpl
  refine thn (hk.run pos pins s1 σ H1 (fun ws H2 => ∃ κ2 ys μ2, RelL g κ2 H2 ys ws ∧ StoOk g κ2 H2 μ2 ∧ Rel g κ2 H2 d (.ref a) ∧ wpR g W σ κ2 H2 (kwF F ix ks.length (d :: ys) μ2) (fun d _ κ' H' => ∀ v, Rel g κ' H' d v → Q v H')) I1
    ⟨κ1, ρ, μ1, rE, so, hh.bind.mono fun ys μ2 κ2 H2 e2 s2 h2 ws rw' => ⟨κ2, ys, μ2, rw', s2, rd.ext e2, h2⟩⟩) fun ws s2 ⟨zs, H2, I2, rz, κ2, ys, μ2, rys, so2, rd2, hh2⟩ => ⟨I2.kIn, ?_⟩
  rw [hks]
  have hh2 : wpR g W σ κ2 H2 (if ys.length = ks.length then F (d :: permL ix ys) μ2 else .stuck) (fun d _ κ' H' => ∀ v, Rel g κ' H' d v → Q v H') := hh2
  by_cases hl : ys.length = ks.length
  · rw [if_pos hl] at hh2
    have lz : ws.length = ks.length := by rw [← rz.length, ← rys.length]; exact hl
    have sp : spF g F ps.length (.ref a :: permL ix zs) H2 Q (WE W σ) := sp_read ar (RelL.cons rd2 (permL_rel rys)) so2 hh2
    have r2 : Vals ([V.ref a] ++ permL ix zs) ([Value.ref a] ++ permL ix ws) := bn.rel (.cons rfl .nil) rz
    refine wpAny_call (codeAny_mono (FO.run X.A X.stack s2 H2 ⟨[.ref a], ks.zip ws⟩ ([.ref a] ++ permL ix ws) ([.ref a] ++ permL ix zs) Q (WE W σ) hr I2.env0 (bn.to s2 [.ref a] ws I2.kIn rfl lz) r2 sp) fun r s' hq => ?_)
    cases r with
    | error e => exact passAt tk σ pins H2 s2 e s' I2 hq
    | ok fl =>
      cases fl with
      | ret u => exact I2.after hq
      | next => exact False.elim hq
      | brk => exact False.elim hq
      | cont => exact False.elim hq
  · rw [if_neg hl] at hh2; exact hh2.elim
end
end SD

set_option Elab.async false
set_option linter.all false
set_option maxRecDepth 100000
set_option maxHeartbeats 4000000
namespace SD
open PySem PySem.Spec PyProof.Rows L2
section
variable {X : Cx} {p pos : Pos}
theorem pmk_oex0 {CX : CXT} {x : Str} {C fI : Addr} {k : Nat} {fd : FuncData} {sp : Sp} (T : OexG X.K C) (iC : PySem.W.findIn X.K (.ref C) "__init__" = some (some (.ref fI))) (tI : PySem.W.typeIn X.K (.ref fI) = some (.type "function"))
    (F1 : FnOk X.prog X.w X.K X.mg X.base CX k fI fd ["self"] sp) (hr : Room (k + 1) X.A) (hb : Binds X.K fd ["self"] []) (hx : Passes CX X (fun _ _ _ => False)) (hg : Gl X x) (hm : X.mg x = some (.ref C)) (hdb : (x == ("__debug__" : Str)) = false) :
    PMk X (.Call (.Name x p) [] [] pos) (tMkO C sp [] tNil) := by
  intro pins s σ H Q I h
  obtain ⟨nm, q, N, bs, bm, sn, sub, ab, col, dd, k0, k1, k2, k3, k5, B, nw, ni, tl, hC, hB, ht⟩ := T.cls
  refine wpAny_Call_Name_kw (ld_glob I hg hm ?_ hdb)
  refine PySem.W.callWith_K0 I.kIn T.kC ?_
  show wpAny _ _ (call (.ref C) []) _ _ _
  obtain ⟨h0, g, dr, tk, os⟩ := s
  have q1 := h.2 (h0.objs.size + 1) (I.hok.fresh (Nat.le_succ _))
  have at1 : ((h0.push (PySem.W.kdv_tup [])).push (PySem.HandSPX.excO C h0.objs.size)).get? (h0.objs.size + 1) = some (PySem.HandSPX.excO C h0.objs.size) := by heap_get
  have J : Inv X pins σ (upd H (h0.objs.size + 1) (exo (h0.objs.size + 1) C none)) ⟨(h0.push (PySem.W.kdv_tup [])).push (PySem.HandSPX.excO C h0.objs.size), g, dr, tk, os⟩ :=
    I.laid (t' := tk) (a := h0.objs.size + 1) (o := exo (h0.objs.size + 1) C none) (h' := (h0.push (PySem.W.kdv_tup [])).push (PySem.HandSPX.excO C h0.objs.size)) (fun b o e => Heap.get?_push_of_some _ (Heap.get?_push_of_some _ e)) (Nat.le_succ _) (exo_ok at1)
  have r1 : Vals [V.ref (h0.objs.size + 1)] [Value.ref (h0.objs.size + 1)] := .cons rfl .nil
  have z0 : ([] : List Value).length ≤ sizeLine := Nat.zero_le _
  refine wpAny_call (PySem.HandSPX.call_own hB ht.has (I.kIn _ _ hC) (PySem.W.looks_findIn I.kIn iC) (fun self => PySem.W.bind_fn I.kIn self tI) z0
    (codeAny_mono (F1.run _ X.stack _ _ ⟨[Value.ref (h0.objs.size + 1)], []⟩ [Value.ref (h0.objs.size + 1)] _ _ (fun _ _ _ => False) (hr.make C [] []) (J.env0.make C [] []) (hb _ [Value.ref (h0.objs.size + 1)] J.kIn rfl) r1 q1) fun r s' z => ?_))
  match r, z with
  | .error er, z => exact hx pins σ _ _ er s' J z
  | .ok (.ret u), z =>
    obtain ⟨v, H2, os2, bare2, un2, hok2, rv, ev, d, fs, ea, ed, hd1, q2⟩ := z
    subst ev
    obtain ⟨h2, g2, d2, t2, os'⟩ := s'
    exact ⟨rv, mk_end (raises_own T.exC T.tyC) I (Nat.le_succ _) (fun b o e => Heap.get?_push_of_some _ (Heap.get?_push_of_some _ e)) un2 hok2 os2 bare2 ea ed hd1 q2⟩
  | .ok .next, z => exact False.elim z
  | .ok .brk, z => exact False.elim z
  | .ok .cont, z => exact False.elim z
end
section
variable {g : Gc} {W : WX} {X : Cx} {pos p pos' : Pos} {x : Str} {k c : Nat} {code : Str}
theorem gs_raise0 (G : XcG X.prog X.w g X.mg X.base k x c [] code) (xg : XG g X) (hc : X.calm = true) (hr : Room (k + 1) X.A) (hg : Gl X x) (tk : Takes X W) (hdb : (x == ("__debug__" : Str)) = false := by decide) :
    GS g W X (.Raise (some (.Call (.Name x p) [] [] pos)) none pos') (sRaise c [] code aNil) := by
  obtain ⟨fI, fd, h1, T, iC, tI, bn, F⟩ := G.ex
  have eK : X.K = g.K := xg.K
  rw [← eK] at T iC tI bn F
  refine PS.imp (ps_raise hc tk (pmk_oex0 T iC tI F hr bn (passes_call tk fun _ _ _ _ h => h.elim) hg h1 hdb)) fun D σ H q => ?_
  obtain ⟨κ, ρ, μ, hE, hs, hw⟩ := q
  have hw : wpS g W D κ H (SR.ex c ["code"] [.str code] ρ μ) := hw
  refine ⟨Nat.zero_le _, fun a ha => ⟨rfl, a, [], rfl, rfl, upd_same, fun dx n ne => ?_⟩⟩
  have nd : H dx = none := by rwa [upd_ne ne] at n
  refine ⟨rfl, dx, fsI code [] [], upd_same, by rw [upd_ne ne, upd_same], nd, ?_⟩
  have eH : upd (del (upd (upd (upd H a (exo a (g.cls c) none)) dx (exd dx (fsI code [] []))) a (exo a (g.cls c) (some dx))) a) dx (.xd (fsI code [] [])) = upd H dx (.xd (fsI code [] [])) := by
    funext b
    by_cases hb : b = dx
    · subst hb; rw [upd_same, upd_same]
    · rw [upd_ne hb, upd_ne hb]
      by_cases hba : b = a
      · subst hba; rw [del_same, ha]
      · rw [del_ne hba, upd_ne hba, upd_ne hb, upd_ne hba]
  rw [eH]
  refine hw κ _ σ (Ext.new hs nd) (hs.new nd) (hE.ext (Ext.new hs nd)) dx [V.str code] ?_ rfl (RelL.cons (by simp [Rel]) RelL.nil)
  rw [show (("code" : Str) :: ([] : List Str)).zip [V.str code] = fsI code [] [] from rfl]
  exact ⟨upd_same, hs.fresh nd⟩
end
end SD

set_option Elab.async false
set_option linter.all false
set_option maxRecDepth 100000
set_option maxHeartbeats 4000000
namespace SD
open PySem PySem.Spec PyProof.Rows L2
open PySem.HandSPX (HeldZ FlyingZ TracedZ Steady)
section
variable {M : Model} {A : Around} {E : Value → Shared → Prop} {s : Shared} {Z : Obj → Prop} {B : Heap} {ev ev' : Env} {ol l : List Env} {L a : Addr}
end
/-- the context, its exceptions taken otherwise -/
abbrev Cx.ox (X : Cx) (xe : Value → Shared → Prop) : Cx := { X with xe := xe }
section
variable {X : Cx} {E : XK} {L : Addr} {pins : List (Addr × Obj)} {σ : L2.St} {H : Hp} {s : Shared}
variable {elt tg iter : Expr} {ifs : List Expr} {scope : Scope} {own : List (Str × Nat)} {pos : Pos}
end
end SD

set_option Elab.async false
set_option linter.all false
set_option maxRecDepth 100000
set_option maxHeartbeats 4000000
namespace SD
open PySem PySem.Spec PyProof.Rows L2
section
variable {g : Gc} {E : XK} {X : Cx} {L : Addr}
variable {elt tg iter : Expr} {ifs : List Expr} {scope : Scope} {own : List (Str × Nat)} {fi : DI} {t : DG} {tt : DT} {te : DE} {sl : List Nat} {N : List Str} {sc : Scope} {pos : Pos}
end
end SD

set_option Elab.async false
set_option linter.all false
set_option maxRecDepth 100000
set_option maxHeartbeats 4000000
namespace SD
open PySem PySem.Spec PyProof.Rows L2
section
variable {prog : Program} {w : World} {A : Around} {E : Value → Shared → Prop} {s : Shared}
section
variable {a : Addr} {its : Array Value} {val : Nat → Str} {Q : Value → Shared → Prop}
end
end
/-- the least, the greatest of texts -/
def at_ (l : List Str) (i : Nat) : Str := l.getD i ⟨#[]⟩
section
variable {g : Gc} {X : Cx} {pins : List (Addr × Obj)} {σ : L2.St} {H : Hp} {s : Shared}
end
end SD

set_option Elab.async false
set_option linter.all false
set_option maxRecDepth 100000
set_option maxHeartbeats 4000000
namespace SD
open PySem PySem.Spec PyProof.Rows L2
def empT (K : PySem.W.Frag) (a : Addr) : Bool := match K.lookup a with
  | some ⟨.type "tuple", none, .seq its _, _⟩ => its.isEmpty
  | _ => false
def allE (l : List (PySem.W.Frag → Addr)) (K : PySem.W.Frag) : Bool := l.all fun p => empT K (p K)
def allD (tf : List He.Defn) (K : PySem.W.Frag) : Bool := decide (tf.map fun p => (He.cT K p).2).Nodup
/-- with defaults that are empty tuples, and several defs that make lambdas -/
structure Hw (fa : List He.Fa) (fn : List He.DefD) (cs : List (Str × List Str)) (ys : List OwnY) (cv : List ConY) (gt : List GetD) (df : List (PySem.W.Frag → Addr)) (tf : List He.Defn) (K : PySem.W.Frag) (mg : Str → Option Value) : Prop extends Hy fa fn cs ys cv gt K mg where
  emps : allE df K = true
  dist : allD tf K = true
section
variable {fa : List He.Fa} {fn : List He.DefD} {cs : List (Str × List Str)} {ys : List OwnY} {cv : List ConY} {gt : List GetD} {df : List (PySem.W.Frag → Addr)} {tf : List He.Defn} {K : PySem.W.Frag} {mg : Str → Option Value}
theorem Hw.emp (T : Hw fa fn cs ys cv gt df tf K mg) (i : Nat) {p : PySem.W.Frag → Addr} (h : df[i]? = some p := by rfl) : empT K (p K) = true :=
  List.all_eq_true.mp T.emps _ (List.mem_of_getElem? h)
theorem Hw.dis (T : Hw fa fn cs ys cv gt df tf K mg) : (tf.map fun p => (He.cT K p).2).Nodup := of_decide_eq_true T.dist
end
theorem tab_uniq {T : List (Addr × Str)} {P : Addr} {q : Str} (nd : (T.map (·.1)).Nodup) (hm : (P, q) ∈ T) : ∀ p ∈ T, p.1 = P → p.2 = q := by
  induction T with
  | nil => cases hm
  | cons a T ih =>
    rw [List.map_cons, List.nodup_cons] at nd
    intro p hp e
    rcases List.mem_cons.mp hm with h1 | h1
    · rcases List.mem_cons.mp hp with rfl | h2
      · rw [← h1]
      · exact absurd (List.mem_map.mpr ⟨p, h2, e.trans (congrArg Prod.fst h1)⟩) nd.1
    · rcases List.mem_cons.mp hp with rfl | h2
      · exact absurd (List.mem_map.mpr ⟨(P, q), h1, e.symm⟩) nd.1
      · exact ih nd.2 h1 p h2 e
section
variable {P : Program} {w : World} {g : Gc} {mg : Str → Option Value} {base : Heap} {k c : Nat} {qual : Str} {st : Stmt} {N ps : List Str} {md : Md} {fb : DS} {f : Addr} {dvs : List V}
end
section
variable {g : Gc} {W : WX} {X : Cx} {e : Expr} {es : List Expr} {fr fk : DA} {x : Str} {c k : Nat} {pos p : Pos} {ps : List Str} {dvs : List V} {F : Fn}
end
section
variable {prog : Program} {w : World} {A : Around} {E : Value → Shared → Prop} {s : Shared} {K : PySem.W.Frag} {x C f : Addr} {ox : Obj} {od : Option Obj}
end
end SD

set_option Elab.async false
set_option linter.all false
set_option maxRecDepth 100000
set_option maxHeartbeats 4000000
namespace SD
open PySem PySem.Spec PyProof.Rows L2
open PySem.HandSPX (HeldZ FlyingZ TracedZ Steady)
section
variable {M : Model} {A : Around} {E : Value → Shared → Prop} {s : Shared} {ev : Env}
end
section
variable {X : Cx} {E : XK} {L : Addr} {pins : List (Addr × Obj)} {σ : L2.St} {H : Hp} {s : Shared}
variable {elt tg iter : Expr} {ifs : List Expr} {scope : Scope} {own : List (Str × Nat)} {pos : Pos}
end
section
variable {g : Gc} {E : XK} {X : Cx} {L : Addr}
variable {elt tg iter : Expr} {ifs : List Expr} {scope : Scope} {own : List (Str × Nat)} {fi : DI} {t : DG} {tt : DT} {te : DE} {sl : List Nat} {N : List Str} {sc : Scope} {pos : Pos}
end
section
variable {g : Gc} {W : WX} {X : Cx}
end
end SD

set_option Elab.async false
set_option linter.all false
set_option maxRecDepth 100000
set_option maxHeartbeats 4000000
namespace SD
open PySem PySem.Spec PyProof.Rows L2 LamX
/-- (w, e), or what the except suite returns -/
def eGotW (w : Str) (cs : List Nat) (fs : DS) (fl : DE) : DE := fun ρ μ => match fl ρ μ with
  | .ok d μ1 => .ok (.tup [.str w, d]) μ1
  | .ex c ns xs μ1 => if cs.contains c = true then (match fs [none, some (.exn c ns xs)] μ1 with
    | .rt d μ2 => if (d.noE && μ2.all CO.noE) = true then .ok d μ2 else .stuck
    | _ => .stuck) else .stuck
  | .stuck => .stuck
theorem ge_gotW {tw : Str} {g : Gc} {W : WX} {X : Cx} {x a n x1 x2 : Str} {ga c P C1 C2 : Addr} {k j1 j2 j3 : Nat} {pg : Arguments} {sg : Scope} {fd : FuncData} {params : Arguments} {body : Expr} {scope : Scope} {b₀ : Stmt} {suite : List Stmt} {cs : List Nat} {fs : DS} {fl : DE}
    {p lpos pos q1 q2 q3 q4 q5 r1 r2 r3 r4 r5 : Pos} (xg : XG g X) (hge : g.ex = none) (hg : Gl X x) (hm : X.mg x = some (.ref ga))
    (F : FunD g.K x x pg [.Try [.Return (some (.Tuple [.Constant (.str tw) j1 q1, .Call (.Name a q2) [] [] q3] j2 q4)) q5] [.ExceptHandler (some (.Tuple [.Name x1 r1, .Name x2 r2] j3 r3)) (some n) (b₀ :: suite) r4] [] [] r5] sg [] [] ga fd)
    (Sg : FnScope [a, n] [a] sg) (hva : Vis sg a) (hn1 : sg.names.lookup n = some .local) (bn : Binds g.K fd [a] [])
    (h1 : sg.names.lookup x1 = some .globalImplicit) (h2 : sg.names.lookup x2 = some .globalImplicit) (m1 : X.mg x1 = some (.ref C1)) (m2 : X.mg x2 = some (.ref C2)) (hex : ∀ c ∈ cs, PySem.W.exmAny g.K (.ref (g.cls c)) [.ref C1, .ref C2] = some true)
    (hsu : ∀ (cdv : Value) (A : Around) (outer : List Env) (s : Shared) (H : Hp) (e d : Addr) (c : Nat) (oe : Obj) (pn : List (Addr × Obj)), Room (k + 1) (A.deeper (envOfC x sg s.heap.objs.size ga cdv)) → Zc (.ref (g.cls c)) (some d) oe → (∃ vs, oe.data = .fields vs) →
      GSs (gX g e d c) (WF E0) ((cxOf C8.CX0 X.prog X.w g.K X.mg X.base [a, n] x sg ga cdv A outer s H C8.E0).suite e ((e, oe) :: pn)) (b₀ :: suite) fs)
    (TB : TabB X.base X.mg c P) (hcode : X.env.code = .ref c) (hmT : (P, X.env.qual ++ "<lambda>") ∈ g.T) (hu : ∀ p ∈ g.T, p.1 = P → p.2 = X.env.qual ++ "<lambda>") (hr : Room (k + 2) X.A) (L : LamS X.env.scope scope) (hdef : defaultsOf params X.env = ([], []))
    (hbind : ∀ (q : Str) (cl : List (Str × Addr)) (pm cv ctv : Value), bindArgs (PySem.W.kla_fn "<lambda>" q params body scope cl pm cv ctv) ⟨[], []⟩ = pure [])
    (hbody : ∀ (A : Around) (outer : List Env) (s : Shared) (H : Hp) (E : XK) (f c' : Addr), Room k (A.deeper (lamEnv X scope s.heap.objs.size f c')) → GE g (WF E) (lamCx X A outer s H E scope f c') body fl)
    (hdb : (x == ("__debug__" : Str)) = false := by decide) (hd : (a == ("__debug__" : Str)) = false := by decide) (hcd : (a == ("__classdict__" : Str)) = false := by decide) (hd1 : (x1 == ("__debug__" : Str)) = false := by decide) (hd2 : (x2 == ("__debug__" : Str)) = false := by decide)
    (ht1 : ∀ env : Env, starEach [.Constant (.str tw) j1 q1, .Call (.Name a q2) [] [] q3] env = (false, eval (.Constant (.str tw) j1 q1) env) :: starEach [.Call (.Name a q2) [] [] q3] env := by intro _; rfl) (ht2 : ∀ env : Env, starEach [.Call (.Name a q2) [] [] q3] env = (false, eval (.Call (.Name a q2) [] [] q3) env) :: starEach [] env := by intro _; rfl) :
    GE g W X (.Call (.Name x p) [.Lambda params body scope lpos] [] pos) (eGotW tw cs fs fl) := by
  obtain ⟨K, cls, T, ex⟩ := g
  obtain rfl : X.K = K := xg.K
  have hge : ex = none := hge
  subst hge
  obtain ⟨oc, od, dV, kV, doc, pm, an, cdv, ct, osl, rfl, lk, hcg, _, _⟩ := F.ex
  refine ⟨fun pins s σ H Q I h => ?_⟩
  obtain ⟨κ, ρ, μ, hE, hS, hw⟩ := h
  refine wpAny_Call_Name_kw (ld_glob I hg hm ?_ hdb)
  refine PySem.W.callWith_K (h₀ := X.base) I.ok.mod.kin F.kp ?_ (by rfl) (by rfl)
  show wpAny _ _ (spliced ((false, eval (.Lambda params body scope lpos) X.env) :: backTo pos (starEach [] X.env))) _ _ s
  refine Calls.spliced_cons (lam_made hS I TB hcode hmT hu hdef (L.has I.ok) fun f c' pm' ctv H1 s' I1 e1 s1 hf hfn hfr hco => ?_)
  refine Calls.spliced_nil ⟨I1.kIn, ?_⟩
  have hE1 := hE.ext e1
  have hw1 : wpR (Gc.mk X.K cls T none) W σ κ H1 (eGotW tw cs fs fl ρ μ) (fun d _ κ' H' => ∀ v, Rel (Gc.mk X.K cls T none) κ' H' d v → Q v H') := hw.ext e1
  have rc : codeAny (model X.prog X.w) X.A (.call (.ref ga) ⟨[.ref f], []⟩) (CR C8.CX0 X.stack X.prog X.w H1 s' Q C8.E0) s' := by
    refine run_ofS (N := [a, n]) (ps := [a]) (us := [.ref f]) (vs := [.ref f]) lk hcg Sg hr I1.env0 (bn s' [.ref f] I1.kIn rfl) (.cons rfl .nil) rfl fun hr' => ?_
    have act : ∀ (W' : WX) (pn : List (Addr × Obj)) (xe : Value → Shared → Prop) (E : XK), Takes ((cxOf C8.CX0 X.prog X.w X.K X.mg X.base [a, n] x sg ga cdv X.A X.stack s' H1 C8.E0).tr pn xe) W' →
        PE ((cxOf C8.CX0 X.prog X.w X.K X.mg X.base [a, n] x sg ga cdv X.A X.stack s' H1 C8.E0).tr pn xe) (.Call (.Name a q2) [] [] q3) (fun σZ HZ Q => (∀ cls d H', E cls d H' → W' cls d σZ H') ∧ σZ[0]? = some (some (.ref f)) ∧ HZ c' = some (CodeO c' (X.env.qual ++ "<lambda>")) ∧ tE (Gc.mk X.K cls T none) (WF E) fl σ HZ Q) := fun W' pn xe E tk =>
      act_at (HZ0 := H1) (i := 0) I1 L hf hfn hfr (hbind _ _ _ _ _) tk hr' (fun A outer s H hr2 => hbody A outer s H E f c' hr2) rfl hva hd hcd
    refine ⟨_, pss_one (ps_try2as (X := cxOf C8.CX0 X.prog X.w X.K X.mg X.base [a, n] x sg ga cdv X.A X.stack s' H1 C8.E0) (i := 1) (c1 := .ref C1) (c2 := .ref C2) (ts := tsOf (Gc.mk X.K cls T none) fs)
      (tb := fun W' D σZ HZ => ∃ E : XK, (∀ cls d H', E cls d H' → W' cls d σZ H') ∧ σZ[0]? = some (some (.ref f)) ∧ HZ c' = some (CodeO c' (X.env.qual ++ "<lambda>")) ∧ tE (Gc.mk X.K cls T none) (WF E) fl σ HZ fun v H2 => ∀ (p : Addr) (ob : Obj), H2 p = none → ob.dict = none → D.rt (.ref p) (upd H2 p (.frz ob (.tup [.str tw, v]))))
      rfl rfl Sg.nd rfl hn1 ⟨h1, m1⟩ ⟨h2, m2⟩ hd1 hd2 (fun W' pn xe tk _ => ?_) (fun e oe cl d pn hz hfld => ?_)), ?_⟩
    · refine ⟨fun pins s2 σ2 H2 D I2 hh => ?_⟩
      obtain ⟨E, w1, w2, w3, w4⟩ := hh
      have hp := pss_one (ps_ret (pos := q5) (pe_tupF (k := j2) (pos := q4) (pa_cons (pe_str (j := j1) (pos := q1)) (pa_cons (act W' pn xe E tk) pa_nil (ht2 _)) (ht1 _))))
      refine hp.run pins s2 σ2 H2 D I2 ⟨w1, w2, w3, ?_⟩
      obtain ⟨κ2, ρ2, μ2, z1, z2, z3⟩ := w4
      exact ⟨κ2, ρ2, μ2, z1, z2, z3.mono fun d _ κ3 H3 _ _ y v rv => ⟨by show 2 ≤ sizeLine; rw [sizeLine_eq]; decide, y v rv⟩⟩
    · refine ⟨fun pins s2 σ2 H2 D I2 hh => ?_⟩
      obtain ⟨c2, dd, rfl, rfl, hh⟩ := hh
      exact (hsu cdv X.A X.stack s' H1 e dd c2 oe pn hr' hz hfld).run pins s2 σ2 H2 D I2 hh
    · -- the readings meet
      refine ⟨fun cl d H' => wAs2 X.K (.ref C1) (.ref C2) 1 (tsOf (Gc.mk X.K cls T none) fs) { nx := fun _ H' => Q .non H', rt := Q } cl d (L2.start [a, n] [.ref f]) H', fun _ _ _ z => z, rfl, hco.1, κ, ρ, μ, hE1, s1, ?_⟩
      unfold eGotW at hw1
      cases hfl : fl ρ μ with
      | ok d μ1 =>
        rw [hfl] at hw1
        intro κ2 H2 e2 s2 v rv p ob hp hob
        refine hw1 κ2 _ (e2.trans (Ext.new s2 hp)) (s2.new hp) (.ref p) ?_
        exact rel_tup s2 hp hob (RelL.cons (by simp [Rel]) (RelL.cons rv RelL.nil))
      | stuck => rw [hfl] at hw1; exact hw1
      | ex c2 ns xs μ1 =>
        rw [hfl] at hw1
        simp only at hw1
        by_cases hc : cs.contains c2 = true
        · rw [if_pos hc] at hw1
          cases hfs : fs [none, some (.exn c2 ns xs)] μ1 with
          | rt d2 μ2 =>
            rw [hfs] at hw1
            simp only at hw1
            by_cases hn : (d2.noE && μ2.all CO.noE) = true
            · rw [if_pos hn] at hw1
              rw [Bool.and_eq_true] at hn
              intro κ2 H2 e2 s2 dd vs hAt hl hrel
              refine ⟨hex c2 (by simpa using hc), fun e he => ⟨c2, dd, rfl, rfl, κ2, [none, some (.exn c2 ns xs)], μ1, ⟨rfl, fun i d hi => ?_⟩, ?_, ?_⟩⟩
              · match i, hi with
                | 0, hi => simp at hi
                | 1, hi =>
                  have : d = .exn c2 ns xs := by simpa using hi.symm
                  subst this
                  refine ⟨.ref e, rfl, ?_⟩
                  simp only [Rel]
                  exact ⟨e, dd, vs, rfl, rfl, hAt, hl, RelL.swap (g := Gc.mk X.K cls T none) (g' := gX (Gc.mk X.K cls T none) e dd c2) rfl rfl (RelL.isNoE (g := Gc.mk X.K cls T none) rfl hrel) hrel⟩
                | i + 2, hi => simp at hi
              · exact StoOk.swap (g := Gc.mk X.K cls T none) (g' := gX (Gc.mk X.K cls T none) e dd c2) rfl rfl rfl (StoOk.isNoE (g := Gc.mk X.K cls T none) rfl s2) s2
              · rw [hfs]
                intro κ3 H3 v e3 s3 rv
                exact hw1 κ3 H3 (e2.trans e3) (StoOk.swap (g := gX (Gc.mk X.K cls T none) e dd c2) (g' := Gc.mk X.K cls T none) rfl rfl rfl (List.all_eq_true.mp hn.2) s3) v (Rel.swap (g := gX (Gc.mk X.K cls T none) e dd c2) (g' := Gc.mk X.K cls T none) rfl rfl hn.1 rv)
            · rw [if_neg hn] at hw1; exact hw1.elim
          | nx _ _ => rw [hfs] at hw1; exact hw1.elim
          | bk _ _ => rw [hfs] at hw1; exact hw1.elim
          | ct _ _ => rw [hfs] at hw1; exact hw1.elim
          | ex _ _ _ _ _ => rw [hfs] at hw1; exact hw1.elim
          | stuck => rw [hfs] at hw1; exact hw1.elim
        · rw [if_neg hc] at hw1; exact hw1.elim
  refine wpAny_call (codeAny_mono rc fun r s2 hq => ?_)
  cases r with
  | error e => exact (show False from hq).elim
  | ok fl =>
    cases fl with
    | ret u => exact I1.after hq
    | next => exact False.elim hq
    | brk => exact False.elim hq
    | cont => exact False.elim hq
/-- of one of two kinds, at each place -/
theorem ge_either {g : Gc} {W : WX} {X : Cx} {e : Expr} {f f1 f2 : DE} (h1 : GE g W X e f1) (h2 : GE g W X e f2) (hf : ∀ ρ μ, f ρ μ = f1 ρ μ ∨ f ρ μ = f2 ρ μ ∨ f ρ μ = .stuck) : GE g W X e f := by
  refine ⟨fun pins s σ H Q I h => ?_⟩
  obtain ⟨κ, ρ, μ, hE, hs, hw⟩ := h
  rcases hf ρ μ with e | e | e
  · exact h1.run pins s σ H Q I ⟨κ, ρ, μ, hE, hs, by rw [← e]; exact hw⟩
  · exact h2.run pins s σ H Q I ⟨κ, ρ, μ, hE, hs, by rw [← e]; exact hw⟩
  · rw [e] at hw; exact hw.elim
end SD

set_option Elab.async false
set_option linter.all false
set_option maxRecDepth 100000
set_option maxHeartbeats 4000000
namespace SD
open PySem PySem.Spec PyProof.Rows L2
/-- the pairs -/
def zipD (xs ys : List DV) : List DV := (xs.zip ys).map fun p => .tup [p.1, p.2]
theorem zipD_some {xs ys : List DV} {k : Nat} {d : DV} (h : (zipD xs ys)[k]? = some d) : ∃ x y, d = .tup [x, y] ∧ xs[k]? = some x ∧ ys[k]? = some y := by
  unfold zipD at h
  rw [List.getElem?_map] at h
  obtain ⟨p, hp, rfl⟩ := Option.map_eq_some_iff.mp h
  rw [List.getElem?_zip_eq_some] at hp
  exact ⟨_, _, rfl, hp.1, hp.2⟩
theorem zipD_none {xs ys : List DV} {k : Nat} (h : (zipD xs ys)[k]? = none) : xs.length ≤ k ∨ ys.length ≤ k := by
  have := List.getElem?_eq_none_iff.mp h
  unfold zipD at this
  rw [List.length_map, List.length_zip] at this
  omega
/-- zip of two lists: the pairs are told in full -/
def ItZL (K : PySem.W.Frag) (a b : Addr) : It :=
  ⟨fun i H => ∃ (xs ys : List V) (x y : V), SqL K H a xs ∧ SqL K H b ys ∧ xs[i]? = some x ∧ ys[i]? = some y,
    fun i H v H' => ∃ T ob x y, v = .ref T ∧ ob.dict = none ∧ H T = none ∧ H' = upd H T (.frz ob (.tup [x, y])) ∧ (∀ xs, SqL K H a xs → xs[i]? = some x) ∧ ∀ ys, SqL K H b ys → ys[i]? = some y,
    fun i H => ∃ xs ys : List V, SqL K H a xs ∧ SqL K H b ys ∧ (xs.length ≤ i ∨ ys.length ≤ i)⟩
theorem turnZL {P : Program} {w : World} {K : PySem.W.Frag} {elts : List Expr} {kk : Nat} {tpos : Pos} {a b z TI TO i1 i2 : Addr} (D : ZipApart z TI TO i1 i2 a b) :
    Turn P w K (.Tuple elts kk tpos) (ItZL K a b) [z, TI, TO, i1, i2] z (fun i h => IsZip h z TI TO .none ∧ IsPair h TI (.ref i1) (.ref i2) ∧ (∃ x y, IsPair h TO x y) ∧ h.IsListIter i1 a i ∧ h.IsListIter i2 b i) where
  mem := by simp
  obj := fun i h st c hc => by
    obtain ⟨hz, hTI, ⟨x, y, hTO⟩, ⟨o1, e1, _, d1⟩, ⟨o2, e2, _, d2⟩⟩ := st
    have e' : c = z ∨ c = TI ∨ c = TO ∨ c = i1 ∨ c = i2 := by simpa using hc
    rcases e' with rfl | rfl | rfl | rfl | rfl
    · exact ⟨_, hz, fun v q => nomatch q⟩
    · exact ⟨_, hTI, fun v q => nomatch q⟩
    · exact ⟨_, hTO, fun v q => nomatch q⟩
    · exact ⟨o1, e1, fun v q => by rw [d1] at q; cases q⟩
    · exact ⟨o2, e2, fun v q => by rw [d2] at q; cases q⟩
  keep := fun i h h' st k => by
    obtain ⟨hz, hTI, ⟨x, y, hTO⟩, h1, h2⟩ := st
    exact ⟨k z (by simp) _ hz, k TI (by simp) _ hTI, ⟨x, y, k TO (by simp) _ hTO⟩, h1.at fun o q => k i1 (by simp) o q, h2.at fun o q => k i2 (by simp) o q⟩
  item := by
    intro X hP hw hK hc i pins s σ H E I hf st hg
    subst hP hw hK
    obtain ⟨hz, hTI, ⟨x0, y0, hTO⟩, h1, h2⟩ := st
    obtain ⟨xs, ys, x, y, hqx, hqy, hx, hy⟩ := hg
    obtain ⟨its, rv, p, _⟩ := I.list hqx
    obtain ⟨its2, rv2, p2, _⟩ := I.list hqy
    obtain ⟨u, hu, ru⟩ := rv.get hx
    obtain ⟨u2, hu2, ru2⟩ := rv2.get hy
    have hzl : z < s.heap.objs.size := Heap.lt_size hz
    refine wpAny_pyNext_zip_item D hz hTI hTO h1 h2 p.isList p2.isList (x := u) (y := u2) (by simpa using hu) (by simpa using hu2) fun h' z' TO' h1' h2' hT hsz hk => ?_
    refine ⟨_, rfl, wpAny_letOwnedTupleGo_zip (s := { s with heap := h' }) z' fun h'' z'' sb => ?_⟩
    have hT2 : h''.get? s.heap.objs.size = some { cls := .type "tuple", data := .seq #[u, u2] } := (sb.2 _ (Nat.ne_of_gt hzl)).trans hT
    have kp : ∀ (c : Addr) (o : Obj), c ∉ [z, TI, TO, i1, i2] → s.heap.get? c = some o → h''.get? c = some o := fun c o hb q =>
      (sb.2 c (fun q' => hb (by simp [q']))).trans (hk c o (fun q' => hb (by simp [q'])) (fun q' => hb (by simp [q'])) (fun q' => hb (by simp [q'])) (fun q' => hb (by simp [q'])) q)
    have new : ObjOk X.prog X.w (upd H s.heap.objs.size (.frz { cls := .type "tuple", data := .seq #[u, u2] } (.tup [x, y]))) h'' s.heap.objs.size (.frz { cls := .type "tuple", data := .seq #[u, u2] } (.tup [x, y])) :=
      ⟨hT2, by show 2 ≤ sizeLine; decide, [u, u2], .cons ru (.cons ru2 .nil), _, hT2, rfl, _, rfl⟩
    have I1 : Inv X pins σ (upd H s.heap.objs.size (.frz { cls := .type "tuple", data := .seq #[u, u2] } (.tup [x, y]))) { s with heap := h'' } := I.turnedNew (t' := s.toks) (ch := [z, TI, TO, i1, i2]) kp hf (Nat.le_refl _) new
    refine ⟨.ref s.heap.objs.size, _, I1, rfl, ⟨_, _, x, y, rfl, rfl, I.hok.fresh (Nat.le_refl _), rfl, fun l hl => by rw [I.list_inj hl hqx]; exact hx, fun l hl => by rw [I.list_inj hl hqy]; exact hy⟩, ⟨z'', ?_, ⟨u, u2, ?_⟩, ?_, ?_⟩, fun c hcm => ?_⟩
    · exact (sb.2 _ D.TIz).trans (hk _ _ D.TIz D.TITO D.TIi1 D.TIi2 hTI)
    · exact (sb.2 _ D.TOz).trans TO'
    · exact h1'.at fun o q => (sb.2 _ D.i1z).trans q
    · exact h2'.at fun o q => (sb.2 _ D.i2z).trans q
    · have hlt : c < s.heap.objs.size := by
        have e' : c = z ∨ c = TI ∨ c = TO ∨ c = i1 ∨ c = i2 := by simpa using hcm
        rcases e' with rfl | rfl | rfl | rfl | rfl
        · exact hzl
        · exact Heap.lt_size hTI
        · exact Heap.lt_size hTO
        · obtain ⟨_, e1, _⟩ := h1; exact Heap.lt_size e1
        · obtain ⟨_, e2, _⟩ := h2; exact Heap.lt_size e2
      rw [upd_ne (Nat.ne_of_lt hlt)]
      exact (hf c hcm).1
  done := by
    intro X hP hw hK hc i pins s σ H E I hf st hg
    subst hP hw hK
    obtain ⟨hz, hTI, ⟨x0, y0, hTO⟩, h1, h2⟩ := st
    obtain ⟨xs, ys, hqx, hqy, hend⟩ := hg
    obtain ⟨its, rv, p, _⟩ := I.list hqx
    obtain ⟨its2, rv2, p2, _⟩ := I.list hqy
    have l1 := rv.length
    have l2 := rv2.length
    have he : its.toArray[i]? = none ∨ its2.toArray[i]? = none := by
      rcases hend with q | q
      · exact .inl (by simp; omega)
      · exact .inr (by simp; omega)
    exact wpAny_pyNext_zip_end (I.ok.hd hc) D hz hTI hTO h1 h2 p.isList p2.isList he fun h' hk => ⟨rfl, I.turnedL (t' := s.toks) (ch := [z, TI, TO, i1, i2]) (fun c o hb q =>
      hk c o (fun q' => hb (by simp [q'])) (fun q' => hb (by simp [q'])) (fun q' => hb (by simp [q'])) (fun q' => hb (by simp [q'])) q) hf⟩
  self := fun A i s Q E st h => wpAny_pyIter_zip st.1 h
theorem wkZL {g : Gc} {κ : KA} {H : Hp} {a b : Addr} {ds es : List DV} {vs ws : List V} (h : FrL g κ H a vs) (r : RelL g κ H ds vs) (h2 : FrL g κ H b ws) (r2 : RelL g κ H es ws) : WkOk g (ItZL g.K a b) κ H (.fix (zipD ds es)) where
  stop := fun k κ' H' μ e s hk => ⟨vs, ws, (h.ext0 e).sq, (h2.ext0 e).sq, by
    have := zipD_none (Option.some.inj hk)
    rw [← r.length, ← r2.length]
    exact this⟩
  go := fun k κ' H' μ d e s hk => by
    obtain ⟨x, y, rfl, e1, e2⟩ := zipD_some (Option.some.inj hk)
    obtain ⟨v, h1, _⟩ := r.get e1
    obtain ⟨v2, h3, _⟩ := r2.get e2
    exact ⟨vs, ws, v, v2, (h.ext0 e).sq, (h2.ext0 e).sq, h1, h3⟩
  yld := fun k κ' H' μ d x H'' e s hk y => by
    obtain ⟨p, q, rfl, e1, e2⟩ := zipD_some (Option.some.inj hk)
    obtain ⟨T, ob, u, u2, rfl, hd, hT, rfl, f1, f2⟩ := y
    obtain ⟨v, h1, rv⟩ := (r.ext0 e).get e1
    obtain ⟨v2, h3, rv2⟩ := (r2.ext0 e).get e2
    have g1 := f1 vs (h.ext0 e).sq
    rw [h1] at g1; cases g1
    have g2 := f2 ws (h2.ext0 e).sq
    rw [h3] at g2; cases g2
    exact ⟨Ext.new s hT, s.new hT, rel_tup s hT hd (RelL.cons rv (RelL.cons rv2 RelL.nil))⟩
/-- zip of two tuples: the pairs are told in full -/
def ItZT (K : PySem.W.Frag) (a b : Addr) : It :=
  ⟨fun i H => ∃ (xs ys : List V) (x y : V), SqT K H a xs ∧ SqT K H b ys ∧ xs[i]? = some x ∧ ys[i]? = some y,
    fun i H v H' => ∃ T ob x y, v = .ref T ∧ ob.dict = none ∧ H T = none ∧ H' = upd H T (.frz ob (.tup [x, y])) ∧ (∀ xs, SqT K H a xs → xs[i]? = some x) ∧ ∀ ys, SqT K H b ys → ys[i]? = some y,
    fun i H => ∃ xs ys : List V, SqT K H a xs ∧ SqT K H b ys ∧ (xs.length ≤ i ∨ ys.length ≤ i)⟩
theorem turnZT {P : Program} {w : World} {K : PySem.W.Frag} {elts : List Expr} {kk : Nat} {tpos : Pos} {a b z TI TO i1 i2 : Addr} (D : ZipApart z TI TO i1 i2 a b) :
    Turn P w K (.Tuple elts kk tpos) (ItZT K a b) [z, TI, TO, i1, i2] z (fun i h => IsZip h z TI TO .none ∧ IsPair h TI (.ref i1) (.ref i2) ∧ (∃ x y, IsPair h TO x y) ∧ h.IsTupleIter i1 a i ∧ h.IsTupleIter i2 b i) where
  mem := by simp
  obj := fun i h st c hc => by
    obtain ⟨hz, hTI, ⟨x, y, hTO⟩, ⟨o1, e1, _, d1⟩, ⟨o2, e2, _, d2⟩⟩ := st
    have e' : c = z ∨ c = TI ∨ c = TO ∨ c = i1 ∨ c = i2 := by simpa using hc
    rcases e' with rfl | rfl | rfl | rfl | rfl
    · exact ⟨_, hz, fun v q => nomatch q⟩
    · exact ⟨_, hTI, fun v q => nomatch q⟩
    · exact ⟨_, hTO, fun v q => nomatch q⟩
    · exact ⟨o1, e1, fun v q => by rw [d1] at q; cases q⟩
    · exact ⟨o2, e2, fun v q => by rw [d2] at q; cases q⟩
  keep := fun i h h' st k => by
    obtain ⟨hz, hTI, ⟨x, y, hTO⟩, h1, h2⟩ := st
    exact ⟨k z (by simp) _ hz, k TI (by simp) _ hTI, ⟨x, y, k TO (by simp) _ hTO⟩, h1.at fun o q => k i1 (by simp) o q, h2.at fun o q => k i2 (by simp) o q⟩
  item := by
    intro X hP hw hK hc i pins s σ H E I hf st hg
    subst hP hw hK
    obtain ⟨hz, hTI, ⟨x0, y0, hTO⟩, h1, h2⟩ := st
    obtain ⟨xs, ys, x, y, hqx, hqy, hx, hy⟩ := hg
    obtain ⟨its, rv, p, _⟩ := I.tuple hqx
    obtain ⟨its2, rv2, p2, _⟩ := I.tuple hqy
    obtain ⟨u, hu, ru⟩ := rv.get hx
    obtain ⟨u2, hu2, ru2⟩ := rv2.get hy
    have hzl : z < s.heap.objs.size := Heap.lt_size hz
    refine RZ.pyNext_zipT_item D hz hTI hTO h1 h2 p p2 (x := u) (y := u2) (by simpa using hu) (by simpa using hu2) fun h' z' TO' h1' h2' hT hsz hk => ?_
    refine ⟨_, rfl, wpAny_letOwnedTupleGo_zip (s := { s with heap := h' }) z' fun h'' z'' sb => ?_⟩
    have hT2 : h''.get? s.heap.objs.size = some { cls := .type "tuple", data := .seq #[u, u2] } := (sb.2 _ (Nat.ne_of_gt hzl)).trans hT
    have kp : ∀ (c : Addr) (o : Obj), c ∉ [z, TI, TO, i1, i2] → s.heap.get? c = some o → h''.get? c = some o := fun c o hb q =>
      (sb.2 c (fun q' => hb (by simp [q']))).trans (hk c o (fun q' => hb (by simp [q'])) (fun q' => hb (by simp [q'])) (fun q' => hb (by simp [q'])) (fun q' => hb (by simp [q'])) q)
    have new : ObjOk X.prog X.w (upd H s.heap.objs.size (.frz { cls := .type "tuple", data := .seq #[u, u2] } (.tup [x, y]))) h'' s.heap.objs.size (.frz { cls := .type "tuple", data := .seq #[u, u2] } (.tup [x, y])) :=
      ⟨hT2, by show 2 ≤ sizeLine; decide, [u, u2], .cons ru (.cons ru2 .nil), _, hT2, rfl, _, rfl⟩
    have I1 : Inv X pins σ (upd H s.heap.objs.size (.frz { cls := .type "tuple", data := .seq #[u, u2] } (.tup [x, y]))) { s with heap := h'' } := I.turnedNew (t' := s.toks) (ch := [z, TI, TO, i1, i2]) kp hf (Nat.le_refl _) new
    refine ⟨.ref s.heap.objs.size, _, I1, rfl, ⟨_, _, x, y, rfl, rfl, I.hok.fresh (Nat.le_refl _), rfl, fun l hl => by rw [I.tuple_inj hl hqx]; exact hx, fun l hl => by rw [I.tuple_inj hl hqy]; exact hy⟩, ⟨z'', ?_, ⟨u, u2, ?_⟩, ?_, ?_⟩, fun c hcm => ?_⟩
    · exact (sb.2 _ D.TIz).trans (hk _ _ D.TIz D.TITO D.TIi1 D.TIi2 hTI)
    · exact (sb.2 _ D.TOz).trans TO'
    · exact h1'.at fun o q => (sb.2 _ D.i1z).trans q
    · exact h2'.at fun o q => (sb.2 _ D.i2z).trans q
    · have hlt : c < s.heap.objs.size := by
        have e' : c = z ∨ c = TI ∨ c = TO ∨ c = i1 ∨ c = i2 := by simpa using hcm
        rcases e' with rfl | rfl | rfl | rfl | rfl
        · exact hzl
        · exact Heap.lt_size hTI
        · exact Heap.lt_size hTO
        · obtain ⟨_, e1, _⟩ := h1; exact Heap.lt_size e1
        · obtain ⟨_, e2, _⟩ := h2; exact Heap.lt_size e2
      rw [upd_ne (Nat.ne_of_lt hlt)]
      exact (hf c hcm).1
  done := by
    intro X hP hw hK hc i pins s σ H E I hf st hg
    subst hP hw hK
    obtain ⟨hz, hTI, ⟨x0, y0, hTO⟩, h1, h2⟩ := st
    obtain ⟨xs, ys, hqx, hqy, hend⟩ := hg
    obtain ⟨its, rv, p, _⟩ := I.tuple hqx
    obtain ⟨its2, rv2, p2, _⟩ := I.tuple hqy
    have l1 := rv.length
    have l2 := rv2.length
    have he : its.toArray[i]? = none ∨ its2.toArray[i]? = none := by
      rcases hend with q | q
      · exact .inl (by simp; omega)
      · exact .inr (by simp; omega)
    exact RZ.pyNext_zipT_end (I.ok.hd hc) D hz hTI hTO h1 h2 p p2 he fun h' hk => ⟨rfl, I.turnedL (t' := s.toks) (ch := [z, TI, TO, i1, i2]) (fun c o hb q =>
      hk c o (fun q' => hb (by simp [q'])) (fun q' => hb (by simp [q'])) (fun q' => hb (by simp [q'])) (fun q' => hb (by simp [q'])) q) hf⟩
  self := fun A i s Q E st h => wpAny_pyIter_zip st.1 h
theorem wkZT {g : Gc} {κ : KA} {H : Hp} {a b : Addr} {ds es : List DV} {vs ws : List V} (h : FrT g κ H a vs) (r : RelL g κ H ds vs) (h2 : FrT g κ H b ws) (r2 : RelL g κ H es ws) : WkOk g (ItZT g.K a b) κ H (.fix (zipD ds es)) where
  stop := fun k κ' H' μ e s hk => ⟨vs, ws, (h.ext0 e).sq, (h2.ext0 e).sq, by
    have := zipD_none (Option.some.inj hk)
    rw [← r.length, ← r2.length]
    exact this⟩
  go := fun k κ' H' μ d e s hk => by
    obtain ⟨x, y, rfl, e1, e2⟩ := zipD_some (Option.some.inj hk)
    obtain ⟨v, h1, _⟩ := r.get e1
    obtain ⟨v2, h3, _⟩ := r2.get e2
    exact ⟨vs, ws, v, v2, (h.ext0 e).sq, (h2.ext0 e).sq, h1, h3⟩
  yld := fun k κ' H' μ d x H'' e s hk y => by
    obtain ⟨p, q, rfl, e1, e2⟩ := zipD_some (Option.some.inj hk)
    obtain ⟨T, ob, u, u2, rfl, hd, hT, rfl, f1, f2⟩ := y
    obtain ⟨v, h1, rv⟩ := (r.ext0 e).get e1
    obtain ⟨v2, h3, rv2⟩ := (r2.ext0 e).get e2
    have g1 := f1 vs (h.ext0 e).sq
    rw [h1] at g1; cases g1
    have g2 := f2 ws (h2.ext0 e).sq
    rw [h3] at g2; cases g2
    exact ⟨Ext.new s hT, s.new hT, rel_tup s hT hd (RelL.cons rv (RelL.cons rv2 RelL.nil))⟩
def iZipB (K : PySem.W.Frag) (ta : TA) : TI := fun σ H R => ta σ H fun vs H1 => ∃ a b xs ys, vs = [.ref a, .ref b] ∧ ((SqL K H1 a xs ∧ SqL K H1 b ys ∧ R (ItZL K a b) H1) ∨ (SqT K H1 a xs ∧ SqT K H1 b ys ∧ R (ItZT K a b) H1))
theorem pi_zipB {X : Cx} {e e2 : Expr} {ta : TA} {p pos tpos : Pos} {elts : List Expr} {kk : Nat} (hg : Gl X "zip") (hm : X.mg "zip" = none) (ha : PA X [e, e2] ta)
    (hs : starEach [e, e2] X.env = (false, eval e X.env) :: starEach [e2] X.env := by rfl) (hpl : (backTo pos (starEach [e2] X.env)).any (·.1) = false := by rfl) :
    PI X (.Tuple elts kk tpos) (.Call (.Name "zip" p) [e, e2] [] pos) (iZipB X.K ta) := by
  refine ⟨fun pins s σ H R I h => ?_⟩
  refine Call_ (ld_blt I hg hm PyProof.Rows.boot_zip (PyProof.Rows.callWith_type1 (thn (ha.run pos pins s σ H _ I h) fun us s1 ⟨vs, H1, I1, r1, q1⟩ => ?_) hs hpl))
  obtain ⟨a, b, xs, ys, ex, q1⟩ := q1
  subst ex
  cases r1 with
  | cons r rr =>
    cases rr with
    | cons r' rr =>
      cases rr
      cases r
      cases r'
      have fresh5 : ∀ c, c ∈ [s1.heap.objs.size + 4, s1.heap.objs.size + 2, s1.heap.objs.size + 3, s1.heap.objs.size, s1.heap.objs.size + 1] → FpOk X pins H1 c := fun c hcm => by
        have e' : c = s1.heap.objs.size + 4 ∨ c = s1.heap.objs.size + 2 ∨ c = s1.heap.objs.size + 3 ∨ c = s1.heap.objs.size ∨ c = s1.heap.objs.size + 1 := by simpa using hcm
        have hle : s1.heap.objs.size ≤ c := by
          rcases e' with z | z | z | z | z <;> omega
        exact I1.fpOk hle (I1.hok.fresh hle)
      rcases q1 with ⟨hqx, hqy, q⟩ | ⟨hqx, hqy, q⟩
      · obtain ⟨its, rv, p1, _⟩ := I1.list hqx
        obtain ⟨its2, rv2, p2, _⟩ := I1.list hqy
        refine call_zip_2 p1.isList p2.isList fun h' hz hTI hTO h1 h2 hsz hk => wpAny_pyIter_zip hz ?_
        have I2 : Inv X pins σ H1 { s1 with heap := h' } := I1.kept (t' := s1.toks) hk
        exact ⟨s1.heap.objs.size + 4, [s1.heap.objs.size + 4, s1.heap.objs.size + 2, s1.heap.objs.size + 3, s1.heap.objs.size, s1.heap.objs.size + 1], _, _, H1, rfl, I2, turnZL (PySem.W.ktu_apart s1.heap.objs.size a b p1.lt p2.lt), ⟨hz, hTI, ⟨_, _, hTO⟩, h1, h2⟩, fresh5, q⟩
      · obtain ⟨its, rv, p1, _⟩ := I1.tuple hqx
        obtain ⟨its2, rv2, p2, _⟩ := I1.tuple hqy
        obtain ⟨o1, ho1, _⟩ := id p1
        obtain ⟨o2, ho2, _⟩ := id p2
        refine RZ.call_zipT (show s1.heap.IsTuple a its.toArray from p1) (show s1.heap.IsTuple b its2.toArray from p2) fun h' hz hTI hTO h1 h2 hsz hk => wpAny_pyIter_zip hz ?_
        have I2 : Inv X pins σ H1 { s1 with heap := h' } := I1.kept (t' := s1.toks) hk
        exact ⟨s1.heap.objs.size + 4, [s1.heap.objs.size + 4, s1.heap.objs.size + 2, s1.heap.objs.size + 3, s1.heap.objs.size, s1.heap.objs.size + 1], _, _, H1, rfl, I2, turnZT (PySem.W.ktu_apart s1.heap.objs.size a b (Heap.lt_size ho1) (Heap.lt_size ho2)), ⟨hz, hTI, ⟨_, _, hTO⟩, h1, h2⟩, fresh5, q⟩
/-- what zip walks -/
def wkZip : List DV → Option Wk
  | [.lst xs, .lst ys] => some (.fix (zipD xs ys))
  | [.tup xs, .tup ys] => some (.fix (zipD xs ys))
  | _ => none
def iZip2 (r : DA) : DI := fun ρ μ => (r ρ μ).bind fun ds μ1 => R.of (wkZip ds) μ1
section
variable {g : Gc} {W : WX} {X : Cx} {a b : Expr} {fr : DA} {p pos : Pos}
theorem gi_zip {elts : List Expr} {kk : Nat} {tpos : Pos} (xg : XG g X) (hg : Gl X "zip") (hm : X.mg "zip" = none) (ha : GA g W X [a, b] fr)
    (hs : starEach [a, b] X.env = (false, eval a X.env) :: starEach [b] X.env := by rfl) (hpl : (backTo pos (starEach [b] X.env)).any (·.1) = false := by rfl) :
    GI g W X (.Tuple elts kk tpos) (.Call (.Name "zip" p) [a, b] [] pos) (iZip2 fr) := PI.imp (pi_zipB hg hm ha hs hpl) fun σ H R q => by
  obtain ⟨κ, ρ, μ, he, hs, hw⟩ := q
  refine ⟨κ, ρ, μ, he, hs, hw.bind.mono fun ds μ1 κ1 H1 e1 s1 h1 vs rv => ?_⟩
  cases k : wkZip ds with
  | none => rw [k] at h1; exact h1.elim
  | some wk =>
    rw [k] at h1
    unfold wkZip at k
    split at k
    · cases k
      obtain ⟨v, r, rfl, q1, q2⟩ := rv.of_cons
      obtain ⟨v2, r2, rfl, q3, q4⟩ := q2.of_cons
      cases q4.of_nil
      simp only [Rel] at q1 q3
      obtain ⟨a1, ws, rfl, h2, h3⟩ := q1
      obtain ⟨a2, ws2, rfl, h4, h5⟩ := q3
      rw [xg.K]
      exact ⟨a1, a2, ws, ws2, rfl, .inl ⟨.inl (.inl h2.1), .inl (.inl h4.1), h1 κ1 H1 Ext.refl s1 _ (wkZL (.inl h2) h3 (.inl h4) h5)⟩⟩
    · cases k
      obtain ⟨v, r, rfl, q1, q2⟩ := rv.of_cons
      obtain ⟨v2, r2, rfl, q3, q4⟩ := q2.of_cons
      cases q4.of_nil
      simp only [Rel] at q1 q3
      obtain ⟨a1, ws, rfl, h2, h3⟩ := q1
      obtain ⟨a2, ws2, rfl, h4, h5⟩ := q3
      rw [xg.K]
      exact ⟨a1, a2, ws, ws2, rfl, .inr ⟨h2.sq, h4.sq, h1 κ1 H1 Ext.refl s1 _ (wkZT h2 h3 h4 h5)⟩⟩
    · cases k
end
end SD

set_option Elab.async false
set_option linter.all false
set_option maxRecDepth 100000
set_option maxHeartbeats 4000000
namespace PySem.W
open PySem PySem.Spec PySem.Calls PyProof.Rows
section
variable {prog : Program} {w : World} {A : Around} {E : Value → Shared → Prop} {s : Shared} {K : Frag} {x y C D L f f2 : Addr} {h₀ : Heap} {m : Str → Option Value} {ox oy : Obj} {od oe : Option Obj}
/-- the right side is an instance of a class that is not below the left one's, and defines the operator, too -/
theorem ksp_binI {op : Operator} {rc rd : Option Value} {Q : Value → Shared → Prop} (F : Fr h₀ L s.heap m) (X₀ : K.In h₀) (I : InstAt s.heap x ox C od) (J : InstAt s.heap y oy D oe) (hc : selfFirst K C = true) (hd : selfFirst K D = true) (hne : (C == D) = false)
    (hs : findIn K (.ref C) (PySem.dunder op.info.2) = some (some (.ref f))) (hf : isFn K (.ref f) = true) (hr : findIn K (.ref C) (dunderR op.info.2) = some rc) (hp : rc = none ∨ ∃ g : Addr, rc = some (.ref g))
    (hs2 : findIn K (.ref D) (PySem.dunder op.info.2) = some (some (.ref f2))) (hr2 : findIn K (.ref D) (dunderR op.info.2) = some rd) (hp2 : rd = none ∨ ∃ g : Addr, rd = some (.ref g))
    (hsub : subIn K (.ref D) (.ref C) = some false)
    (h : wpAny (model prog w) A (call (.ref f) [.ref x, .ref y]) (CmpBack Q) E s) : wpAny (model prog w) A (binaryOp op (.ref x) (.ref y)) Q E s := by
  have X := X₀.keeps F.keep
  obtain ⟨cd, rest, hcd, hm⟩ := ksp_first hc
  obtain ⟨cd2, rest2, hcd2, hm2⟩ := ksp_first hd
  rcases hi : op.info with ⟨sym, nm'⟩
  rw [hi] at hs hr hs2 hr2
  dsimp only at hs hr hs2 hr2
  have one := ksp_try X I hs hf h
  obtain ⟨hh, g, d, tt, os⟩ := s
  have L1 : Looks (model prog w) hh (typeOf (.ref x)) (.ref C) := I.type
  have L2 : Looks (model prog w) hh (typeOf (.ref y)) (.ref D) := J.type
  have L3 : Looks (model prog w) hh (fillsNumberSlot (.ref C) nm') true := fills_K X hcd hm hs
  have L4 : Looks (model prog w) hh (fillsNumberSlot (.ref D) nm') true := fills_K X hcd2 hm2 hs2
  have L5 : Looks (model prog w) hh (isSubtype (.ref D) (.ref C)) false := looks_subIn X hsub
  have L6 : Looks (model prog w) hh (numberSlotInPython (.ref C) nm') true := ksp_inPy X hs hr hp
  have L7 : Looks (model prog w) hh (numberSlotInPython (.ref D) nm') true := ksp_inPy X hs2 hr2 hp2
  have hne' : (Value.ref C == Value.ref D) = false := Bool.eq_false_iff.mpr fun q => by
    have := beq_iff_eq.mp q
    injection this with this
    rw [this] at hne
    simp at hne
  simp only [binaryOp, hi]
  refine wpAny_holding (wpAny_bind ?_)
  unfold binaryOp1
  refine wpAny_bind (L1.at (wpAny_bind (L2.at (wpAny_bind (L3.at ?_)))))
  simp only [hne', Bool.false_eq_true, if_false]
  ksp_lk
  refine wpAny_mono one (fun r s' hr' => ?_) fun _ _ e => e
  obtain ⟨v, rfl, hq⟩ := hr'
  ksp_lk
  exact hq
end
end PySem.W
namespace PySem.W
open PySem PySem.Spec PySem.Calls PyProof.Rows
abbrev rorId : String := "type.__ror__"
abbrev rorW (x : Addr) : Obj := { cls := .type "method-wrapper", dict := none, data := .fields #[.builtin rorId, .ref x], slots := #[] }
theorem ror_type : typeOf (.builtin rorId) = pure (.type "wrapper_descriptor") := by show builtinType _ = _; rw [builtinType_eq_fast]; kernel_rfl
theorem ror_nac : (kfb_private% "nameAndClass") (Value.builtin rorId) = (pure (("__ror__" : Str), Value.type "type") : Sem (Str × Value)) := by kernel_rfl
theorem mw_slot_ne : Slot "method-wrapper" "__ne__" "method-wrapper.__ne__" :=
  .of (owner := "method-wrapper") (n := "__ne__") (by rw [typeLookup_type, builtinLookup_eq_fast]; kernel_rfl) (by decide +kernel) (by decide +kernel) (by decide +kernel)
    (by first | exact .inl (by decide +kernel) | exact .inr (by decide +kernel)) (by rw [isSubtype_type]; kernel_rfl)
theorem mw_entry_ne : entryFor table "method-wrapper.__ne__" = some Builtin.«method_wrapper.__ne__» := entryFor_alias (id' := "method_wrapper.__ne__") (by rw [fastTable_eq_tree]; kernel_rfl) (by kernel_rfl) (by kernel_rfl) (by rw [fastTable_eq_tree]; kernel_rfl)
theorem mw_args_ne (a b : Value) : argsOk "method-wrapper.__ne__" ⟨[a, b], []⟩ := by unfold argsOk; kernel_rfl
section
variable {prog : Program} {w : World} {M : Model} {A : Around} {E : Value → Shared → Prop} {h : Heap} {g : Array GenState} {d : Drawn} {t : Nat} {os : OsState}
theorem run_ror {x : Addr} {P : Fin → Shared → Prop} (hin : W.Looks M h (isInstance (.ref x) (.type "type")) true) (hq : P (.done (.ret (.ref h.objs.size))) ⟨h.push (rorW x), g, d, t, os⟩) :
    wpAny M A (Builtin.«wrapper_descriptor.__get__» ⟨[.builtin rorId, .ref x, .type "type"], []⟩) P E ⟨h, g, d, t, os⟩ := by
  unfold Builtin.«wrapper_descriptor.__get__»
  refine wpAny_bind (wpAny_of_eq (a := (.builtin rorId, some (.ref x), some (.type "type"))) (by first | rfl | kernel_rfl) ?_)
  show wpAny M A ((kfb_private% "checkInstance") (.builtin rorId) (.ref x) >>= fun _ => newFields "method-wrapper" [.builtin rorId, .ref x] >>= fun r => ret r) P E _
  refine wpAny_bind ?_
  show wpAny M A ((kfb_private% "nameAndClass") (.builtin rorId) >>= _) _ E _
  refine wpAny_bind (wpAny_of_eq ror_nac ?_)
  show wpAny M A (isInstance (.ref x) (.type "type") >>= _) _ E _
  refine wpAny_bind (hin.at ?_)
  refine KFB.if_not rfl ?_
  refine wpAny_pure ?_
  exact wpAny_bind (wpAny_newObj_type (wpAny_pure hq))
end
end PySem.W
namespace PySem.W
open PySem PySem.Spec PySem.Calls PyProof.Rows
section
variable {prog : Program} {w : World} {A : Around} {E : Value → Shared → Prop} {s : Shared} {K : Frag} {C D : Addr}
/-- what is asked of a class whose __ror__ is read -/
structure RorC (K : Frag) (C : Addr) : Prop where
  rd : readsIn K C (.type "type") = true
  fc : findCls K (.ref C) (.type "type") "__ror__" = some (.get (.builtin "wrapper_descriptor.__get__") (.builtin rorId) (.ref C) (.type "type"))
theorem ror_attr {tk : Tok} {Q : Option Value → Shared → Prop} (X : K.In s.heap) (r : RorC K C) (h : Q (some (.ref s.heap.objs.size)) { s with heap := s.heap.push (rorW C) }) :
    wpAny (model prog w) A (getAttrBy? (.ref C) (.str "__ror__" tk)) Q E s := by
  have hr := r.rd
  simp only [readsIn, Bool.and_eq_true, beq_iff_eq] at hr
  obtain ⟨⟨⟨⟨a, b⟩, c'⟩, d⟩, f⟩ := hr
  obtain ⟨hk, d⟩ := Option.isSome_iff_exists.mp d
  have ho := looks_opaque (M := model prog w) (C := C) X a
  have ht := looks_typeIn (M := model prog w) X b
  have hb := looks_hook (M := model prog w) X d
  have hin : Looks (model prog w) s.heap (isInstance (.ref C) (.type "type")) true := ht.andThen (looks_subIn X f)
  unfold getAttrBy? getAttrBy
  refine wpAny_bind (wpAny_attempt (wpAny_holding (wpAny_bind (ht _ _ _ _ (fun _ _ e => e) (wpAny_bind (looks_findIn X c' _ _ _ _ (fun _ _ e => e) ?_))))))
  dsimp only
  rw [show (onTheHeap (Value.type "type") && Value.builtin "type.__getattribute__" == Value.builtin "object.__getattribute__") = false from rfl, if_neg (by decide)]
  refine wpAny_bind (hb _ _ _ _ (fun _ _ e => e) (wpAny_bind (wpAny_attempt (wpAny_holding ?_))))
  unfold callGetattribute
  rw [show (false && onTheHeap (Value.builtin "type.__getattribute__")) = false from rfl, if_neg (by decide)]
  unfold boundAndCalled
  rw [KF.slot_tga.bind]
  refine wpAny_bind (wpAny_pure ?_)
  show wpAny _ _ (call (.builtin "type.__getattribute__") [.ref C, .str "__ror__" tk]) _ _ _
  refine wpAny_call ?_
  refine codeAny_call_builtin KF.slot_tga.plain KF.entry_tga ?_
  refine @check_slot (model prog w) _ _ s "type.__getattribute__" "type" "__getattribute__" (.ref C) [.str "__ror__" tk] [] _ (by decide +kernel) (by decide +kernel) hin (KF.args_tga (.ref C) (.str "__ror__" tk)) ?_
  refine tga_run (s := s) X ho ht r.fc ?_
  show wpAny _ _ (holding [Value.builtin rorId] (call (.builtin "wrapper_descriptor.__get__") [.builtin rorId, .ref C, .type "type"]) >>= ret) _ _ _
  refine wpAny_bind (wpAny_holding ?_)
  refine wpAny_call_entry PySem.ESX.slot_wd ror_type PySem.ESX.entry_wd ?_ (PySem.ESX.args_wd _ _ _)
  refine run_ror hin ?_
  refine ⟨_, rfl, ?_⟩
  refine wpAny_pure ?_
  first
    | exact wpAny_pure (wpAny_pure h)
    | exact wpAny_pure h
    | exact wpAny_pure (wpAny_pure (wpAny_pure h))
end
end PySem.W
namespace PySem.W
open PySem PySem.Spec PySem.Calls PyProof.Rows
section
variable {prog : Program} {w : World} {A : Around} {E : Value → Shared → Prop} {s : Shared} {K : Frag} {C D a b : Addr}
theorem cls_obj {h : Heap} (X : K.In h) (hc : (clsIn K C).isSome = true) : ∃ o cd, h.get? C = some o ∧ o.data = .cls cd := by
  obtain ⟨cd, hcd⟩ := Option.isSome_iff_exists.mp hc
  unfold clsIn at hcd
  split at hcd
  · rename_i c' d' cd' sl' ho
    exact ⟨_, _, X _ _ ho, rfl⟩
  · cases hcd
theorem same_cls {Q : Bool → Shared → Prop} (X : K.In s.heap) (hC : (clsIn K C).isSome = true) (hD : (clsIn K D).isSome = true) (hne : (D == C) = false) (h : Q false s) : wpAny (model prog w) A (isSame (.ref D) (.ref C)) Q E s := by
  obtain ⟨oC, dC, eC, fC⟩ := cls_obj X hC
  obtain ⟨oD, dD, eD, fD⟩ := cls_obj X hD
  obtain ⟨hh, g, d, tt, os⟩ := s
  unfold isSame
  dsimp only
  rw [hne, if_neg Bool.false_ne_true]
  refine wpAny_bind (wpAny_load eD (wpAny_bind (wpAny_load eC ?_)))
  rw [fC, fD]
  split
  · rename_i q1 q2; cases q1
  · exact wpAny_pure h
theorem mw_ne {Q : Value → Shared → Prop} (X : K.In s.heap) (ha : s.heap.get? a = some (rorW D)) (hb : s.heap.get? b = some (rorW C)) (hC : (clsIn K C).isSome = true) (hD : (clsIn K D).isSome = true) (hne : (D == C) = false) (hu : A.units < cLine) (h : Q (.bool true) s) :
    wpAny (model prog w) A (richCompare .NotEq (.ref a) (.ref b)) Q E s := by
  have ta : s.TypeIs (.ref a) "method-wrapper" := ⟨_, ha, rfl⟩
  have tb : s.TypeIs (.ref b) "method-wrapper" := ⟨_, hb, rfl⟩
  refine wpAny_richCompare_same_room (op := .NotEq) ta tb mw_slot_ne ?_ hu
  refine wpAny_call_entry mw_slot_ne ta mw_entry_ne ?_ (mw_args_ne _ _)
  unfold Builtin.«method_wrapper.__ne__»
  refine wpAny_bind (wpAny_of_eq (a := ((Value.ref a : Value), [Value.ref b])) (by first | rfl | (simp only [slotArgs]; rfl)) ?_)
  refine wpAny_bind (wpAny_isInstance (T := "method-wrapper") (b := true) tb (by rw [isSubtype_type]; kernel_rfl) ?_)
  refine KFB.if_not rfl ?_
  refine wpAny_bind (wpAny_bind (wpAny_field ha rfl (x := .builtin rorId) rfl (wpAny_bind (wpAny_field ha rfl (x := .ref D) rfl (wpAny_pure ?_)))))
  refine wpAny_bind (wpAny_bind (wpAny_field hb rfl (x := .builtin rorId) rfl (wpAny_bind (wpAny_field hb rfl (x := .ref C) rfl (wpAny_pure ?_)))))
  refine KFB.if_so (c := (rorId == rorId) = true) (by decide +kernel) ?_
  refine wpAny_bind ?_
  refine same_cls X hC hD hne ?_
  exact wpAny_pure ⟨_, rfl, (fun q => nomatch q), h⟩
end
end PySem.W
namespace PySem.W
open PySem PySem.Spec PySem.Calls PyProof.Rows
section
variable {prog : Program} {w : World} {A : Around} {E : Value → Shared → Prop} {s : Shared} {K : Frag} {x y C D L f f2 : Addr} {h₀ : Heap} {m : Str → Option Value} {ox oy : Obj} {od oe : Option Obj}
theorem InstAt.kept {h h' : Heap} (I : InstAt h x ox C od) (k : ∀ b o, h.get? b = some o → h'.get? b = some o) : InstAt h' x ox C od := by
  obtain ⟨a, b, c, d⟩ := I
  refine ⟨k _ _ a, b, c, ?_⟩
  revert d
  split
  · exact fun d => k _ _ d
  · exact fun d => d
  · exact fun d => d
theorem try_none {Q : Option Value → Shared → Prop} {name : Str} {b : Value} (X : K.In s.heap) (I : InstAt s.heap x ox C od) (hs : findIn K (.ref C) name = some none) (h : Q none s) : wpAny (model prog w) A (tryMethod (.ref x) name b) Q E s := by
  unfold tryMethod callSpecial? specialOf
  exact wpAny_bind (wpAny_bind (wpAny_bind (I.type.here ((looks_findIn X hs).here (wpAny_pure (wpAny_pure h))))))
theorem ror_differs {Q : Bool → Shared → Prop} (X : K.In s.heap) (hs : findIn K (.ref C) "__or__" = some (some (.ref f))) (hr : findIn K (.ref C) "__ror__" = some none)
    (hs2 : findIn K (.ref D) "__or__" = some (some (.ref f2))) (hr2 : findIn K (.ref D) "__ror__" = some none) (hC : (clsIn K C).isSome = true) (hD : (clsIn K D).isSome = true) (hne : (C == D) = false) (rC : RorC K C) (rD : RorC K D) (hu : A.units < cLine)
    (h : ∀ h' t', (∀ b o, s.heap.get? b = some o → h'.get? b = some o) → Q true { s with heap := h', toks := t' }) : wpAny (model prog w) A (reflectedDiffers (.ref C) (.ref D) "or") Q E s := by
  obtain ⟨hh, g, d, tt, os⟩ := s
  have L6 : Looks (model prog w) hh (numberSlotInPython (.ref C) "or") true := ksp_inPy X hs hr (.inl rfl)
  have L7 : Looks (model prog w) hh (numberSlotInPython (.ref D) "or") true := ksp_inPy X hs2 hr2 (.inl rfl)
  have k1 : ∀ b o, hh.get? b = some o → (hh.push (rorW D)).get? b = some o := fun b o e => Heap.get?_push_of_some _ e
  have k2 : ∀ b o, (hh.push (rorW D)).get? b = some o → ((hh.push (rorW D)).push (rorW C)).get? b = some o := fun b o e => Heap.get?_push_of_some _ e
  have g1 : (hh.push (rorW D)).get? hh.objs.size = some (rorW D) := Heap.get?_push_size hh rfl
  have g2 : ((hh.push (rorW D)).push (rorW C)).get? (hh.push (rorW D)).objs.size = some (rorW C) := Heap.get?_push_size (hh.push (rorW D)) rfl
  have hsz : (hh.push (rorW D)).objs.size = hh.objs.size + 1 := Heap.size_push ..
  have hlt : ((hh.push (rorW D)).objs.size == hh.objs.size) = false := by
    rw [hsz]
    exact beq_eq_false_iff_ne.mpr (Nat.succ_ne_self _)
  unfold reflectedDiffers
  refine wpAny_bind (L6.at ?_)
  refine KFB.if_not rfl ?_
  refine wpAny_bind (L7.at ?_)
  refine KFB.if_not rfl ?_
  refine wpAny_bind (wpAny_mkStr' (x := "__ror__") ?_ (by decide +kernel))
  refine wpAny_bind (ror_attr (s := ⟨hh, g, d, tt + 1, os⟩) X rD ?_)
  refine wpAny_holding ?_
  refine wpAny_bind (ror_attr (s := ⟨hh.push (rorW D), g, d, tt + 1, os⟩) (X.keeps k1) rC ?_)
  refine wpAny_holding ?_
  refine wpAny_bind ?_
  unfold isSame
  dsimp only
  rw [hlt, if_neg Bool.false_ne_true]
  refine wpAny_bind (wpAny_load g2 (wpAny_bind (wpAny_load (k2 _ _ g1) (wpAny_pure ?_))))
  refine KFB.if_not rfl ?_
  refine wpAny_bind (mw_ne (s := ⟨(hh.push (rorW D)).push (rorW C), g, d, tt + 1, os⟩) ((X.keeps k1).keeps k2) g2 (k2 _ _ g1) hD hC hne hu ?_)
  exact wpAny_pure (h _ _ fun b o e => k2 _ _ (k1 _ _ e))
end
end PySem.W
namespace PySem.W
open PySem PySem.Spec PySem.Calls PyProof.Rows
section
variable {prog : Program} {w : World} {A : Around} {E : Value → Shared → Prop} {s : Shared} {K : Frag} {x y C D L f f2 : Addr} {h₀ : Heap} {m : Str → Option Value} {ox oy : Obj} {od oe : Option Obj}
/-- the right side is an instance of a class below the left one's, which has no __ror__ of its own -/
theorem ksp_orSub {Q : Value → Shared → Prop} (F : Fr h₀ L s.heap m) (X₀ : K.In h₀) (I : InstAt s.heap x ox C od) (J : InstAt s.heap y oy D oe) (hc : selfFirst K C = true) (hd : selfFirst K D = true) (hne : (C == D) = false)
    (hs : findIn K (.ref C) "__or__" = some (some (.ref f))) (hf : isFn K (.ref f) = true) (hr : findIn K (.ref C) "__ror__" = some none)
    (hs2 : findIn K (.ref D) "__or__" = some (some (.ref f2))) (hr2 : findIn K (.ref D) "__ror__" = some none)
    (hsub : subIn K (.ref D) (.ref C) = some true) (rC : RorC K C) (rD : RorC K D) (hu : A.units < cLine)
    (h : ∀ h' t', (∀ b o, s.heap.get? b = some o → h'.get? b = some o) → wpAny (model prog w) A (call (.ref f) [.ref x, .ref y]) (CmpBack Q) E { s with heap := h', toks := t' }) : wpAny (model prog w) A (binaryOp .BitOr (.ref x) (.ref y)) Q E s := by
  have X := X₀.keeps F.keep
  obtain ⟨cd, rest, hcd, hm⟩ := ksp_first hc
  obtain ⟨cd2, rest2, hcd2, hm2⟩ := ksp_first hd
  obtain ⟨hh, g, d, tt, os⟩ := s
  have L1 : Looks (model prog w) hh (typeOf (.ref x)) (.ref C) := I.type
  have L2 : Looks (model prog w) hh (typeOf (.ref y)) (.ref D) := J.type
  have L3 : Looks (model prog w) hh (fillsNumberSlot (.ref C) "or") true := fills_K X hcd hm hs
  have L4 : Looks (model prog w) hh (fillsNumberSlot (.ref D) "or") true := fills_K X hcd2 hm2 hs2
  have L5 : Looks (model prog w) hh (isSubtype (.ref D) (.ref C)) true := looks_subIn X hsub
  have hne' : (Value.ref C == Value.ref D) = false := Bool.eq_false_iff.mpr fun q => by
    have := beq_iff_eq.mp q
    injection this with this
    rw [this] at hne
    simp at hne
  have isC : (clsIn K C).isSome = true := by rw [hcd]; rfl
  have isD : (clsIn K D).isSome = true := by rw [hcd2]; rfl
  unfold binaryOp
  refine wpAny_holding (wpAny_bind ?_)
  show wpAny _ _ (binaryOp1 "or" (.ref x) (.ref y)) _ _ _
  unfold binaryOp1
  refine wpAny_bind (L1.at (wpAny_bind (L2.at (wpAny_bind (L3.at ?_)))))
  simp only [hne', Bool.false_eq_true, if_false]
  refine wpAny_bind (L4.at ?_)
  simp only [Bool.and_self, if_true]
  refine wpAny_bind (L5.at ?_)
  simp only [if_true]
  refine wpAny_bind (ror_differs (s := ⟨hh, g, d, tt, os⟩) X hs hr hs2 hr2 isC isD hne rC rD hu fun h' t' k => ?_)
  have one := ksp_try (s := ⟨h', g, d, t', os⟩) (b := .ref y) (X.keeps k) (I.kept k) hs hf (h h' t' k)
  simp only [if_true, Bool.not_true, Bool.and_false, Bool.false_eq_true, if_false]
  refine wpAny_bind (wpAny_rule ?_)
  refine wpAny_bind (try_none (s := ⟨h', g, d, t', os⟩) (X.keeps k) (J.kept k) hr2 ?_)
  dsimp only
  refine wpAny_bind (wpAny_pure ?_)
  rw [if_neg Bool.false_ne_true]
  refine wpAny_bind (wpAny_mono one (fun r s' hr' => ?_) fun _ _ e => e)
  obtain ⟨v, rfl, hq⟩ := hr'
  exact wpAny_pure (wpAny_pure hq)
end
end PySem.W

set_option Elab.async false
set_option linter.all false
set_option maxRecDepth 100000
set_option maxHeartbeats 4000000
namespace SD
open PySem PySem.Spec PyProof.Rows L2
/-- what | asks of a class -/
structure OrL (K : PySem.W.Frag) (C : Addr) : Prop where
  sf : PySem.W.selfFirst K C = true
  rr : PySem.W.findIn K (.ref C) "__ror__" = some none
  rc : PySem.W.RorC K C
/-- an instance of D may stand on the right of one of C -/
def OrTo (K : PySem.W.Frag) (C D : Addr) : Prop := C = D ∨ ((C == D) = false ∧ OrL K D ∧ (∃ f2 : Addr, PySem.W.findIn K (.ref D) "__or__" = some (some (.ref f2))) ∧ ∃ b, PySem.W.subIn K (.ref D) (.ref C) = some b)
section
variable {g : Gc} {W : WX} {X : Cx} {a b : Expr} {fa fb : DE} {c k : Nat} {pos : Pos} {F : Fn}
theorem or_inst {pins : List (Addr × Obj)} {σ : L2.St} {H : Hp} {s : Shared} {x y C D dx dy f : Addr} {fs gs : List (Str × V)} {Q : Value → Shared → Prop} (I : Inv X pins σ H s) (hx : H x = some (.ins C dx fs)) (hy : H y = some (.ins D dy gs))
    (l : OrL X.K C) (to : OrTo X.K C D) (M : Meth X.K C "__or__" f) (hu : X.A.units < cLine) (h : ∀ s', Inv X pins σ H s' → wpAny (model X.prog X.w) X.A (call (.ref f) [.ref x, .ref y]) (PySem.W.CmpBack Q) X.xe s') : wpAny (model X.prog X.w) X.A (binaryOp .BitOr (.ref x) (.ref y)) Q X.xe s := by
  obtain ⟨ox, od, J⟩ := ins_at I hx
  obtain ⟨oy, oe, J2⟩ := ins_at I hy
  obtain ⟨m, hF⟩ := I.fr
  rcases to with rfl | ⟨ne, l2, ⟨f2, e2⟩, b, eb⟩
  · exact PySem.W.binop_K (op := .BitOr) hF I.ok.mod.kin J J2.type l.sf M.at_ M.fn (h s I)
  · cases b with
    | false => exact PySem.W.ksp_binI (op := .BitOr) hF I.ok.mod.kin J J2 l.sf l2.sf ne M.at_ M.fn l.rr (.inl rfl) e2 l2.rr (.inl rfl) eb (h s I)
    | true => exact PySem.W.ksp_orSub hF I.ok.mod.kin J J2 l.sf l2.sf ne M.at_ M.fn l.rr e2 l2.rr eb l.rc l2.rc hu fun h' t' k => h _ (I.kept (t' := t') k)
end
end SD
namespace PySem.W
open PySem PySem.Spec PySem.Calls PyProof.Rows
section
variable {prog : Program} {w : World} {A : Around} {E : Value → Shared → Prop} {s : Shared} {K : Frag} {x C L f : Addr} {h₀ : Heap} {m : Str → Option Value} {ox : Obj} {od : Option Obj} {T : String}
/-- the right side is of a built-in type -/
theorem orTy {b : Value} {fo ro : Option Value} {Q : Value → Shared → Prop} (F : Fr h₀ L s.heap m) (X₀ : K.In h₀) (I : InstAt s.heap x ox C od) (hb : Looks (model prog w) s.heap (typeOf b) (.type T)) (hc : selfFirst K C = true)
    (hs : findIn K (.ref C) "__or__" = some (some (.ref f))) (hf : isFn K (.ref f) = true) (hr : findIn K (.ref C) "__ror__" = some none)
    (q1 : findIn K (.type T) "__or__" = some fo) (q2 : findIn K (.type T) "__ror__" = some ro) (hsub : subIn K (.type T) (.ref C) = some false)
    (h : wpAny (model prog w) A (call (.ref f) [.ref x, b]) (CmpBack Q) E s) : wpAny (model prog w) A (binaryOp .BitOr (.ref x) b) Q E s := by
  have X := X₀.keeps F.keep
  obtain ⟨cd, rest, e1, e2⟩ := ksp_first hc
  have own := ksp_try X I hs hf h
  obtain ⟨h0, g0, d0, t0, o0⟩ := s
  have A1 : Looks (model prog w) h0 (typeOf (.ref x)) (.ref C) := I.type
  have A3 : Looks (model prog w) h0 (fillsNumberSlot (.ref C) "or") true := fills_K X e1 e2 hs
  have A4 : Looks (model prog w) h0 (fillsNumberSlot (.type T) "or") ((fo.isSome && !isSeqSlot fo) || (ro.isSome && !isSeqSlot ro)) := ksp_fillsT X q1 q2
  have A5 : Looks (model prog w) h0 (isSubtype (.type T) (.ref C)) false := looks_subIn X hsub
  have A6 : Looks (model prog w) h0 (numberSlotInPython (.ref C) "or") true := ksp_inPy X hs hr (.inl rfl)
  have A7 : Looks (model prog w) h0 (numberSlotInPython (.type T) "or") false := Looks.of_pure rfl
  have A8 : Looks (model prog w) h0 (typeLookup (.type T) (dunderR "or")) ro := looks_findIn X q2
  generalize ((fo.isSome && !isSeqSlot fo) || (ro.isSome && !isSeqSlot ro)) = fills at A4
  have ne : (Value.ref C == Value.type T) = false := Bool.eq_false_iff.mpr fun q => by cases beq_iff_eq.mp q
  unfold binaryOp
  refine wpAny_holding (wpAny_bind (show wpAny _ _ (binaryOp1 "or" (.ref x) b) _ _ _ from ?_))
  unfold binaryOp1
  refine wpAny_bind (A1.at (wpAny_bind (hb.at (wpAny_bind (A3.at ?_)))))
  simp only [ne, Bool.false_eq_true, if_false]
  cases fills <;>
    (ksp_lk
     refine wpAny_mono own (fun r s' z => ?_) fun _ _ e => e
     obtain ⟨v, rfl, hq⟩ := z
     ksp_lk
     exact hq)
end
end PySem.W
namespace SD
open PySem PySem.Spec PyProof.Rows L2
/-- the built-in types that stand on the right of | in a law -/
def orTys : List String := ["str", "int", "bool", "NoneType", "tuple", "list", "dict"]
theorem orTys_ok {K : PySem.W.Frag} {C : Addr} {T : String} (h : T ∈ orTys) : (∃ fo, PySem.W.findIn K (.type T) "__or__" = some fo) ∧ (∃ ro, PySem.W.findIn K (.type T) "__ror__" = some ro) ∧ PySem.W.subIn K (.type T) (.ref C) = some false := by
  have key : orTys.all (fun T => (fastLookup T "__or__").isSome && ((fastLookup T "__ror__").isSome && ((fastBuiltinMro T).any fun l => l.all fun n => true))) = true := by decide +kernel
  have := List.all_eq_true.mp key T h
  simp only [Bool.and_eq_true] at this
  obtain ⟨a, b, _⟩ := this
  refine ⟨Option.isSome_iff_exists.mp a, Option.isSome_iff_exists.mp b, sub_ty ?_⟩
  simp only [orTys, List.mem_cons, List.not_mem_nil, or_false] at h
  rcases h with rfl | rfl | rfl | rfl | rfl | rfl | rfl
  · exact ⟨["str", "object"], by decide +kernel⟩
  · exact ⟨["int", "object"], by decide +kernel⟩
  · exact ⟨["bool", "int", "object"], by decide +kernel⟩
  · exact ⟨["NoneType", "object"], by decide +kernel⟩
  · exact ⟨["tuple", "object"], by decide +kernel⟩
  · exact ⟨["list", "object"], by decide +kernel⟩
  · exact ⟨["dict", "object"], by decide +kernel⟩
def orTy (d : DV) : Bool := match d with
  | .str _ | .int _ | .bl _ | .non | .tup _ | .lst _ | .dct _ _ => true
  | _ => false
section
variable {g : Gc} {W : WX} {X : Cx} {a b : Expr} {fa fb : DE} {c k : Nat} {pos : Pos} {F : Fn}
theorem orTy_look {pins : List (Addr × Obj)} {σ : L2.St} {H : Hp} {s : Shared} {κ : KA} {d : DV} {y : V} {u : Value} (xg : XG g X) (I : Inv X pins σ H s) (rd : Rel g κ H d y) (ry : RelV y u) (h : orTy d = true) :
    ∃ T ∈ orTys, PySem.W.Looks (model X.prog X.w) s.heap (typeOf u) (.type T) := by
  cases d with
  | str z =>
    simp only [Rel] at rd
    subst rd
    obtain ⟨t, rfl⟩ := (show ∃ t, u = Value.str z t from ry)
    exact ⟨"str", by decide, looks_ty fun s' _ => typeIs_str _ _ _⟩
  | int z =>
    simp only [Rel] at rd
    subst rd
    obtain ⟨t, rfl⟩ := (show ∃ t, u = Value.int z t from ry)
    exact ⟨"int", by decide, looks_ty fun s' _ => PySem.typeIs_int _ _ _⟩
  | bl z =>
    simp only [Rel] at rd
    subst rd
    obtain rfl := (show u = Value.bool z from ry)
    exact ⟨"bool", by decide, looks_ty fun s' _ => PySem.typeIs_bool _ _⟩
  | non =>
    simp only [Rel] at rd
    subst rd
    obtain rfl := (show u = Value.none from ry)
    exact ⟨"NoneType", by decide, looks_ty fun s' _ => (show s'.TypeIs .none "NoneType" from rfl)⟩
  | tup xs =>
    obtain ⟨a, vs, rfl, h2, _⟩ := tup_rel rd
    obtain rfl : u = Value.ref a := ry
    rw [← xg.K] at h2
    obtain ⟨its, _, ⟨o, ho, hcl, _⟩, _⟩ := I.tuple h2
    exact ⟨"tuple", by decide, looks_ty fun s' k => ⟨o, k _ _ ho, hcl⟩⟩
  | lst xs =>
    simp only [Rel] at rd
    obtain ⟨a, vs, rfl, h2, _⟩ := rd
    obtain rfl : u = Value.ref a := ry
    obtain ⟨its, _, ⟨o, n, ho, hcl, _⟩, _⟩ := I.list (a := a) (xs := vs) (.inl (.inl h2.1))
    exact ⟨"list", by decide, looks_ty fun s' k => ⟨o, k _ _ ho, hcl⟩⟩
  | dct ks xs =>
    simp only [Rel] at rd
    obtain ⟨a, vs, rfl, h2, _⟩ := rd
    obtain rfl : u = Value.ref a := ry
    obtain ⟨_, _, ws, _, dd⟩ := dk_rd I.hok (.inl h2.1)
    exact ⟨"dict", by decide, looks_ty fun s' k => by
      obtain ⟨o, es, ep, ho, hx, _⟩ := dd
      exact ⟨o, k _ _ ho, hx.1⟩⟩
  | _ => cases h
/-- a | b, b an instance or of a built-in type -/
def eOrA (c : Nat) (ds : List Nat) (F : Fn) (a b : DE) : DE := fun ρ μ => (a ρ μ).bind fun x μ1 => (b ρ μ1).bind fun y μ2 => if (insC μ2 c x && (orTy y || ds.any fun d => insC μ2 d y)) = true then F [x, y] μ2 else .stuck
theorem ge_orA {ds : List Nat} (G : MtG X.prog X.w g X.mg X.base k c "__or__" ["self", "other"] F) (xg : XG g X) (ar : Ar F 2) (hr : Room k X.A) (tk : Takes X W) (l : OrL g.K (g.cls c)) (to : ∀ d ∈ ds, OrTo g.K (g.cls c) (g.cls d)) (ha : GE g W X a fa) (hb : GE g W X b fb) :
    GE g W X (.BinOp a .BitOr b pos) (eOrA c ds F fa fb) := by
  obtain ⟨f, fd, hc, M, bn, FO⟩ := G.ex
  rw [← xg.K] at hc M bn FO l
  refine ⟨fun pins s σ H Q I h => ?_⟩
  obtain ⟨κ, ρ, μ, hE, hs, hw⟩ := h
  refine wpAny_BinOp (binT ha hb I (R := fun x y H2 => ∃ κ2 d e μ2, Rel g κ2 H2 d x ∧ Rel g κ2 H2 e y ∧ StoOk g κ2 H2 μ2 ∧ wpR g W σ κ2 H2 (if (insC μ2 c d && (orTy e || ds.any fun q => insC μ2 q e)) = true then F [d, e] μ2 else .stuck) (fun d _ κ' H' => ∀ v, Rel g κ' H' d v → Q v H'))
    ⟨κ, ρ, μ, hE, hs, (wpR.bind (show wpR g W σ κ H ((fa ρ μ).bind fun x μ1 => (fb ρ μ1).bind fun y μ2 => if (insC μ2 c x && (orTy y || ds.any fun d => insC μ2 d y)) = true then F [x, y] μ2 else .stuck) _ from hw)).mono fun x μ1 κ1 H1 e1 s1 h1 v rv =>
      ⟨κ1, ρ, μ1, hE.ext e1, s1, h1.bind.mono fun y μ2 κ2 H2 e2 s2 h2 w rw => ⟨κ2, x, y, μ2, rv.ext e2, rw, s2, h2⟩⟩⟩ fun v u s2 x y H2 I2 rx ry q => ?_)
  obtain ⟨κ2, d, e, μ2, rd, re, so, hq⟩ := q
  by_cases ho : (insC μ2 c d && (orTy e || ds.any fun q => insC μ2 q e)) = true
  · rw [if_pos ho] at hq
    rw [Bool.and_eq_true, Bool.or_eq_true] at ho
    obtain ⟨p, dx, fs, rfl, hH⟩ := insC_rel so rd ho.1
    obtain rfl : v = Value.ref p := rx
    have run : ∀ s', Inv X pins σ H2 s' → wpAny (model X.prog X.w) X.A (call (.ref f) [.ref p, u]) (PySem.W.CmpBack (EP X pins σ Q)) X.xe s' := fun s' I' => by
      refine wpAny_mono (run_fnSD (E := fun σ => WE W σ) (us := [.ref p, u]) (vs := [.ref p, y]) (dvs := []) (ds := []) (Q := Q) FO hr bn .nil (passAt tk σ) I' (.cons rfl (.cons ry .nil)) ?_) (fun w s'' z => ?_) fun _ _ z => z
      · rw [List.append_nil]
        exact sp_read ar (RelL.cons rd (RelL.cons re RelL.nil)) so hq
      · obtain ⟨z', H', I'', rz, qz⟩ := z
        exact SlX.cmpback rz ⟨z', H', I'', rz, qz⟩
    rcases ho.2 with ht | hd
    · obtain ⟨T, hT, lk⟩ := orTy_look xg I2 re ry ht
      obtain ⟨⟨fo, q1⟩, ⟨ro, q2⟩, q3⟩ := orTys_ok (K := X.K) (C := g.cls c) hT
      obtain ⟨ox, od, J⟩ := ins_at I2 hH
      obtain ⟨m, hF⟩ := I2.fr
      exact PySem.W.orTy hF I2.ok.mod.kin J lk l.sf M.at_ M.fn l.rr q1 q2 q3 (run _ I2)
    · obtain ⟨q, hm, hi⟩ := List.any_eq_true.mp hd
      obtain ⟨p2, dy, gs, rfl, hH2⟩ := insC_rel so re hi
      obtain rfl : u = Value.ref p2 := ry
      have t := to q hm
      rw [← xg.K] at t
      exact or_inst I2 hH hH2 l t M hr.units0 run
  · rw [if_neg ho] at hq; exact hq.elim
end
end SD
namespace SD
open PySem PySem.Spec PyProof.Rows L2 He
theorem ror1 (K : PySem.W.Frag) : PySem.W.findIn K (.type "type") "__ror__" = some (some (.builtin PySem.W.rorId)) := by
  show fastLookup "type" "__ror__" = _
  kernel_rfl
theorem ror2 (K : PySem.W.Frag) : PySem.W.specialIn K (.builtin PySem.W.rorId) "__get__" = some (some (.builtin "wrapper_descriptor.__get__")) := by kernel_rfl
theorem ror3 (K : PySem.W.Frag) : PySem.W.takesIn K (.builtin PySem.W.rorId) = some false := by kernel_rfl
theorem ror_fc {K : PySem.W.Frag} {C : Addr} (h : PySem.W.findIn K (.ref C) "__ror__" = some none) : PySem.W.findCls K (.ref C) (.type "type") "__ror__" = some (.get (.builtin "wrapper_descriptor.__get__") (.builtin PySem.W.rorId) (.ref C) (.type "type")) := by
  unfold PySem.W.findCls
  rw [ror1, Option.bind_some]
  simp only [ror2, ror3, Option.bind_some, h]
def orB (x : Str) (K : PySem.W.Frag) : Bool := PySem.W.selfFirst K (ga K x) && (He.eqO (PySem.W.findIn K (.ref (ga K x)) "__ror__") (some none) && PySem.W.readsIn K (ga K x) (.type "type"))
theorem orB_ok {K : PySem.W.Frag} {x : Str} (h : orB x K = true) : OrL K (ga K x) := by
  unfold orB at h
  obtain ⟨a1, h⟩ := ba h
  obtain ⟨a2, a3⟩ := ba h
  exact ⟨a1, He.eqO_ok a2, a3, ror_fc (He.eqO_ok a2)⟩
/-- y's instances on the right of x's -/
def orToB (x y : Str) (K : PySem.W.Frag) : Bool := !(ga K x == ga K y) && (orB y K && ((match PySem.W.findIn K (.ref (ga K y)) "__or__" with | some (some (.ref _)) => true | _ => false) && (PySem.W.subIn K (.ref (ga K y)) (.ref (ga K x))).isSome))
theorem orToB_ok {K : PySem.W.Frag} {x y : Str} (h : orToB x y K = true) : OrTo K (ga K x) (ga K y) := by
  unfold orToB at h
  obtain ⟨a1, h⟩ := ba h
  obtain ⟨a2, h⟩ := ba h
  obtain ⟨a3, a4⟩ := ba h
  refine .inr ⟨by simpa using a1, orB_ok a2, ?_, Option.isSome_iff_exists.mp a4⟩
  revert a3
  split
  · rename_i f e; exact fun _ => ⟨f, e⟩
  · exact fun q => by cases q
end SD

set_option Elab.async false
set_option linter.all false
set_option maxRecDepth 100000
set_option maxHeartbeats 4000000
namespace PySem.W
open PySem PySem.Spec PySem.Calls PyProof.Rows
section
variable {prog : Program} {w : World} {A : Around} {E : Value → Shared → Prop} {s : Shared} {K : Frag} {x C f : Addr} {ox : Obj} {od : Option Obj}
theorem own_in {v : Value} {Q : Bool → Shared → Prop} (X : K.In s.heap) (I : InstAt s.heap x ox C od) (hs : findIn K (.ref C) "__contains__" = some (some (.ref f))) (hf : isFn K (.ref f) = true)
    (h : wpAny (model prog w) A (call (.ref f) [.ref x, v]) (fun r s' => ∃ b, r = .bool b ∧ Q b s') E s) : wpAny (model prog w) A (contains (.ref x) v) Q E s := by
  have S : Looks (model prog w) s.heap (specialOf (.ref x) "__contains__") (some (.ref f)) := I.type.andThen (looks_findIn X hs)
  have B := bind_fn (M := model prog w) X (.ref x) (beq_iff_eq.mp hf)
  unfold contains
  refine wpAny_holding ?_
  rw [stdlibNamesSay?_ref]
  refine wpAny_bind (S.here ?_)
  refine KFB.if_not rfl ?_
  unfold callSpecialUnlessNone?
  refine wpAny_bind (wpAny_bind (S.here (wpAny_holding (wpAny_bind (B.here ?_)))))
  refine KFB.if_not rfl ?_
  refine wpAny_bind (wpAny_mono h (fun r s' z => ?_) fun _ _ z => z)
  obtain ⟨b, rfl, hq⟩ := z
  exact wpAny_pure (wpAny_pure hq)
end
end PySem.W
namespace SD
open PySem PySem.Spec PyProof.Rows L2
section
variable {g : Gc} {W : WX} {X : Cx} {c k : Nat} {F : Fn}
/-- x in o, o an instance of c -/
def inOw (c : Nat) (F : Fn) (x o : DV) (μ : Sto) : R DV := if insC μ c o = true then ownR F tBl [o, x] μ else .stuck
theorem opInO {q : Str} (xg : XG g X) (G : MtG X.prog X.w g X.mg X.base k c "__contains__" ["self", q] F) (hr : Room k X.A) : OpR X (compareOp .In) (r2F g (inOw c F)) := by
  intro pins s σ H x y v u Q I rx ry h
  obtain ⟨κ, d, e, μ, rd, re, so, ho⟩ := h
  unfold inOw at ho
  split at ho
  · rename_i hi
    obtain ⟨a, dx, fs, rfl, hH⟩ := insC_rel so re hi
    obtain rfl : u = Value.ref a := ry
    obtain ⟨f, fd, hc, M, bn, FO⟩ := G.ex
    rw [← xg.K] at hc M bn FO
    obtain ⟨ox, od, J⟩ := ins_at I hH
    show wpAny (model X.prog X.w) X.A (contains (.ref a) v >>= fun b => pure (.bool b)) (EP X pins σ Q) X.xe s
    refine wpAny_bind (PySem.W.own_in I.kIn J M.at_ M.fn (wpAny_mono (run_in FO bn hr I.env0 I (show Vals [V.ref a, x] [Value.ref a, v] from .cons rfl (.cons rx .nil)) (own_sp (Q' := fun z H' => ∃ b : Bool, z = .bl b ∧ Q (.bl b) H') (RelL.cons re (RelL.cons rd RelL.nil)) so rfl ho fun z v κ' H' z' ht rz hq => ?_)) (fun w s' z => ?_) fun _ _ y => y))
    · unfold tBl at ht
      split at ht
      · cases ht
        simp only [Rel] at rz
        subst rz
        exact ⟨_, rfl, hq _ (by simp [Rel])⟩
      · cases ht
    · obtain ⟨z', H', I', rz, b, rfl, q⟩ := z
      obtain rfl := (show w = Value.bool b from rz)
      exact ⟨b, rfl, wpAny_pure ⟨.bl b, H', I', rfl, q⟩⟩
  · exact ho.elim
end
end SD

set_option Elab.async false
set_option linter.all false
set_option maxRecDepth 100000
set_option maxHeartbeats 4000000
namespace SD
open PySem PySem.Spec PyProof.Rows L2
structure CmG (P : Program) (w : World) (g : Gc) (mg : Str → Option Value) (base : Heap) (k c : Nat) (m : Str) (F : Fn) : Prop where
  ex : ∃ (p f : Addr) (fd : FuncData) (mc : Value), ClX.CRead g.K (g.cls c) mc ∧ ClX.CMet g.K (g.cls c) mc m p f ∧ Binds g.K fd ["cls"] [] ∧ FnOk P w g.K mg base (L2.CX P w) k f fd ["cls"] (spF g F 1)
section
variable {g : Gc} {W : WX} {X : Cx} {c k : Nat} {F : Fn} {x m : Str} {p pos apos : Pos} {pl : Sem Bool}
def eCm (c : Nat) (F : Fn) : DE := fun _ μ => F [.gl c] μ
theorem ge_cm0 (G : CmG X.prog X.w g X.mg X.base k c m F) (xg : XG g X) (ar : Ar F 1) (hr : Room k X.A) (tk : Takes X W) (hg : Gl X x) (hm : X.mg x = some (.ref (g.cls c))) (hd : (x == ("__debug__" : Str)) = false := by decide)
    (ht : eval (.Call (.Attribute (.Name x p) m apos) [] [] pos) X.env = (do
      let o ← eval (.Name x p) X.env
      standAt apos.atName
      let (f, first) ← holding [o] (getMethod o m pl)
      callWith pos f first (backTo pos (starEach [] X.env)) (backToKw pos (keywordEach [] X.env))) := by rfl) :
    GE g W X (.Call (.Attribute (.Name x p) m apos) [] [] pos) (eCm c F) := by
  obtain ⟨q, f, fd, mc, r, cm, bn, FO⟩ := G.ex
  rw [← xg.K] at r cm bn FO
  refine ⟨fun pins s σ H Q I h => ?_⟩
  obtain ⟨κ, ρ, μ, hE, hs, hw⟩ := h
  refine PySem.W.methodCall_KW (pl := pl) (ld_glob I hg hm ?_ hd) ht
  refine ClX.getmethcm_ok I r cm fun s2 I2 => ?_
  refine PySem.W.callWith_M0 ⟨ClX.pin_at I2, I2.kIn⟩ cm.fi ?_
  have vv : Vals [V.ref (g.cls c)] [Value.ref (g.cls c)] := .cons rfl .nil
  have bt := bn s2 [Value.ref (g.cls c)] I2.kIn rfl
  have sp := sp_read (g := g) (W := W) (σ := σ) ar (RelL.cons (show Rel g κ H (.gl c) (.ref (g.cls c)) by simp [Rel]) RelL.nil) hs hw
  have code := FO.run X.A X.stack s2 H ⟨[Value.ref (g.cls c)], []⟩ [Value.ref (g.cls c)] [V.ref (g.cls c)] Q (WE W σ) hr I2.env0 bt vv sp
  have z : wpAny (model X.prog X.w) X.A (call (.ref s.heap.objs.size) []) (EP X ((s.heap.objs.size, PySem.W.methodObj (.ref f) (.ref (g.cls c))) :: pins) σ Q) X.xe s2 := by
    refine wpAny_call (PySem.W.method_call (ClX.pin_at I2) (codeAny_mono code fun r s' hq => ?_))
    cases r with
    | error e => exact passAt tk σ _ H s2 e s' I2 hq
    | ok fl =>
      cases fl with
      | ret u => exact I2.after hq
      | next => exact False.elim hq
      | brk => exact False.elim hq
      | cont => exact False.elim hq
  exact thn z fun _ _ y => ClX.unpinE y
end
end SD

set_option Elab.async false
set_option linter.all false
set_option maxRecDepth 100000
set_option maxHeartbeats 4000000
namespace SD
open PySem PySem.Spec PyProof.Rows L2
def allM (xs : List (PySem.W.Frag → Bool)) (K : PySem.W.Frag) : Bool := xs.all fun f => f K
structure Hv (fa : List He.Fa) (fn : List He.DefD) (cs : List (Str × List Str)) (ys : List OwnY) (cv : List ConY) (gt : List GetD) (df : List (PySem.W.Frag → Addr)) (tf : List He.Defn) (xs : List (PySem.W.Frag → Bool)) (K : PySem.W.Frag) (mg : Str → Option Value) : Prop extends Hw fa fn cs ys cv gt df tf K mg where
  furth : allM xs K = true
theorem Hv.fur {fa : List He.Fa} {fn : List He.DefD} {cs : List (Str × List Str)} {ys : List OwnY} {cv : List ConY} {gt : List GetD} {df : List (PySem.W.Frag → Addr)} {tf : List He.Defn} {xs : List (PySem.W.Frag → Bool)} {K : PySem.W.Frag} {mg : Str → Option Value}
    (T : Hv fa fn cs ys cv gt df tf xs K mg) (i : Nat) {f : PySem.W.Frag → Bool} (h : xs[i]? = some f := by rfl) : f K = true := List.all_eq_true.mp T.furth _ (List.mem_of_getElem? h)
/-- x is a class below y -/
def subB (x y : Str) (K : PySem.W.Frag) : Bool := decide (PySem.W.subIn K (.ref (He.ga K x)) (.ref (He.ga K y)) = some true)
theorem subB_ok {K : PySem.W.Frag} {x y : Str} (h : subB x y K = true) : PySem.W.subIn K (.ref (He.ga K x)) (.ref (He.ga K y)) = some true := of_decide_eq_true h
section
variable {g : Gc} {W : WX} {X : Cx} {e o value a b : Expr} {es : List Expr} {fe fo fv fa fb : DE} {fr fk : DA} {f x m : Str} {cs : List Nat} {c c1 c2 k : Nat} {pos pos' p apos : Pos} {ps : List Str} {F : Fn}
def eMtL (cs : List Nat) (m : Str) (F : Fn) (o : DE) (r : DA) : DE := fun ρ μ => (o ρ μ).bind fun d μ1 => match insOf μ1 d with
  | some (c', ns, _) => if (cs.contains c' && !ns.contains m) = true then (r ρ μ1).bind fun ys μ2 => F (d :: ys) μ2 else .stuck
  | none => .stuck
theorem ge_mt2 (h1 : GE g W X e (eMt c1 m F fo fr)) (h2 : GE g W X e (eMt c2 m F fo fr)) : GE g W X e (eMtL [c1, c2] m F fo fr) := by
  refine ge_either h1 h2 fun ρ μ => ?_
  unfold eMtL eMt
  cases fo ρ μ with
  | stuck => exact .inl rfl
  | ex c ns xs μ1 => exact .inl rfl
  | ok d μ1 =>
    show _ = (match insOf μ1 d with
      | some (c', ns, _) => if (c' == c1 && !ns.contains m) = true then (fr ρ μ1).bind fun ys μ2 => F (d :: ys) μ2 else .stuck
      | none => .stuck) ∨ _ = (match insOf μ1 d with
      | some (c', ns, _) => if (c' == c2 && !ns.contains m) = true then (fr ρ μ1).bind fun ys μ2 => F (d :: ys) μ2 else .stuck
      | none => .stuck) ∨ _
    show (match insOf μ1 d with
      | some (c', ns, _) => if ([c1, c2].contains c' && !ns.contains m) = true then (fr ρ μ1).bind fun ys μ2 => F (d :: ys) μ2 else .stuck
      | none => .stuck) = _ ∨ (match insOf μ1 d with
      | some (c', ns, _) => if ([c1, c2].contains c' && !ns.contains m) = true then (fr ρ μ1).bind fun ys μ2 => F (d :: ys) μ2 else .stuck
      | none => .stuck) = _ ∨ (match insOf μ1 d with
      | some (c', ns, _) => if ([c1, c2].contains c' && !ns.contains m) = true then (fr ρ μ1).bind fun ys μ2 => F (d :: ys) μ2 else .stuck
      | none => .stuck) = .stuck
    cases insOf μ1 d with
    | none => exact .inr (.inr rfl)
    | some t =>
      obtain ⟨c', ns, xs⟩ := t
      by_cases q1 : c' = c1
      · subst q1; left; simp
      · by_cases q2 : c' = c2
        · subst q2; right; left; simp
        · right; right; simp [q1, q2]
def insL (μ : Sto) (cs : List Nat) (d : DV) : Bool := cs.any fun c => insC μ c d
def ePropL (cs : List Nat) (F : Fn) (o : DE) : DE := fun ρ μ => (o ρ μ).bind fun d μ1 => if insL μ1 cs d = true then (F [d] μ1).nox else .stuck
theorem insL2 (μ : Sto) (d : DV) : insL μ [c1, c2] d = (insC μ c1 d || insC μ c2 d) := by simp [insL]
theorem ge_prop2 (h1 : GE g W X e (eProp c1 F fo)) (h2 : GE g W X e (eProp c2 F fo)) : GE g W X e (ePropL [c1, c2] F fo) := by
  refine ge_either h1 h2 fun ρ μ => ?_
  unfold ePropL eProp
  cases fo ρ μ with
  | stuck => exact .inl rfl
  | ex c ns xs μ1 => exact .inl rfl
  | ok d μ1 =>
    show (if insL μ1 [c1, c2] d = true then (F [d] μ1).nox else .stuck) = (if insC μ1 c1 d = true then (F [d] μ1).nox else .stuck) ∨ (if insL μ1 [c1, c2] d = true then (F [d] μ1).nox else .stuck) = (if insC μ1 c2 d = true then (F [d] μ1).nox else .stuck) ∨
      (if insL μ1 [c1, c2] d = true then (F [d] μ1).nox else .stuck) = R.stuck
    rw [insL2]
    cases q1 : insC μ1 c1 d <;> cases q2 : insC μ1 c2 d <;> simp
theorem opEither {op : Value → Value → Sem Value} {F1 F2 F3 : DV → DV → Sto → R DV} (h1 : OpR X op (r2F g F1)) (h2 : OpR X op (r2F g F2)) (hf : ∀ d e μ, F3 d e μ = F1 d e μ ∨ F3 d e μ = F2 d e μ ∨ F3 d e μ = .stuck) : OpR X op (r2F g F3) := by
  intro pins s σ H x y v u Q I rx ry h
  obtain ⟨κ, d, e, μ, rd, re, so, ho⟩ := h
  rcases hf d e μ with q | q | q
  · exact h1 pins s σ H x y v u Q I rx ry ⟨κ, d, e, μ, rd, re, so, by rw [← q]; exact ho⟩
  · exact h2 pins s σ H x y v u Q I rx ry ⟨κ, d, e, μ, rd, re, so, by rw [← q]; exact ho⟩
  · rw [q] at ho; exact ho.elim
def eqOL (c1 c2 : Nat) (F : Fn) (d e : DV) (μ : Sto) : R DV := if insC μ c1 d = true then eqOw c1 F d e μ else eqOw c2 F d e μ
def neOL (c1 c2 : Nat) (F : Fn) (d e : DV) (μ : Sto) : R DV := if insC μ c1 d = true then neOw c1 F d e μ else neOw c2 F d e μ
def inOL (cs : List Nat) (F : Fn) (x o : DV) (μ : Sto) : R DV := if insL μ cs o = true then ownR F tBl [o, x] μ else .stuck
theorem opEq2 {op : Value → Value → Sem Value} (h1 : OpR X op (r2F g (eqOw c1 F))) (h2 : OpR X op (r2F g (eqOw c2 F))) : OpR X op (r2F g (eqOL c1 c2 F)) := opEither h1 h2 fun d e μ => by
  unfold eqOL
  cases insC μ c1 d
  · right; left; rfl
  · left; rfl
theorem opNe2 {op : Value → Value → Sem Value} (h1 : OpR X op (r2F g (neOw c1 F))) (h2 : OpR X op (r2F g (neOw c2 F))) : OpR X op (r2F g (neOL c1 c2 F)) := opEither h1 h2 fun d e μ => by
  unfold neOL
  cases insC μ c1 d
  · right; left; rfl
  · left; rfl
theorem opIn2 {op : Value → Value → Sem Value} (h1 : OpR X op (r2F g (inOw c1 F))) (h2 : OpR X op (r2F g (inOw c2 F))) : OpR X op (r2F g (inOL [c1, c2] F)) := opEither h1 h2 fun d e μ => by
  unfold inOL inOw
  rw [insL2]
  cases q1 : insC μ c1 e <;> cases q2 : insC μ c2 e <;> simp
def eOrAL (cs ds : List Nat) (F : Fn) (a b : DE) : DE := fun ρ μ => (a ρ μ).bind fun x μ1 => (b ρ μ1).bind fun y μ2 => if (insL μ2 cs x && (orTy y || ds.any fun d => insC μ2 d y)) = true then F [x, y] μ2 else .stuck
theorem ge_orA2 {ds : List Nat} (h1 : GE g W X e (eOrA c1 ds F fa fb)) (h2 : GE g W X e (eOrA c2 ds F fa fb)) : GE g W X e (eOrAL [c1, c2] ds F fa fb) := by
  refine ge_either h1 h2 fun ρ μ => ?_
  unfold eOrAL eOrA
  cases fa ρ μ with
  | stuck => exact .inl rfl
  | ex c ns xs μ1 => exact .inl rfl
  | ok d μ1 =>
    show ((fb ρ μ1).bind fun y μ2 => if (insL μ2 [c1, c2] d && (orTy y || ds.any fun q => insC μ2 q y)) = true then F [d, y] μ2 else .stuck) = ((fb ρ μ1).bind fun y μ2 => if (insC μ2 c1 d && (orTy y || ds.any fun q => insC μ2 q y)) = true then F [d, y] μ2 else .stuck) ∨
      ((fb ρ μ1).bind fun y μ2 => if (insL μ2 [c1, c2] d && (orTy y || ds.any fun q => insC μ2 q y)) = true then F [d, y] μ2 else .stuck) = ((fb ρ μ1).bind fun y μ2 => if (insC μ2 c2 d && (orTy y || ds.any fun q => insC μ2 q y)) = true then F [d, y] μ2 else .stuck) ∨
      ((fb ρ μ1).bind fun y μ2 => if (insL μ2 [c1, c2] d && (orTy y || ds.any fun q => insC μ2 q y)) = true then F [d, y] μ2 else .stuck) = R.stuck
    cases fb ρ μ1 with
    | stuck => exact .inl rfl
    | ex c ns xs μ2 => exact .inl rfl
    | ok y μ2 =>
      show (if (insL μ2 [c1, c2] d && (orTy y || ds.any fun q => insC μ2 q y)) = true then F [d, y] μ2 else .stuck) = (if (insC μ2 c1 d && (orTy y || ds.any fun q => insC μ2 q y)) = true then F [d, y] μ2 else .stuck) ∨
        (if (insL μ2 [c1, c2] d && (orTy y || ds.any fun q => insC μ2 q y)) = true then F [d, y] μ2 else .stuck) = (if (insC μ2 c2 d && (orTy y || ds.any fun q => insC μ2 q y)) = true then F [d, y] μ2 else .stuck) ∨
        (if (insL μ2 [c1, c2] d && (orTy y || ds.any fun q => insC μ2 q y)) = true then F [d, y] μ2 else .stuck) = R.stuck
      rw [insL2]
      cases q1 : insC μ2 c1 d <;> cases q2 : insC μ2 c2 d <;> simp
def vIsiS (c : Nat) (ss : List Nat) : VN := fun ds μ => match ds with
  | [d, .gl c'] => if c' == c then (match insOf μ d with
    | some (c'', _, _) => if (c'' == c || ss.contains c'') = true then some (.bl true) else none
    | none => (tyOf μ d).map fun _ => .bl false) else none
  | _ => none
theorem cIsiS {ss : List Nat} (xg : XG g X) (okc : IsOk g c) (ok : ∀ d ∈ ss, IsOk g d ∧ PySem.W.subIn g.K (.ref (g.cls d)) (.ref (g.cls c)) = some true) : CallR X (.builtin "isinstance") (rN g (vIsiS c ss)) := by
  have base := cIsiO (cs := [c]) xg fun d hd => by rw [List.mem_singleton.mp hd]; exact okc
  intro pins s σ H xs us Q I rx h
  obtain ⟨κ, ds, μ, rd, so, ho⟩ := h
  unfold vIsiS at ho
  split at ho
  · rename_i d c'
    split at ho
    case isFalse => exact ho.elim
    rename_i hc
    have hc := beq_iff_eq.mp hc
    subst hc
    cases hi : insOf μ d with
    | some t =>
      obtain ⟨c'', ns, ys⟩ := t
      rw [hi] at ho
      simp only at ho
      by_cases e0 : (c'' == c' || ss.contains c'') = true
      · rw [if_pos e0] at ho
        by_cases e : c'' = c'
        · subst e
          refine base pins s σ H xs us Q I rx ⟨κ, _, μ, rd, so, ?_⟩
          have : vIsiO [c''] [d, .gl c''] μ = some (.bl true) := by simp [vIsiO, hi]
          rw [this]; exact ho
        · have hm : c'' ∈ ss := by simpa [e] using e0
          obtain ⟨O, sb⟩ := ok c'' hm
          obtain ⟨v, w', rfl, r1, r2⟩ := relL2 rd
          simp only [Rel] at r2
          subst r2
          obtain ⟨p, dx, vs, rfl, h2, _, _⟩ := insOf_rel so r1 hi
          refine call_isi pins s σ H _ us Q I rx ⟨.ref p, .ref (g.cls c'), .ref (g.cls c''), .ref (g.cls c'), true, rfl, .own _, ?_, ?_, rOut.flat so ho (by simp [Rel])⟩
          · rw [xg.K]
            exact .base (.ins h2 O.cl O.k1 O.k2 O.k3 O.k4)
          · rw [xg.K]
            unfold PySem.W.kitOne
            split
            · rfl
            · show (if ((PySem.W.clsIn g.K (g.cls c')).isSome && PySem.W.typeIn g.K (.ref (g.cls c')) == some (.type "type")) = true then PySem.W.subIn g.K (.ref (g.cls c'')) (.ref (g.cls c')) else none) = some true
              rw [if_pos okc.k5]
              exact sb
      · rw [if_neg e0] at ho; exact ho.elim
    | none =>
      rw [hi] at ho
      refine base pins s σ H xs us Q I rx ⟨κ, _, μ, rd, so, ?_⟩
      have : vIsiO [c'] [d, .gl c'] μ = (tyOf μ d).map fun _ => .bl false := by simp [vIsiO, hi]
      rw [this]; exact ho
  · exact ho.elim
theorem isS1 {d : Nat} (h : IsOk g d) (sb : PySem.W.subIn g.K (.ref (g.cls d)) (.ref (g.cls c)) = some true) : ∀ q ∈ [d], IsOk g q ∧ PySem.W.subIn g.K (.ref (g.cls q)) (.ref (g.cls c)) = some true := fun q hq => by
  rw [List.mem_singleton.mp hq]; exact ⟨h, sb⟩
theorem flOk2 (h1 : FlOk g [c1] f) (h2 : FlOk g [c2] f) : FlOk g [c1, c2] f := fun c hc => by
  rcases List.mem_cons.mp hc with h | h
  · exact h1 c (by rw [h]; exact List.mem_singleton.mpr rfl)
  · exact h2 c h
theorem orTo2 {C : Addr} (h1 : OrTo g.K C (g.cls c1)) (h2 : OrTo g.K C (g.cls c2)) : ∀ d ∈ [c1, c2], OrTo g.K C (g.cls d) := fun d hd => by
  rcases List.mem_cons.mp hd with h | h
  · rw [h]; exact h1
  · rw [List.mem_singleton.mp h]; exact h2
theorem ge_mk0 {qual : Str} {st : Stmt} (G : MkG X.prog X.w g X.mg X.base k x c qual st ["self"] F) (xg : XG g X) (ar : Ar F 1) (hr : Room (k + 1) X.A) (hg : Gl X x) (tk : Takes X W)
    (hb : ∀ (kV doc pm : Value) (an : Option Addr) (cdv ct : Value) (us : List Value), us.length = 1 → bindArgs (PySem.W.fnOf "__init__" qual (defArgs st) (defBody st) (defScope st) .none kV doc pm an cdv ct) ⟨us, []⟩ = pure ((["self"] : List Str).zip us))
    (hdb : (x == ("__debug__" : Str)) = false := by decide) :
    GE g W X (.Call (.Name x p) [] [] pos) (eMk c F aNil) := by
  obtain ⟨f, fd, h1, h2, h3, h4⟩ := G.ex
  have eK : X.K = g.K := xg.K
  rw [← eK] at h2 h3 h4
  have bn : Binds X.K fd ["self"] [] := h3.bindsN hb
  refine ⟨fun pins s σ H Q I h => ?_⟩
  obtain ⟨κ, ρ, μ, hE, hs, hw⟩ := h
  refine wpAny_Call_Name_kw (ld_glob I hg h1 ?_ hdb)
  have hh : wpR g W σ κ H (mkR μ.length (F [.cell μ.length] (μ ++ [.ins c [] []]))) (fun d _ κ' H' => ∀ v, Rel g κ' H' d v → Q v H') := hw
  refine PySem.W.callWith_K0 (first := []) I.kIn h2.kp ?_
  refine run_makeSD (E := fun σ => WE W σ) (us := []) (vs := []) h2 h4 hr bn (passAt tk σ) I .nil fun a dx na nd ne => ?_
  exact mk_read (xs := []) (vs := []) ar RelL.nil hs hh na nd ne
theorem cm_of {P : Program} {w : World} {mg : Str → Option Value} {base : Heap} {qual : Str} {st : Stmt} {N : List Str} {md : Md} {fb : DS} {q f : Addr} {m : Str} (r : ClX.CRead g.K (g.cls c) (.type "type")) (cm : ClX.CMet g.K (g.cls c) (.type "type") m q f)
    (hF : ∃ fd, FunD g.K m qual (defArgs st) (defBody st) (defScope st) [] [] f fd) (S : FnScope N ["cls"] (defScope st))
    (hb : ∀ (kV doc pm : Value) (an : Option Addr) (cdv ct : Value) (us : List Value), us.length = 1 → bindArgs (PySem.W.fnOf m qual (defArgs st) (defBody st) (defScope st) .none kV doc pm an cdv ct) ⟨us, []⟩ = pure ((["cls"] : List Str).zip us))
    (hh : ∀ (cdv : Value) (A : Around) (outer : List Env) (s : Shared) (H : Hp) (E : XK), Room k (A.deeper (envOfC qual (defScope st) s.heap.objs.size f cdv)) → GSs g (WF E) (cxOf (L2.CX P w) P w g.K mg base N qual (defScope st) f cdv A outer s H E) (defBody st) fb) :
    CmG P w g mg base (k + 1) c m (runF md 1 N.length fb) := by
  obtain ⟨fd, F⟩ := hF
  exact ⟨q, f, fd, .type "type", r, cm, F.bindsN hb, gf_ok F S hh⟩
end
end SD

set_option Elab.async false
set_option linter.all false
set_option maxRecDepth 100000
set_option maxHeartbeats 4000000
namespace Lw
open PySem PySem.Spec PyProof.Rows L2 SD
def top (i : Nat) : Stmt := PySem.Challenge.pw_stucklots_k21_whole_arcs_joined_and_cove.main.body.getD i (.Pass ⟨0, 0, 0, 0⟩)
abbrev s_InvalidDirection : Stmt := (C8.clsBody (top 3)).getD 0 (.Pass ⟨0, 0, 0, 0⟩)
abbrev s_NoJoining : Stmt := (C8.clsBody (top 4)).getD 0 (.Pass ⟨0, 0, 0, 0⟩)
abbrev s_is_whole : Stmt := top 7
abbrev s_is_number : Stmt := top 8
abbrev s_is_pair : Stmt := top 9
abbrev s_divisor : Stmt := top 10
abbrev s_is_direction : Stmt := top 11
abbrev s_cross : Stmt := top 13
abbrev s_turned_half : Stmt := top 14
abbrev s_lies_between : Stmt := top 16
abbrev s_Arc___contains__ : Stmt := (C8.clsBody (top 19)).getD 8 (.Pass ⟨0, 0, 0, 0⟩)
abbrev s_Arc___contains___WholeArc : Stmt := (C8.clsBody (top 19)).getD 8 (.Pass ⟨0, 0, 0, 0⟩)
abbrev s_arcs_meet : Stmt := top 17
abbrev s_Arc_covers : Stmt := (C8.clsBody (top 19)).getD 7 (.Pass ⟨0, 0, 0, 0⟩)
abbrev s_Arc_covers_WholeArc : Stmt := (C8.clsBody (top 19)).getD 7 (.Pass ⟨0, 0, 0, 0⟩)
abbrev s_WholeArc___init__ : Stmt := (C8.clsBody (top 20)).getD 0 (.Pass ⟨0, 0, 0, 0⟩)
abbrev s_Arc___init__ : Stmt := (C8.clsBody (top 19)).getD 0 (.Pass ⟨0, 0, 0, 0⟩)
abbrev s_united : Stmt := top 18
abbrev s_Arc_ends : Stmt := (C8.clsBody (top 19)).getD 5 (.Pass ⟨0, 0, 0, 0⟩)
abbrev s_Arc_ends_WholeArc : Stmt := (C8.clsBody (top 19)).getD 5 (.Pass ⟨0, 0, 0, 0⟩)
abbrev s_Arc_turned : Stmt := (C8.clsBody (top 19)).getD 6 (.Pass ⟨0, 0, 0, 0⟩)
abbrev s_Arc_turned_WholeArc : Stmt := (C8.clsBody (top 19)).getD 6 (.Pass ⟨0, 0, 0, 0⟩)
abbrev s_Arc___or__ : Stmt := (C8.clsBody (top 19)).getD 9 (.Pass ⟨0, 0, 0, 0⟩)
abbrev s_Arc___or___WholeArc : Stmt := (C8.clsBody (top 19)).getD 9 (.Pass ⟨0, 0, 0, 0⟩)
abbrev s_Arc___eq__ : Stmt := (C8.clsBody (top 19)).getD 10 (.Pass ⟨0, 0, 0, 0⟩)
abbrev s_Arc___eq___WholeArc : Stmt := (C8.clsBody (top 19)).getD 10 (.Pass ⟨0, 0, 0, 0⟩)
abbrev s_Arc___len__ : Stmt := (C8.clsBody (top 19)).getD 11 (.Pass ⟨0, 0, 0, 0⟩)
abbrev s_Arc___len___WholeArc : Stmt := (C8.clsBody (top 19)).getD 11 (.Pass ⟨0, 0, 0, 0⟩)
abbrev s_Arc___bool__ : Stmt := (C8.clsBody (top 19)).getD 12 (.Pass ⟨0, 0, 0, 0⟩)
abbrev s_Arc___bool___WholeArc : Stmt := (C8.clsBody (top 19)).getD 12 (.Pass ⟨0, 0, 0, 0⟩)
abbrev s__law_open : Stmt := top 22
abbrev s__law_draw : Stmt := top 23
abbrev s__law_of : Stmt := top 24
abbrev s__law_same : Stmt := top 25
abbrev s__law_field : Stmt := top 26
abbrev s__law_try : Stmt := top 27
abbrev s__law_cross : Stmt := top 28
abbrev s__law_half : Stmt := top 29
abbrev s__law_reduced : Stmt := top 30
abbrev s__law_ahead : Stmt := top 31
abbrev s__law_round : Stmt := top 32
abbrev s__law_mid : Stmt := top 33
abbrev s__law_mids : Stmt := top 34
abbrev s__law_angle : Stmt := top 35
abbrev s__law_within : Stmt := top 36
abbrev s__law_dir : Stmt := top 37
abbrev s__law_arc_of_two : Stmt := top 38
abbrev s__law_arc_made : Stmt := top 39
abbrev s__law_joined_so : Stmt := top 40
abbrev s_law : Stmt := top 41
abbrev s_Arc_is_whole : Stmt := (C8.clsBody (top 19)).getD 4 (.Pass ⟨0, 0, 0, 0⟩)
abbrev s_Arc_is_whole_WholeArc : Stmt := (C8.clsBody (top 19)).getD 4 (.Pass ⟨0, 0, 0, 0⟩)
abbrev s_Arc_start : Stmt := (C8.clsBody (top 19)).getD 2 (.Pass ⟨0, 0, 0, 0⟩)
abbrev s_Arc_start_WholeArc : Stmt := (C8.clsBody (top 19)).getD 2 (.Pass ⟨0, 0, 0, 0⟩)
abbrev s_Arc_stop : Stmt := (C8.clsBody (top 19)).getD 3 (.Pass ⟨0, 0, 0, 0⟩)
abbrev s_Arc_stop_WholeArc : Stmt := (C8.clsBody (top 19)).getD 3 (.Pass ⟨0, 0, 0, 0⟩)
abbrev s_Arc_whole : Stmt := (C8.clsBody (top 19)).getD 1 (.Pass ⟨0, 0, 0, 0⟩)
def fa : List He.Fa := [.glo "InvalidDirection", .glo "NoJoining", .free "int", .free "isinstance", .free "bool", .glo "is_whole", .glo "is_number", .free "tuple", .free "len", .glo "is_pair", .free "abs", .glo "divisor", .int "STEEPEST" 999, .glo "is_direction", .glo "cross", .glo "turned_half", .glo "lies_between", .glo "arcs_meet", .glo "WholeArc", .glo "Arc", .glo "united", .free "list", .glo "_law_open", .glo "_law_draw", .glo "_law_of", .free "zip", .free "all", .free "str", .glo "_law_same", .glo "_law_field", .glo "_law_cross", .glo "_law_half", .glo "_law_reduced", .glo "_law_ahead", .glo "_law_round", .glo "_law_mid", .free "range", .glo "_law_mids", .glo "_law_angle", .glo "_law_within", .glo "_law_dir", .glo "_law_arc_of_two", .glo "_law_arc_made", .free "max", .glo "_law_joined_so", .free "any", .glo "_law_try", .glo "LotError", .glo "Missing", .glo "law"]
def d_InvalidDirection : He.DefD := ⟨("InvalidDirection", some "__init__"), "__init__", "InvalidDirection.__init__", defArgs s_InvalidDirection, defBody s_InvalidDirection, defScope s_InvalidDirection, [], []⟩
def d_NoJoining : He.DefD := ⟨("NoJoining", some "__init__"), "__init__", "NoJoining.__init__", defArgs s_NoJoining, defBody s_NoJoining, defScope s_NoJoining, [], []⟩
def d_is_whole : He.DefD := ⟨("is_whole", none), "is_whole", "is_whole", defArgs s_is_whole, defBody s_is_whole, defScope s_is_whole, [], []⟩
def d_is_number : He.DefD := ⟨("is_number", none), "is_number", "is_number", defArgs s_is_number, defBody s_is_number, defScope s_is_number, [], []⟩
def d_is_pair : He.DefD := ⟨("is_pair", none), "is_pair", "is_pair", defArgs s_is_pair, defBody s_is_pair, defScope s_is_pair, [], []⟩
def d_divisor : He.DefD := ⟨("divisor", none), "divisor", "divisor", defArgs s_divisor, defBody s_divisor, defScope s_divisor, [], []⟩
def d_is_direction : He.DefD := ⟨("is_direction", none), "is_direction", "is_direction", defArgs s_is_direction, defBody s_is_direction, defScope s_is_direction, [], []⟩
def d_cross : He.DefD := ⟨("cross", none), "cross", "cross", defArgs s_cross, defBody s_cross, defScope s_cross, [], []⟩
def d_turned_half : He.DefD := ⟨("turned_half", none), "turned_half", "turned_half", defArgs s_turned_half, defBody s_turned_half, defScope s_turned_half, [], []⟩
def d_lies_between : He.DefD := ⟨("lies_between", none), "lies_between", "lies_between", defArgs s_lies_between, defBody s_lies_between, defScope s_lies_between, [], []⟩
def d_Arc___contains__ : He.DefD := ⟨("Arc", some "__contains__"), "__contains__", "Arc.__contains__", defArgs s_Arc___contains__, defBody s_Arc___contains__, defScope s_Arc___contains__, [], []⟩
def d_Arc___contains___WholeArc : He.DefD := ⟨("WholeArc", some "__contains__"), "__contains__", "Arc.__contains__", defArgs s_Arc___contains___WholeArc, defBody s_Arc___contains___WholeArc, defScope s_Arc___contains___WholeArc, [], []⟩
def d_arcs_meet : He.DefD := ⟨("arcs_meet", none), "arcs_meet", "arcs_meet", defArgs s_arcs_meet, defBody s_arcs_meet, defScope s_arcs_meet, [], []⟩
def d_Arc_covers : He.DefD := ⟨("Arc", some "covers"), "covers", "Arc.covers", defArgs s_Arc_covers, defBody s_Arc_covers, defScope s_Arc_covers, [], []⟩
def d_Arc_covers_WholeArc : He.DefD := ⟨("WholeArc", some "covers"), "covers", "Arc.covers", defArgs s_Arc_covers_WholeArc, defBody s_Arc_covers_WholeArc, defScope s_Arc_covers_WholeArc, [], []⟩
def d_WholeArc___init__ : He.DefD := ⟨("WholeArc", some "__init__"), "__init__", "WholeArc.__init__", defArgs s_WholeArc___init__, defBody s_WholeArc___init__, defScope s_WholeArc___init__, [], []⟩
def d_Arc___init__ : He.DefD := ⟨("Arc", some "__init__"), "__init__", "Arc.__init__", defArgs s_Arc___init__, defBody s_Arc___init__, defScope s_Arc___init__, [], []⟩
def d_united : He.DefD := ⟨("united", none), "united", "united", defArgs s_united, defBody s_united, defScope s_united, [], []⟩
def d_Arc_ends : He.DefD := ⟨("Arc", some "ends"), "ends", "Arc.ends", defArgs s_Arc_ends, defBody s_Arc_ends, defScope s_Arc_ends, [], []⟩
def d_Arc_ends_WholeArc : He.DefD := ⟨("WholeArc", some "ends"), "ends", "Arc.ends", defArgs s_Arc_ends_WholeArc, defBody s_Arc_ends_WholeArc, defScope s_Arc_ends_WholeArc, [], []⟩
def d_Arc_turned : He.DefD := ⟨("Arc", some "turned"), "turned", "Arc.turned", defArgs s_Arc_turned, defBody s_Arc_turned, defScope s_Arc_turned, [], []⟩
def d_Arc_turned_WholeArc : He.DefD := ⟨("WholeArc", some "turned"), "turned", "Arc.turned", defArgs s_Arc_turned_WholeArc, defBody s_Arc_turned_WholeArc, defScope s_Arc_turned_WholeArc, [], []⟩
def d_Arc___or__ : He.DefD := ⟨("Arc", some "__or__"), "__or__", "Arc.__or__", defArgs s_Arc___or__, defBody s_Arc___or__, defScope s_Arc___or__, [], []⟩
def d_Arc___or___WholeArc : He.DefD := ⟨("WholeArc", some "__or__"), "__or__", "Arc.__or__", defArgs s_Arc___or___WholeArc, defBody s_Arc___or___WholeArc, defScope s_Arc___or___WholeArc, [], []⟩
def d_Arc___eq__ : He.DefD := ⟨("Arc", some "__eq__"), "__eq__", "Arc.__eq__", defArgs s_Arc___eq__, defBody s_Arc___eq__, defScope s_Arc___eq__, [], []⟩
def d_Arc___eq___WholeArc : He.DefD := ⟨("WholeArc", some "__eq__"), "__eq__", "Arc.__eq__", defArgs s_Arc___eq___WholeArc, defBody s_Arc___eq___WholeArc, defScope s_Arc___eq___WholeArc, [], []⟩
def d_Arc___len__ : He.DefD := ⟨("Arc", some "__len__"), "__len__", "Arc.__len__", defArgs s_Arc___len__, defBody s_Arc___len__, defScope s_Arc___len__, [], []⟩
def d_Arc___len___WholeArc : He.DefD := ⟨("WholeArc", some "__len__"), "__len__", "Arc.__len__", defArgs s_Arc___len___WholeArc, defBody s_Arc___len___WholeArc, defScope s_Arc___len___WholeArc, [], []⟩
def d_Arc___bool__ : He.DefD := ⟨("Arc", some "__bool__"), "__bool__", "Arc.__bool__", defArgs s_Arc___bool__, defBody s_Arc___bool__, defScope s_Arc___bool__, [], []⟩
def d_Arc___bool___WholeArc : He.DefD := ⟨("WholeArc", some "__bool__"), "__bool__", "Arc.__bool__", defArgs s_Arc___bool___WholeArc, defBody s_Arc___bool___WholeArc, defScope s_Arc___bool___WholeArc, [], []⟩
def d__law_open : He.DefD := ⟨("_law_open", none), "_law_open", "_law_open", defArgs s__law_open, defBody s__law_open, defScope s__law_open, [], []⟩
def d__law_draw : He.DefD := ⟨("_law_draw", none), "_law_draw", "_law_draw", defArgs s__law_draw, defBody s__law_draw, defScope s__law_draw, [], []⟩
def d__law_of : He.DefD := ⟨("_law_of", none), "_law_of", "_law_of", defArgs s__law_of, defBody s__law_of, defScope s__law_of, [], []⟩
def d__law_same : He.DefD := ⟨("_law_same", none), "_law_same", "_law_same", defArgs s__law_same, defBody s__law_same, defScope s__law_same, [], []⟩
def d__law_field : He.DefD := ⟨("_law_field", none), "_law_field", "_law_field", defArgs s__law_field, defBody s__law_field, defScope s__law_field, [], []⟩
def d__law_try : He.DefD := ⟨("_law_try", none), "_law_try", "_law_try", defArgs s__law_try, defBody s__law_try, defScope s__law_try, [], []⟩
def d__law_cross : He.DefD := ⟨("_law_cross", none), "_law_cross", "_law_cross", defArgs s__law_cross, defBody s__law_cross, defScope s__law_cross, [], []⟩
def d__law_half : He.DefD := ⟨("_law_half", none), "_law_half", "_law_half", defArgs s__law_half, defBody s__law_half, defScope s__law_half, [], []⟩
def d__law_reduced : He.DefD := ⟨("_law_reduced", none), "_law_reduced", "_law_reduced", defArgs s__law_reduced, defBody s__law_reduced, defScope s__law_reduced, [], []⟩
def d__law_ahead : He.DefD := ⟨("_law_ahead", none), "_law_ahead", "_law_ahead", defArgs s__law_ahead, defBody s__law_ahead, defScope s__law_ahead, [], []⟩
def d__law_round : He.DefD := ⟨("_law_round", none), "_law_round", "_law_round", defArgs s__law_round, defBody s__law_round, defScope s__law_round, [], []⟩
def d__law_mid : He.DefD := ⟨("_law_mid", none), "_law_mid", "_law_mid", defArgs s__law_mid, defBody s__law_mid, defScope s__law_mid, [], []⟩
def d__law_mids : He.DefD := ⟨("_law_mids", none), "_law_mids", "_law_mids", defArgs s__law_mids, defBody s__law_mids, defScope s__law_mids, [], []⟩
def d__law_angle : He.DefD := ⟨("_law_angle", none), "_law_angle", "_law_angle", defArgs s__law_angle, defBody s__law_angle, defScope s__law_angle, [], []⟩
def d__law_within : He.DefD := ⟨("_law_within", none), "_law_within", "_law_within", defArgs s__law_within, defBody s__law_within, defScope s__law_within, [], []⟩
def d__law_dir : He.DefD := ⟨("_law_dir", none), "_law_dir", "_law_dir", defArgs s__law_dir, defBody s__law_dir, defScope s__law_dir, [], []⟩
def d__law_arc_of_two : He.DefD := ⟨("_law_arc_of_two", none), "_law_arc_of_two", "_law_arc_of_two", defArgs s__law_arc_of_two, defBody s__law_arc_of_two, defScope s__law_arc_of_two, [], []⟩
def d__law_arc_made : He.DefD := ⟨("_law_arc_made", none), "_law_arc_made", "_law_arc_made", defArgs s__law_arc_made, defBody s__law_arc_made, defScope s__law_arc_made, [], []⟩
def d__law_joined_so : He.DefD := ⟨("_law_joined_so", none), "_law_joined_so", "_law_joined_so", defArgs s__law_joined_so, defBody s__law_joined_so, defScope s__law_joined_so, [], []⟩
def d_law : He.DefD := ⟨("law", none), "law", "law", defArgs s_law, defBody s_law, defScope s_law, [], []⟩
def fn : List He.DefD := [d_InvalidDirection, d_NoJoining, d_is_whole, d_is_number, d_is_pair, d_divisor, d_is_direction, d_cross, d_turned_half, d_lies_between, d_Arc___contains__, d_Arc___contains___WholeArc, d_arcs_meet, d_Arc_covers, d_Arc_covers_WholeArc, d_WholeArc___init__, d_Arc___init__, d_united, d_Arc_ends, d_Arc_ends_WholeArc, d_Arc_turned, d_Arc_turned_WholeArc, d_Arc___or__, d_Arc___or___WholeArc, d_Arc___eq__, d_Arc___eq___WholeArc, d_Arc___len__, d_Arc___len___WholeArc, d_Arc___bool__, d_Arc___bool___WholeArc, d__law_open, d__law_draw, d__law_of, d__law_same, d__law_field, d__law_try, d__law_cross, d__law_half, d__law_reduced, d__law_ahead, d__law_round, d__law_mid, d__law_mids, d__law_angle, d__law_within, d__law_dir, d__law_arc_of_two, d__law_arc_made, d__law_joined_so, d_law]
def csX : List (Str × List Str) := [("InvalidDirection", ["at", "code", "name", "one", "other", "peg", "value"]), ("NoJoining", ["at", "code", "name", "one", "other", "peg", "value"])]
abbrev csL : List Nat := [0, 1]
def ysX : List OwnY := [("Arc", ["own_start", "own_stop"], ["ends", "turned", "covers", "__contains__", "__or__", "__eq__", "__len__", "__bool__", "__repr__"]), ("WholeArc", ["own_start", "own_stop"], ["ends", "turned", "covers", "__contains__", "__or__", "__eq__", "__len__", "__bool__", "__repr__"])]
def cvX : List ConY := []
def gt_Arc_is_whole : GetD := ⟨"Arc", "is_whole", "is_whole", "Arc.is_whole", defArgs s_Arc_is_whole, defBody s_Arc_is_whole, defScope s_Arc_is_whole, false⟩
def gt_Arc_is_whole_WholeArc : GetD := ⟨"WholeArc", "is_whole", "is_whole", "Arc.is_whole", defArgs s_Arc_is_whole_WholeArc, defBody s_Arc_is_whole_WholeArc, defScope s_Arc_is_whole_WholeArc, false⟩
def gt_Arc_start : GetD := ⟨"Arc", "start", "start", "Arc.start", defArgs s_Arc_start, defBody s_Arc_start, defScope s_Arc_start, false⟩
def gt_Arc_start_WholeArc : GetD := ⟨"WholeArc", "start", "start", "Arc.start", defArgs s_Arc_start_WholeArc, defBody s_Arc_start_WholeArc, defScope s_Arc_start_WholeArc, false⟩
def gt_Arc_stop : GetD := ⟨"Arc", "stop", "stop", "Arc.stop", defArgs s_Arc_stop, defBody s_Arc_stop, defScope s_Arc_stop, false⟩
def gt_Arc_stop_WholeArc : GetD := ⟨"WholeArc", "stop", "stop", "Arc.stop", defArgs s_Arc_stop_WholeArc, defBody s_Arc_stop_WholeArc, defScope s_Arc_stop_WholeArc, false⟩
def gt_Arc_whole : GetD := ⟨"Arc", "whole", "whole", "Arc.whole", defArgs s_Arc_whole, defBody s_Arc_whole, defScope s_Arc_whole, true⟩
def xsX : List (PySem.W.Frag → Bool) := [subB "WholeArc" "Arc", orB "Arc", orToB "Arc" "WholeArc", orB "WholeArc", orToB "WholeArc" "Arc"]
def dfX : List (PySem.W.Frag → Addr) := []
def gtX : List GetD := [gt_Arc_is_whole, gt_Arc_is_whole_WholeArc, gt_Arc_start, gt_Arc_start_WholeArc, gt_Arc_stop, gt_Arc_stop_WholeArc, gt_Arc_whole]
def tfX : List He.Defn := [("law", none)]
def csA : List (Str × List Str) := csX ++ ([("Arc", []), ("WholeArc", [])] : List (Str × List Str))
abbrev gK (K : PySem.W.Frag) : Gc := ⟨K, clsN csA K, [((He.cT K ("law", none)).2, ("law" : Str) ++ ".<locals>." ++ "<lambda>")], none⟩
end Lw

set_option Elab.async false
set_option linter.all false
set_option maxRecDepth 100000
set_option maxHeartbeats 4000000
namespace Lw
open PySem PySem.Spec PyProof.Rows L2 SD
def loose0 : List Str := ["__name__", "LotError", "Missing", "InvalidDirection", "NoJoining", "STEEPEST", "is_whole", "is_number", "is_pair", "divisor", "is_direction", "cross", "turned_half", "lies_between", "arcs_meet", "united", "Arc", "WholeArc", "_law_open", "_law_draw", "_law_of", "_law_same", "_law_field", "_law_try", "_law_cross", "_law_half", "_law_reduced", "_law_ahead", "_law_round", "_law_mid"]
def loose1 : List Str := ["_law_mids", "_law_angle", "_law_within", "_law_dir", "_law_arc_of_two", "_law_arc_made", "_law_joined_so"]
def loose : List Str := loose0 ++ loose1
def exX (K : PySem.W.Frag) : Bool := allX csX K && (allY ysX K && (allC cvX K && (allE dfX K && (allD tfX K && allM xsX K))))
abbrev R0 : PySem.W.OpenRow := PySem.W.OpenLaw.row PySem.Challenge.rw_stucklots_k21_whole_arcs_joined_and_cove
abbrev hk : PySem.W.Hook := hookY 5 fa fn tfX exX gtX
def ob (s : PySem.W.SharedT) : AlG := obsY 5 fa fn tfX exX gtX (HandSHeadRun.getT s)
theorem ob_eq (s : PySem.W.SharedT) : ob s = hk.obs s.abs := obsY_eq (HandSHeadRun.getT_eq s)
/-- the head's run, one part after the other (all at once wants more room than there is) -/
theorem join5 {σ α β γ δ : Type} {o : Option σ} {f1 : σ → Bool} {f2 : σ → β} {ob : σ → (α × γ) × δ} {v1 : Bool} {v2 : β} {v3 : (α × γ) × δ} (h1 : o.map f1 = some v1) (h2 : o.map f2 = some v2) (h3 : o.map (fun s => (ob s).1.1) = some v3.1.1) (h4 : o.map (fun s => (ob s).1.2) = some v3.1.2) (h5 : o.map (fun s => (ob s).2) = some v3.2) : o.map (fun s => (f1 s, f2 s, ob s)) = some (v1, v2, v3) := by
  cases o with
  | none => cases h1
  | some s =>
    simp only [Option.map_some, Option.some.injEq] at *
    rw [h1, h2, ← Prod.eta (ob s), ← Prod.eta (ob s).1, h3, h4, h5]
section
open PySem.W PySem.Calls
noncomputable abbrev endO (w : World) (os : OsState) := HandSHeadRun.endF (HandSHeadRun.stepQ (HandSHeadRun.denQ HandSHeadRun.tabQ) R0.prog w) 9000 R0.prog w os
theorem run1 (w : World) (os : OsState) : (endO w os).map (fun s => HandSHeadRun.looksF R0.prog (boot_heap w.params) s.abs) = some true := by
  kernel_rfl
theorem run2 (w : World) (os : OsState) : (endO w os).map (fun s => HandSHeadRun.seenQ (view R0.prog [41]) loose (importedModules R0.prog.main.body) (fun s => xlAt (view R0.prog [41]) [] s && recOk R0.toRowW.records s) s.abs) = some (openGood (view R0.prog [41]) loose) := by
  kernel_rfl
theorem run3 (w : World) (os : OsState) : (endO w os).map (fun s => (ob s).1.1) = some (hk.val w).1.1 := by
  kernel_rfl
theorem run4 (w : World) (os : OsState) : (endO w os).map (fun s => (ob s).1.2) = some (hk.val w).1.2 := by
  kernel_rfl
theorem run5 (w : World) (os : OsState) : (endO w os).map (fun s => (ob s).2) = some (hk.val w).2 := by
  kernel_rfl
end
theorem run (w : World) : HandSHeadRun.RunEq R0 (PySem.W.view R0.prog [41]) hk ob 9000 loose w := fun os => join5 (run1 w os) (run2 w os) (run3 w os) (run4 w os) (run5 w os)
end Lw

set_option Elab.async false
set_option linter.all false
set_option maxRecDepth 100000
set_option maxHeartbeats 4000000
namespace Lw
open PySem PySem.Spec PyProof.Rows L2 SD
section
variable {P : Program} {w : World} {K : PySem.W.Frag} {mg : Str → Option Value} {base : Heap}
theorem ow_Arc (T : Hv fa fn csX ysX cvX gtX dfX tfX xsX K mg) : OwnF K "Arc" ["own_start", "own_stop"] ["ends", "turned", "covers", "__contains__", "__or__", "__eq__", "__len__", "__bool__", "__repr__"] := T.own 0
theorem ow_WholeArc (T : Hv fa fn csX ysX cvX gtX dfX tfX xsX K mg) : OwnF K "WholeArc" ["own_start", "own_stop"] ["ends", "turned", "covers", "__contains__", "__or__", "__eq__", "__len__", "__bool__", "__repr__"] := T.own 1
theorem sc_InvalidDirection : FnScope ["self", "value"] ["self", "value"] (defScope s_InvalidDirection) := ⟨rfl, rfl, rfl, by decide +kernel, rfl, by decide +kernel, by decide +kernel⟩
theorem fd_InvalidDirection (T : Hv fa fn csX ysX cvX gtX dfX tfX xsX K mg) : ∃ fd, FunD (gK K).K "__init__" "InvalidDirection.__init__" (defArgs s_InvalidDirection) (defBody s_InvalidDirection) (defScope s_InvalidDirection) [] [] (He.ma K (He.ga K "InvalidDirection") "__init__") fd := T.def_ 0
theorem xc_InvalidDirection (T : Hv fa fn csX ysX cvX gtX dfX tfX xsX K mg) : XcG P w (gK K) mg base 1 "InvalidDirection" 0 ["value"] "InvalidDirection" := xc1 (k := 0) (T.glo 0) (T.xc 0) rfl (fd_InvalidDirection T) sc_InvalidDirection (fun _ _ _ _ _ _ us hl => match us, hl with | [_, _], _ => rfl) rfl rfl rfl (.inl rfl) rfl (.inl rfl) (by decide) (by decide) rfl (fun _ => rfl)
theorem sc_NoJoining : FnScope ["self"] ["self"] (defScope s_NoJoining) := ⟨rfl, rfl, rfl, by decide +kernel, rfl, by decide +kernel, by decide +kernel⟩
theorem fd_NoJoining (T : Hv fa fn csX ysX cvX gtX dfX tfX xsX K mg) : ∃ fd, FunD (gK K).K "__init__" "NoJoining.__init__" (defArgs s_NoJoining) (defBody s_NoJoining) (defScope s_NoJoining) [] [] (He.ma K (He.ga K "NoJoining") "__init__") fd := T.def_ 1
theorem xc_NoJoining (T : Hv fa fn csX ysX cvX gtX dfX tfX xsX K mg) : XcG P w (gK K) mg base 1 "NoJoining" 1 [] "NoJoining" := xc0 (k := 0) (T.glo 1) (T.xc 1) rfl (fd_NoJoining T) sc_NoJoining (fun _ _ _ _ _ _ us hl => match us, hl with | [_], _ => rfl) rfl rfl (.inl rfl) rfl
theorem sc_is_whole : FnScope ["value"] ["value"] (defScope s_is_whole) := ⟨rfl, rfl, rfl, by decide +kernel, rfl, by decide +kernel, by decide +kernel⟩
def b_is_whole : DS :=
  (sRet (eAnd (eFn vIsi (aCons (eVar 0) (aCons (eC (.ty .int)) aNil))) (eNot (eFn vIsi (aCons (eVar 0) (aCons (eC (.ty .bl)) aNil))))))
def f_is_whole : Fn := runF .fz 1 1 b_is_whole
theorem ar_is_whole : Ar f_is_whole 1 := ar_run
theorem fd_is_whole (T : Hv fa fn csX ysX cvX gtX dfX tfX xsX K mg) : ∃ fd, FunD (gK K).K "is_whole" "is_whole" (defArgs s_is_whole) (defBody s_is_whole) (defScope s_is_whole) [] [] (He.ga K "is_whole") fd := T.def_ 2
theorem fb_is_whole (T : Hv fa fn csX ysX cvX gtX dfX tfX xsX K mg) (cdv : Value) (A : Around) (outer : List Env) (s : Shared) (H : Hp) (E : XK) (hr : Room 0 (A.deeper (envOfC "is_whole" (defScope s_is_whole) s.heap.objs.size (He.ga K "is_whole") cdv))) : GSs (gK K) (WF E) (cxOf (L2.CX P w) P w (gK K).K mg base ["value"] "is_whole" (defScope s_is_whole) (He.ga K "is_whole") cdv A outer s H E) (defBody s_is_whole) b_is_whole := by
  have nd := sc_is_whole.nd
  have tk := tk_of (P := P) (w := w) (K := (gK K).K) (mg := mg) (base := base) (N := ["value"]) (qual := "is_whole") (scope := defScope s_is_whole) (f := He.ga K "is_whole") (cdv := cdv) (A := A) (outer := outer) (s := s) (H := H) (E := E)
  have hu := hu64 hr
  have hu5 := hu65 hr
  exact (gss_one (gs_ret (ge_and (ge_callB (cIsi ⟨rfl⟩) rfl (T.free 3) (by decide +kernel) (ga_cons (ge_var (pv 0)) (ga_cons (ge_ty .int (T.free 2) rfl (by decide +kernel)) ga_nil))) (ge_one (ge_not (ge_callB (cIsi ⟨rfl⟩) rfl (T.free 3) (by decide +kernel) (ga_cons (ge_var (pv 0)) (ga_cons (ge_ty .bl (T.free 4) rfl (by decide +kernel)) ga_nil))))))))
theorem fg_is_whole (T : Hv fa fn csX ysX cvX gtX dfX tfX xsX K mg) : FnG P w (gK K) mg base 1 "is_whole" s_is_whole ["value"] [] f_is_whole := fg_of (T.glo 5) (fd_is_whole T) sc_is_whole (fb_is_whole T)
theorem sc_is_number : FnScope ["value", "least", "most"] ["value", "least", "most"] (defScope s_is_number) := ⟨rfl, rfl, rfl, by decide +kernel, rfl, by decide +kernel, by decide +kernel⟩
def b_is_number : DS :=
  (sRet (eAnd (eCall f_is_whole (aCons (eVar 0) aNil)) (eChain vLe vLe (eVar 1) (eVar 0) (eVar 2))))
def f_is_number : Fn := runF .fz 3 3 b_is_number
theorem ar_is_number : Ar f_is_number 3 := ar_run
theorem fd_is_number (T : Hv fa fn csX ysX cvX gtX dfX tfX xsX K mg) : ∃ fd, FunD (gK K).K "is_number" "is_number" (defArgs s_is_number) (defBody s_is_number) (defScope s_is_number) [] [] (He.ga K "is_number") fd := T.def_ 3
theorem fb_is_number (T : Hv fa fn csX ysX cvX gtX dfX tfX xsX K mg) (cdv : Value) (A : Around) (outer : List Env) (s : Shared) (H : Hp) (E : XK) (hr : Room 1 (A.deeper (envOfC "is_number" (defScope s_is_number) s.heap.objs.size (He.ga K "is_number") cdv))) : GSs (gK K) (WF E) (cxOf (L2.CX P w) P w (gK K).K mg base ["value", "least", "most"] "is_number" (defScope s_is_number) (He.ga K "is_number") cdv A outer s H E) (defBody s_is_number) b_is_number := by
  have nd := sc_is_number.nd
  have tk := tk_of (P := P) (w := w) (K := (gK K).K) (mg := mg) (base := base) (N := ["value", "least", "most"]) (qual := "is_number") (scope := defScope s_is_number) (f := He.ga K "is_number") (cdv := cdv) (A := A) (outer := outer) (s := s) (H := H) (E := E)
  have hu := hu64 hr
  have hu5 := hu65 hr
  exact (gss_one (gs_ret (ge_and (ge_call (fg_is_whole T) rfl ar_is_whole (hr.mono (by decide)) rfl tk (ga_cons (ge_var (pv 0)) ga_nil) rfl (fun _ _ _ _ _ _ us hl => match us, hl with | [_], _ => rfl)) (ge_one (ge_chain opLe opLe (ge_var (pv 1)) (ge_var (pv 0)) (ge_var (pv 2)))))))
theorem fg_is_number (T : Hv fa fn csX ysX cvX gtX dfX tfX xsX K mg) : FnG P w (gK K) mg base 2 "is_number" s_is_number ["value", "least", "most"] [] f_is_number := fg_of (T.glo 6) (fd_is_number T) sc_is_number (fb_is_number T)
theorem sc_is_pair : FnScope ["value", "most"] ["value", "most"] (defScope s_is_pair) := ⟨rfl, rfl, rfl, by decide +kernel, rfl, by decide +kernel, by decide +kernel⟩
def b_is_pair : DS :=
  (sSeq (sIf (tOr' (tNot' (tB' (eFn vIsi (aCons (eVar 0) (aCons (eC (.ty .tup)) aNil))))) (tB' (eBin vNe (eFn vLen (aCons (eVar 0) aNil)) (eC (.int 2))))) (sRet (eC (.bl false))) sNop)
    (sRet (eAnd (eCall f_is_number (aCons (eBin vIx (eVar 0) (eC (.int 0))) (aCons (eUn vNeg (eVar 1)) (aCons (eVar 1) aNil)))) (eCall f_is_number (aCons (eBin vIx (eVar 0) (eC (.int 1))) (aCons (eUn vNeg (eVar 1)) (aCons (eVar 1) aNil)))))))
def f_is_pair : Fn := runF .fz 2 2 b_is_pair
theorem ar_is_pair : Ar f_is_pair 2 := ar_run
theorem fd_is_pair (T : Hv fa fn csX ysX cvX gtX dfX tfX xsX K mg) : ∃ fd, FunD (gK K).K "is_pair" "is_pair" (defArgs s_is_pair) (defBody s_is_pair) (defScope s_is_pair) [] [] (He.ga K "is_pair") fd := T.def_ 4
theorem fb_is_pair (T : Hv fa fn csX ysX cvX gtX dfX tfX xsX K mg) (cdv : Value) (A : Around) (outer : List Env) (s : Shared) (H : Hp) (E : XK) (hr : Room 2 (A.deeper (envOfC "is_pair" (defScope s_is_pair) s.heap.objs.size (He.ga K "is_pair") cdv))) : GSs (gK K) (WF E) (cxOf (L2.CX P w) P w (gK K).K mg base ["value", "most"] "is_pair" (defScope s_is_pair) (He.ga K "is_pair") cdv A outer s H E) (defBody s_is_pair) b_is_pair := by
  have nd := sc_is_pair.nd
  have tk := tk_of (P := P) (w := w) (K := (gK K).K) (mg := mg) (base := base) (N := ["value", "most"]) (qual := "is_pair") (scope := defScope s_is_pair) (f := He.ga K "is_pair") (cdv := cdv) (A := A) (outer := outer) (s := s) (H := H) (E := E)
  have hu := hu64 hr
  have hu5 := hu65 hr
  exact (gss_cons (gs_if (PW.pt (gw_or (gt_not (gt_val (ge_callB (cIsi ⟨rfl⟩) rfl (T.free 3) (by decide +kernel) (ga_cons (ge_var (pv 0)) (ga_cons (ge_ty .tup (T.free 7) rfl (by decide +kernel)) ga_nil))))) (gw_or1 (gt_cmp (opNe ⟨rfl⟩ hu) (ge_callB (cLen ⟨rfl⟩) rfl (T.free 8) (by decide +kernel) (ga_cons (ge_var (pv 0)) ga_nil)) (ge_c pe_int) (nomark _))))) (gss_one (gs_ret (ge_c pe_bl))) gss_nil)
    (gss_one (gs_ret (ge_and (ge_call (fg_is_number T) rfl ar_is_number (hr.mono (by decide)) rfl tk (ga_cons (ge_ix (ixAny ⟨rfl⟩) (ge_var (pv 0)) (ge_c pe_int)) (ga_cons (ge_un unNeg (ge_var (pv 1))) (ga_cons (ge_var (pv 1)) ga_nil))) rfl (fun _ _ _ _ _ _ us hl => match us, hl with | [_, _, _], _ => rfl)) (ge_one (ge_call (fg_is_number T) rfl ar_is_number (hr.mono (by decide)) rfl tk (ga_cons (ge_ix (ixAny ⟨rfl⟩) (ge_var (pv 0)) (ge_c pe_int)) (ga_cons (ge_un unNeg (ge_var (pv 1))) (ga_cons (ge_var (pv 1)) ga_nil))) rfl (fun _ _ _ _ _ _ us hl => match us, hl with | [_, _, _], _ => rfl)))))))
theorem fg_is_pair (T : Hv fa fn csX ysX cvX gtX dfX tfX xsX K mg) : FnG P w (gK K) mg base 3 "is_pair" s_is_pair ["value", "most"] [] f_is_pair := fg_of (T.glo 9) (fd_is_pair T) sc_is_pair (fb_is_pair T)
theorem sc_divisor : FnScope ["one", "other"] ["one", "other"] (defScope s_divisor) := ⟨rfl, rfl, rfl, by decide +kernel, rfl, by decide +kernel, by decide +kernel⟩
def b_divisor : DS :=
  (sSeq (sPar 0 1 (aCons (eFn vAbs (aCons (eVar 0) aNil)) (aCons (eFn vAbs (aCons (eVar 1) aNil)) aNil)))
    (sSeq (sWhile (fun _ _ => 4096) (tB' (eBin vNe (eVar 1) (eC (.int 0)))) (sPar 0 1 (aCons (eVar 1) (aCons (eBin vMod (eVar 0) (eVar 1)) aNil))))
    (sRet (eVar 0))))
def f_divisor : Fn := runF .fz 2 2 b_divisor
theorem ar_divisor : Ar f_divisor 2 := ar_run
theorem fd_divisor (T : Hv fa fn csX ysX cvX gtX dfX tfX xsX K mg) : ∃ fd, FunD (gK K).K "divisor" "divisor" (defArgs s_divisor) (defBody s_divisor) (defScope s_divisor) [] [] (He.ga K "divisor") fd := T.def_ 5
theorem fb_divisor (T : Hv fa fn csX ysX cvX gtX dfX tfX xsX K mg) (cdv : Value) (A : Around) (outer : List Env) (s : Shared) (H : Hp) (E : XK) (hr : Room 0 (A.deeper (envOfC "divisor" (defScope s_divisor) s.heap.objs.size (He.ga K "divisor") cdv))) : GSs (gK K) (WF E) (cxOf (L2.CX P w) P w (gK K).K mg base ["one", "other"] "divisor" (defScope s_divisor) (He.ga K "divisor") cdv A outer s H E) (defBody s_divisor) b_divisor := by
  have nd := sc_divisor.nd
  have tk := tk_of (P := P) (w := w) (K := (gK K).K) (mg := mg) (base := base) (N := ["one", "other"]) (qual := "divisor") (scope := defScope s_divisor) (f := He.ga K "divisor") (cdv := cdv) (A := A) (outer := outer) (s := s) (H := H) (E := E)
  have hu := hu64 hr
  have hu5 := hu65 hr
  exact (gss_cons (gs_par (i := 0) (j := 1) rfl nd rfl rfl (by decide) rfl rfl (ga_cons (ge_callB cAbs rfl (T.free 10) (by decide +kernel) (ga_cons (ge_var (pv 0)) ga_nil)) (ga_cons (ge_callB cAbs rfl (T.free 10) (by decide +kernel) (ga_cons (ge_var (pv 1)) ga_nil)) ga_nil)))
    (gss_cons (gs_while po_of (gt_cmp (opNe ⟨rfl⟩ hu) (ge_var (pv 1)) (ge_c pe_int) (nomark _)) (gss_one (gs_par (i := 0) (j := 1) rfl nd rfl rfl (by decide) rfl rfl (ga_cons (ge_var (pv 1)) (ga_cons (ge_bin opMod (ge_var (pv 0)) (ge_var (pv 1))) ga_nil)))))
    (gss_one (gs_ret (ge_var (pv 0))))))
theorem fg_divisor (T : Hv fa fn csX ysX cvX gtX dfX tfX xsX K mg) : FnG P w (gK K) mg base 1 "divisor" s_divisor ["one", "other"] [] f_divisor := fg_of (T.glo 11) (fd_divisor T) sc_divisor (fb_divisor T)
theorem sc_is_direction : FnScope ["value"] ["value"] (defScope s_is_direction) := ⟨rfl, rfl, rfl, by decide +kernel, rfl, by decide +kernel, by decide +kernel⟩
def b_is_direction : DS :=
  (sRet (eAnd (eCall f_is_pair (aCons (eVar 0) (aCons (eC (.int 999)) aNil))) (eBin vEq (eCall f_divisor (aCons (eBin vIx (eVar 0) (eC (.int 0))) (aCons (eBin vIx (eVar 0) (eC (.int 1))) aNil))) (eC (.int 1)))))
def f_is_direction : Fn := runF .fz 1 1 b_is_direction
theorem ar_is_direction : Ar f_is_direction 1 := ar_run
theorem fd_is_direction (T : Hv fa fn csX ysX cvX gtX dfX tfX xsX K mg) : ∃ fd, FunD (gK K).K "is_direction" "is_direction" (defArgs s_is_direction) (defBody s_is_direction) (defScope s_is_direction) [] [] (He.ga K "is_direction") fd := T.def_ 6
theorem fb_is_direction (T : Hv fa fn csX ysX cvX gtX dfX tfX xsX K mg) (cdv : Value) (A : Around) (outer : List Env) (s : Shared) (H : Hp) (E : XK) (hr : Room 3 (A.deeper (envOfC "is_direction" (defScope s_is_direction) s.heap.objs.size (He.ga K "is_direction") cdv))) : GSs (gK K) (WF E) (cxOf (L2.CX P w) P w (gK K).K mg base ["value"] "is_direction" (defScope s_is_direction) (He.ga K "is_direction") cdv A outer s H E) (defBody s_is_direction) b_is_direction := by
  have nd := sc_is_direction.nd
  have tk := tk_of (P := P) (w := w) (K := (gK K).K) (mg := mg) (base := base) (N := ["value"]) (qual := "is_direction") (scope := defScope s_is_direction) (f := He.ga K "is_direction") (cdv := cdv) (A := A) (outer := outer) (s := s) (H := H) (E := E)
  have hu := hu64 hr
  have hu5 := hu65 hr
  exact (gss_one (gs_ret (ge_and (ge_call (fg_is_pair T) rfl ar_is_pair (hr.mono (by decide)) rfl tk (ga_cons (ge_var (pv 0)) (ga_cons (ge_gint (T.int 12) rfl) ga_nil)) rfl (fun _ _ _ _ _ _ us hl => match us, hl with | [_, _], _ => rfl)) (ge_one (ge_cmp (opEq ⟨rfl⟩ hu) (ge_call (fg_divisor T) rfl ar_divisor (hr.mono (by decide)) rfl tk (ga_cons (ge_ix (ixAny ⟨rfl⟩) (ge_var (pv 0)) (ge_c pe_int)) (ga_cons (ge_ix (ixAny ⟨rfl⟩) (ge_var (pv 0)) (ge_c pe_int)) ga_nil)) rfl (fun _ _ _ _ _ _ us hl => match us, hl with | [_, _], _ => rfl)) (ge_c pe_int) (nomark _))))))
theorem fg_is_direction (T : Hv fa fn csX ysX cvX gtX dfX tfX xsX K mg) : FnG P w (gK K) mg base 4 "is_direction" s_is_direction ["value"] [] f_is_direction := fg_of (T.glo 13) (fd_is_direction T) sc_is_direction (fb_is_direction T)
theorem sc_cross : FnScope ["one", "other"] ["one", "other"] (defScope s_cross) := ⟨rfl, rfl, rfl, by decide +kernel, rfl, by decide +kernel, by decide +kernel⟩
def b_cross : DS :=
  (sRet (eBin vSub (eBin vMul (eBin vIx (eVar 0) (eC (.int 0))) (eBin vIx (eVar 1) (eC (.int 1)))) (eBin vMul (eBin vIx (eVar 0) (eC (.int 1))) (eBin vIx (eVar 1) (eC (.int 0))))))
def f_cross : Fn := runF .fz 2 2 b_cross
theorem ar_cross : Ar f_cross 2 := ar_run
theorem fd_cross (T : Hv fa fn csX ysX cvX gtX dfX tfX xsX K mg) : ∃ fd, FunD (gK K).K "cross" "cross" (defArgs s_cross) (defBody s_cross) (defScope s_cross) [] [] (He.ga K "cross") fd := T.def_ 7
theorem fb_cross (T : Hv fa fn csX ysX cvX gtX dfX tfX xsX K mg) (cdv : Value) (A : Around) (outer : List Env) (s : Shared) (H : Hp) (E : XK) (hr : Room 0 (A.deeper (envOfC "cross" (defScope s_cross) s.heap.objs.size (He.ga K "cross") cdv))) : GSs (gK K) (WF E) (cxOf (L2.CX P w) P w (gK K).K mg base ["one", "other"] "cross" (defScope s_cross) (He.ga K "cross") cdv A outer s H E) (defBody s_cross) b_cross := by
  have nd := sc_cross.nd
  have tk := tk_of (P := P) (w := w) (K := (gK K).K) (mg := mg) (base := base) (N := ["one", "other"]) (qual := "cross") (scope := defScope s_cross) (f := He.ga K "cross") (cdv := cdv) (A := A) (outer := outer) (s := s) (H := H) (E := E)
  have hu := hu64 hr
  have hu5 := hu65 hr
  exact (gss_one (gs_ret (ge_bin opSub (ge_bin opMul (ge_ix (ixAny ⟨rfl⟩) (ge_var (pv 0)) (ge_c pe_int)) (ge_ix (ixAny ⟨rfl⟩) (ge_var (pv 1)) (ge_c pe_int))) (ge_bin opMul (ge_ix (ixAny ⟨rfl⟩) (ge_var (pv 0)) (ge_c pe_int)) (ge_ix (ixAny ⟨rfl⟩) (ge_var (pv 1)) (ge_c pe_int))))))
theorem fg_cross (T : Hv fa fn csX ysX cvX gtX dfX tfX xsX K mg) : FnG P w (gK K) mg base 1 "cross" s_cross ["one", "other"] [] f_cross := fg_of (T.glo 14) (fd_cross T) sc_cross (fb_cross T)
theorem sc_turned_half : FnScope ["direction"] ["direction"] (defScope s_turned_half) := ⟨rfl, rfl, rfl, by decide +kernel, rfl, by decide +kernel, by decide +kernel⟩
def b_turned_half : DS :=
  (sRet (eTup (aCons (eUn vNeg (eBin vIx (eVar 0) (eC (.int 0)))) (aCons (eUn vNeg (eBin vIx (eVar 0) (eC (.int 1)))) aNil))))
def f_turned_half : Fn := runF .fz 1 1 b_turned_half
theorem ar_turned_half : Ar f_turned_half 1 := ar_run
theorem fd_turned_half (T : Hv fa fn csX ysX cvX gtX dfX tfX xsX K mg) : ∃ fd, FunD (gK K).K "turned_half" "turned_half" (defArgs s_turned_half) (defBody s_turned_half) (defScope s_turned_half) [] [] (He.ga K "turned_half") fd := T.def_ 8
theorem fb_turned_half (T : Hv fa fn csX ysX cvX gtX dfX tfX xsX K mg) (cdv : Value) (A : Around) (outer : List Env) (s : Shared) (H : Hp) (E : XK) (hr : Room 0 (A.deeper (envOfC "turned_half" (defScope s_turned_half) s.heap.objs.size (He.ga K "turned_half") cdv))) : GSs (gK K) (WF E) (cxOf (L2.CX P w) P w (gK K).K mg base ["direction"] "turned_half" (defScope s_turned_half) (He.ga K "turned_half") cdv A outer s H E) (defBody s_turned_half) b_turned_half := by
  have nd := sc_turned_half.nd
  have tk := tk_of (P := P) (w := w) (K := (gK K).K) (mg := mg) (base := base) (N := ["direction"]) (qual := "turned_half") (scope := defScope s_turned_half) (f := He.ga K "turned_half") (cdv := cdv) (A := A) (outer := outer) (s := s) (H := H) (E := E)
  have hu := hu64 hr
  have hu5 := hu65 hr
  exact (gss_one (gs_ret (ge_tup (ga_cons (ge_un unNeg (ge_ix (ixAny ⟨rfl⟩) (ge_var (pv 0)) (ge_c pe_int))) (ga_cons (ge_un unNeg (ge_ix (ixAny ⟨rfl⟩) (ge_var (pv 0)) (ge_c pe_int))) ga_nil)))))
theorem fg_turned_half (T : Hv fa fn csX ysX cvX gtX dfX tfX xsX K mg) : FnG P w (gK K) mg base 1 "turned_half" s_turned_half ["direction"] [] f_turned_half := fg_of (T.glo 15) (fd_turned_half T) sc_turned_half (fb_turned_half T)
theorem sc_lies_between : FnScope ["direction", "start", "stop", "width"] ["direction", "start", "stop"] (defScope s_lies_between) := ⟨rfl, rfl, rfl, by decide +kernel, rfl, by decide +kernel, by decide +kernel⟩
def b_lies_between : DS :=
  (sSeq (sAsg (eCall f_cross (aCons (eVar 1) (aCons (eVar 2) aNil))) (gN 3))
    (sSeq (sIf (tB' (eBin vGt (eVar 3) (eC (.int 0)))) (sRet (eAnd (eBin vGt (eCall f_cross (aCons (eVar 1) (aCons (eVar 0) aNil))) (eC (.int 0))) (eBin vGt (eCall f_cross (aCons (eVar 0) (aCons (eVar 2) aNil))) (eC (.int 0))))) sNop)
    (sSeq (sIf (tB' (eBin vLt (eVar 3) (eC (.int 0)))) (sRet (eOr (eBin vLt (eCall f_cross (aCons (eVar 2) (aCons (eVar 0) aNil))) (eC (.int 0))) (eBin vLt (eCall f_cross (aCons (eVar 0) (aCons (eVar 1) aNil))) (eC (.int 0))))) sNop)
    (sRet (eBin vGt (eCall f_cross (aCons (eVar 1) (aCons (eVar 0) aNil))) (eC (.int 0)))))))
def f_lies_between : Fn := runF .fz 3 4 b_lies_between
theorem ar_lies_between : Ar f_lies_between 3 := ar_run
theorem fd_lies_between (T : Hv fa fn csX ysX cvX gtX dfX tfX xsX K mg) : ∃ fd, FunD (gK K).K "lies_between" "lies_between" (defArgs s_lies_between) (defBody s_lies_between) (defScope s_lies_between) [] [] (He.ga K "lies_between") fd := T.def_ 9
theorem fb_lies_between (T : Hv fa fn csX ysX cvX gtX dfX tfX xsX K mg) (cdv : Value) (A : Around) (outer : List Env) (s : Shared) (H : Hp) (E : XK) (hr : Room 1 (A.deeper (envOfC "lies_between" (defScope s_lies_between) s.heap.objs.size (He.ga K "lies_between") cdv))) : GSs (gK K) (WF E) (cxOf (L2.CX P w) P w (gK K).K mg base ["direction", "start", "stop", "width"] "lies_between" (defScope s_lies_between) (He.ga K "lies_between") cdv A outer s H E) (defBody s_lies_between) b_lies_between := by
  have nd := sc_lies_between.nd
  have tk := tk_of (P := P) (w := w) (K := (gK K).K) (mg := mg) (base := base) (N := ["direction", "start", "stop", "width"]) (qual := "lies_between") (scope := defScope s_lies_between) (f := He.ga K "lies_between") (cdv := cdv) (A := A) (outer := outer) (s := s) (H := H) (E := E)
  have hu := hu64 hr
  have hu5 := hu65 hr
  exact (gss_cons (gs_asg (ge_call (fg_cross T) rfl ar_cross (hr.mono (by decide)) rfl tk (ga_cons (ge_var (pv 1)) (ga_cons (ge_var (pv 2)) ga_nil)) rfl (fun _ _ _ _ _ _ us hl => match us, hl with | [_, _], _ => rfl)) (gg_name (pg_name (i := 3) nd rfl (Or.inl rfl))))
    (gss_cons (gs_if (gt_cmp opGt (ge_var (pv 3)) (ge_c pe_int) (nomark _)) (gss_one (gs_ret (ge_and (ge_cmp opGt (ge_call (fg_cross T) rfl ar_cross (hr.mono (by decide)) rfl tk (ga_cons (ge_var (pv 1)) (ga_cons (ge_var (pv 0)) ga_nil)) rfl (fun _ _ _ _ _ _ us hl => match us, hl with | [_, _], _ => rfl)) (ge_c pe_int) (nomark _)) (ge_one (ge_cmp opGt (ge_call (fg_cross T) rfl ar_cross (hr.mono (by decide)) rfl tk (ga_cons (ge_var (pv 0)) (ga_cons (ge_var (pv 2)) ga_nil)) rfl (fun _ _ _ _ _ _ us hl => match us, hl with | [_, _], _ => rfl)) (ge_c pe_int) (nomark _)))))) gss_nil)
    (gss_cons (gs_if (gt_cmp opLt (ge_var (pv 3)) (ge_c pe_int) (nomark _)) (gss_one (gs_ret (ge_or (ge_cmp opLt (ge_call (fg_cross T) rfl ar_cross (hr.mono (by decide)) rfl tk (ga_cons (ge_var (pv 2)) (ga_cons (ge_var (pv 0)) ga_nil)) rfl (fun _ _ _ _ _ _ us hl => match us, hl with | [_, _], _ => rfl)) (ge_c pe_int) (nomark _)) (ge_one (ge_cmp opLt (ge_call (fg_cross T) rfl ar_cross (hr.mono (by decide)) rfl tk (ga_cons (ge_var (pv 0)) (ga_cons (ge_var (pv 1)) ga_nil)) rfl (fun _ _ _ _ _ _ us hl => match us, hl with | [_, _], _ => rfl)) (ge_c pe_int) (nomark _)))))) gss_nil)
    (gss_one (gs_ret (ge_cmp opGt (ge_call (fg_cross T) rfl ar_cross (hr.mono (by decide)) rfl tk (ga_cons (ge_var (pv 1)) (ga_cons (ge_var (pv 0)) ga_nil)) rfl (fun _ _ _ _ _ _ us hl => match us, hl with | [_, _], _ => rfl)) (ge_c pe_int) (nomark _)))))))
theorem fg_lies_between (T : Hv fa fn csX ysX cvX gtX dfX tfX xsX K mg) : FnG P w (gK K) mg base 2 "lies_between" s_lies_between ["direction", "start", "stop"] [] f_lies_between := fg_of (T.glo 16) (fd_lies_between T) sc_lies_between (fb_lies_between T)
theorem sc_Arc_is_whole : FnScope ["self"] ["self"] (defScope s_Arc_is_whole) := ⟨rfl, rfl, rfl, by decide +kernel, rfl, by decide +kernel, by decide +kernel⟩
def b_Arc_is_whole : DS :=
  (sRet (eBin vIs (eUn (vFl [2, 3] "own_start") (eVar 0)) (eC .non)))
def f_Arc_is_whole : Fn := runF .fz 1 1 b_Arc_is_whole
theorem ar_Arc_is_whole : Ar f_Arc_is_whole 1 := ar_run
theorem gv_Arc_is_whole (T : Hv fa fn csX ysX cvX gtX dfX tfX xsX K mg) : PropOf K (He.ga K "Arc") "is_whole" (He.ma K (He.ga K "Arc") "is_whole") (gtA K "Arc" "is_whole") ∧ ∃ fd, FunD K "is_whole" "Arc.is_whole" (defArgs s_Arc_is_whole) (defBody s_Arc_is_whole) (defScope s_Arc_is_whole) [] [] (gtA K "Arc" "is_whole") fd := T.get (d := gt_Arc_is_whole) 0
theorem fd_Arc_is_whole (T : Hv fa fn csX ysX cvX gtX dfX tfX xsX K mg) : ∃ fd, FunD (gK K).K "is_whole" "Arc.is_whole" (defArgs s_Arc_is_whole) (defBody s_Arc_is_whole) (defScope s_Arc_is_whole) ([] : List V) [] (gtA K "Arc" "is_whole") fd := (gv_Arc_is_whole T).2
theorem gv_Arc_is_whole_WholeArc (T : Hv fa fn csX ysX cvX gtX dfX tfX xsX K mg) : PropOf K (He.ga K "WholeArc") "is_whole" (He.ma K (He.ga K "WholeArc") "is_whole") (gtA K "WholeArc" "is_whole") ∧ ∃ fd, FunD K "is_whole" "Arc.is_whole" (defArgs s_Arc_is_whole) (defBody s_Arc_is_whole) (defScope s_Arc_is_whole) [] [] (gtA K "WholeArc" "is_whole") fd := T.get (d := gt_Arc_is_whole_WholeArc) 1
theorem fd_Arc_is_whole_WholeArc (T : Hv fa fn csX ysX cvX gtX dfX tfX xsX K mg) : ∃ fd, FunD (gK K).K "is_whole" "Arc.is_whole" (defArgs s_Arc_is_whole) (defBody s_Arc_is_whole) (defScope s_Arc_is_whole) ([] : List V) [] (gtA K "WholeArc" "is_whole") fd := (gv_Arc_is_whole_WholeArc T).2
theorem fb_Arc_is_whole (T : Hv fa fn csX ysX cvX gtX dfX tfX xsX K mg) (fA : Addr) (cdv : Value) (A : Around) (outer : List Env) (s : Shared) (H : Hp) (E : XK) (hr : Room 0 (A.deeper (envOfC "Arc.is_whole" (defScope s_Arc_is_whole) s.heap.objs.size fA cdv))) : GSs (gK K) (WF E) (cxOf (L2.CX P w) P w (gK K).K mg base ["self"] "Arc.is_whole" (defScope s_Arc_is_whole) fA cdv A outer s H E) (defBody s_Arc_is_whole) b_Arc_is_whole := by
  have nd := sc_Arc_is_whole.nd
  have tk := tk_of (P := P) (w := w) (K := (gK K).K) (mg := mg) (base := base) (N := ["self"]) (qual := "Arc.is_whole") (scope := defScope s_Arc_is_whole) (f := fA) (cdv := cdv) (A := A) (outer := outer) (s := s) (H := H) (E := E)
  have hu := hu64 hr
  have hu5 := hu65 hr
  exact (gss_one (gs_ret (ge_cmp opIs (ge_fl ⟨rfl⟩ (flOk2 ((ow_Arc T).fl rfl rfl rfl) ((ow_WholeArc T).fl rfl rfl rfl)) (ge_var (pv 0))) (ge_c pe_non) (nomark _))))
theorem pr_Arc_is_whole (T : Hv fa fn csX ysX cvX gtX dfX tfX xsX K mg) : PrG P w (gK K) mg base 1 2 "is_whole" f_Arc_is_whole := pr_of (ow_Arc T).c (gv_Arc_is_whole T).1 (fd_Arc_is_whole T) sc_Arc_is_whole (fun _ _ _ _ _ _ us hl => match us, hl with | [_], _ => rfl) (fb_Arc_is_whole T _)
theorem pr_Arc_is_whole_WholeArc (T : Hv fa fn csX ysX cvX gtX dfX tfX xsX K mg) : PrG P w (gK K) mg base 1 3 "is_whole" f_Arc_is_whole := pr_of (ow_WholeArc T).c (gv_Arc_is_whole_WholeArc T).1 (fd_Arc_is_whole_WholeArc T) sc_Arc_is_whole (fun _ _ _ _ _ _ us hl => match us, hl with | [_], _ => rfl) (fb_Arc_is_whole T _)
theorem sc_Arc_start : FnScope ["self"] ["self"] (defScope s_Arc_start) := ⟨rfl, rfl, rfl, by decide +kernel, rfl, by decide +kernel, by decide +kernel⟩
def b_Arc_start : DS :=
  (sRet (eUn (vFl [2, 3] "own_start") (eVar 0)))
def f_Arc_start : Fn := runF .fz 1 1 b_Arc_start
theorem ar_Arc_start : Ar f_Arc_start 1 := ar_run
theorem gv_Arc_start (T : Hv fa fn csX ysX cvX gtX dfX tfX xsX K mg) : PropOf K (He.ga K "Arc") "start" (He.ma K (He.ga K "Arc") "start") (gtA K "Arc" "start") ∧ ∃ fd, FunD K "start" "Arc.start" (defArgs s_Arc_start) (defBody s_Arc_start) (defScope s_Arc_start) [] [] (gtA K "Arc" "start") fd := T.get (d := gt_Arc_start) 2
theorem fd_Arc_start (T : Hv fa fn csX ysX cvX gtX dfX tfX xsX K mg) : ∃ fd, FunD (gK K).K "start" "Arc.start" (defArgs s_Arc_start) (defBody s_Arc_start) (defScope s_Arc_start) ([] : List V) [] (gtA K "Arc" "start") fd := (gv_Arc_start T).2
theorem gv_Arc_start_WholeArc (T : Hv fa fn csX ysX cvX gtX dfX tfX xsX K mg) : PropOf K (He.ga K "WholeArc") "start" (He.ma K (He.ga K "WholeArc") "start") (gtA K "WholeArc" "start") ∧ ∃ fd, FunD K "start" "Arc.start" (defArgs s_Arc_start) (defBody s_Arc_start) (defScope s_Arc_start) [] [] (gtA K "WholeArc" "start") fd := T.get (d := gt_Arc_start_WholeArc) 3
theorem fd_Arc_start_WholeArc (T : Hv fa fn csX ysX cvX gtX dfX tfX xsX K mg) : ∃ fd, FunD (gK K).K "start" "Arc.start" (defArgs s_Arc_start) (defBody s_Arc_start) (defScope s_Arc_start) ([] : List V) [] (gtA K "WholeArc" "start") fd := (gv_Arc_start_WholeArc T).2
theorem fb_Arc_start (T : Hv fa fn csX ysX cvX gtX dfX tfX xsX K mg) (fA : Addr) (cdv : Value) (A : Around) (outer : List Env) (s : Shared) (H : Hp) (E : XK) (hr : Room 0 (A.deeper (envOfC "Arc.start" (defScope s_Arc_start) s.heap.objs.size fA cdv))) : GSs (gK K) (WF E) (cxOf (L2.CX P w) P w (gK K).K mg base ["self"] "Arc.start" (defScope s_Arc_start) fA cdv A outer s H E) (defBody s_Arc_start) b_Arc_start := by
  have nd := sc_Arc_start.nd
  have tk := tk_of (P := P) (w := w) (K := (gK K).K) (mg := mg) (base := base) (N := ["self"]) (qual := "Arc.start") (scope := defScope s_Arc_start) (f := fA) (cdv := cdv) (A := A) (outer := outer) (s := s) (H := H) (E := E)
  have hu := hu64 hr
  have hu5 := hu65 hr
  exact (gss_one (gs_ret (ge_fl ⟨rfl⟩ (flOk2 ((ow_Arc T).fl rfl rfl rfl) ((ow_WholeArc T).fl rfl rfl rfl)) (ge_var (pv 0)))))
theorem pr_Arc_start (T : Hv fa fn csX ysX cvX gtX dfX tfX xsX K mg) : PrG P w (gK K) mg base 1 2 "start" f_Arc_start := pr_of (ow_Arc T).c (gv_Arc_start T).1 (fd_Arc_start T) sc_Arc_start (fun _ _ _ _ _ _ us hl => match us, hl with | [_], _ => rfl) (fb_Arc_start T _)
theorem pr_Arc_start_WholeArc (T : Hv fa fn csX ysX cvX gtX dfX tfX xsX K mg) : PrG P w (gK K) mg base 1 3 "start" f_Arc_start := pr_of (ow_WholeArc T).c (gv_Arc_start_WholeArc T).1 (fd_Arc_start_WholeArc T) sc_Arc_start (fun _ _ _ _ _ _ us hl => match us, hl with | [_], _ => rfl) (fb_Arc_start T _)
theorem sc_Arc___contains__ : FnScope ["self", "direction"] ["self", "direction"] (defScope s_Arc___contains__) := ⟨rfl, rfl, rfl, by decide +kernel, rfl, by decide +kernel, by decide +kernel⟩
def b_Arc___contains__ : DS :=
  (sSeq (sIf (tNot' (tB' (eCall f_is_direction (aCons (eVar 1) aNil)))) (sRet (eC (.bl false))) sNop)
    (sSeq (sIf (tB' (eBin vIs (eUn (vFl [2, 3] "own_start") (eVar 0)) (eC .non))) (sRet (eC (.bl true))) sNop)
    (sSeq (sIf (tB' (eBin vEq (eUn (vFl [2, 3] "own_start") (eVar 0)) (eUn (vFl [2, 3] "own_stop") (eVar 0)))) (sRet (eBin vNe (eVar 1) (eUn (vFl [2, 3] "own_start") (eVar 0)))) sNop)
    (sRet (eCall f_lies_between (aCons (eVar 1) (aCons (eUn (vFl [2, 3] "own_start") (eVar 0)) (aCons (eUn (vFl [2, 3] "own_stop") (eVar 0)) aNil))))))))
def f_Arc___contains__ : Fn := runF .fz 2 2 b_Arc___contains__
theorem fd_Arc___contains__ (T : Hv fa fn csX ysX cvX gtX dfX tfX xsX K mg) : ∃ fd, FunD (gK K).K "__contains__" "Arc.__contains__" (defArgs s_Arc___contains__) (defBody s_Arc___contains__) (defScope s_Arc___contains__) ([] : List V) [] (He.ma K (He.ga K "Arc") "__contains__") fd := T.def_ 10
theorem fd_Arc___contains___WholeArc (T : Hv fa fn csX ysX cvX gtX dfX tfX xsX K mg) : ∃ fd, FunD (gK K).K "__contains__" "Arc.__contains__" (defArgs s_Arc___contains__) (defBody s_Arc___contains__) (defScope s_Arc___contains__) ([] : List V) [] (He.ma K (He.ga K "WholeArc") "__contains__") fd := T.def_ 11
theorem fb_Arc___contains__ (T : Hv fa fn csX ysX cvX gtX dfX tfX xsX K mg) (fA : Addr) (cdv : Value) (A : Around) (outer : List Env) (s : Shared) (H : Hp) (E : XK) (hr : Room 4 (A.deeper (envOfC "Arc.__contains__" (defScope s_Arc___contains__) s.heap.objs.size fA cdv))) : GSs (gK K) (WF E) (cxOf (L2.CX P w) P w (gK K).K mg base ["self", "direction"] "Arc.__contains__" (defScope s_Arc___contains__) fA cdv A outer s H E) (defBody s_Arc___contains__) b_Arc___contains__ := by
  have nd := sc_Arc___contains__.nd
  have tk := tk_of (P := P) (w := w) (K := (gK K).K) (mg := mg) (base := base) (N := ["self", "direction"]) (qual := "Arc.__contains__") (scope := defScope s_Arc___contains__) (f := fA) (cdv := cdv) (A := A) (outer := outer) (s := s) (H := H) (E := E)
  have hu := hu64 hr
  have hu5 := hu65 hr
  exact (gss_cons (gs_if (gt_not (gt_val (ge_call (fg_is_direction T) rfl ar_is_direction (hr.mono (by decide)) rfl tk (ga_cons (ge_var (pv 1)) ga_nil) rfl (fun _ _ _ _ _ _ us hl => match us, hl with | [_], _ => rfl)))) (gss_one (gs_ret (ge_c pe_bl))) gss_nil)
    (gss_cons (gs_if (gt_cmp opIs (ge_fl ⟨rfl⟩ (flOk2 ((ow_Arc T).fl rfl rfl rfl) ((ow_WholeArc T).fl rfl rfl rfl)) (ge_var (pv 0))) (ge_c pe_non) (nomark _)) (gss_one (gs_ret (ge_c pe_bl))) gss_nil)
    (gss_cons (gs_if (gt_cmp (opEq ⟨rfl⟩ hu) (ge_fl ⟨rfl⟩ (flOk2 ((ow_Arc T).fl rfl rfl rfl) ((ow_WholeArc T).fl rfl rfl rfl)) (ge_var (pv 0))) (ge_fl ⟨rfl⟩ (flOk2 ((ow_Arc T).fl rfl rfl rfl) ((ow_WholeArc T).fl rfl rfl rfl)) (ge_var (pv 0))) (nomark _)) (gss_one (gs_ret (ge_cmp (opNe ⟨rfl⟩ hu) (ge_var (pv 1)) (ge_fl ⟨rfl⟩ (flOk2 ((ow_Arc T).fl rfl rfl rfl) ((ow_WholeArc T).fl rfl rfl rfl)) (ge_var (pv 0))) (nomark _)))) gss_nil)
    (gss_one (gs_ret (ge_call (fg_lies_between T) rfl ar_lies_between (hr.mono (by decide)) rfl tk (ga_cons (ge_var (pv 1)) (ga_cons (ge_fl ⟨rfl⟩ (flOk2 ((ow_Arc T).fl rfl rfl rfl) ((ow_WholeArc T).fl rfl rfl rfl)) (ge_var (pv 0))) (ga_cons (ge_fl ⟨rfl⟩ (flOk2 ((ow_Arc T).fl rfl rfl rfl) ((ow_WholeArc T).fl rfl rfl rfl)) (ge_var (pv 0))) ga_nil))) rfl (fun _ _ _ _ _ _ us hl => match us, hl with | [_, _, _], _ => rfl)))))))
theorem mt_Arc___contains__ (T : Hv fa fn csX ysX cvX gtX dfX tfX xsX K mg) : MtG P w (gK K) mg base 5 2 "__contains__" ["self", "direction"] f_Arc___contains__ := mt_of (ow_Arc T).c ((ow_Arc T).meth rfl) (fd_Arc___contains__ T) sc_Arc___contains__ (fun _ _ _ _ _ _ us hl => match us, hl with | [_, _], _ => rfl) (fb_Arc___contains__ T _)
theorem mt_Arc___contains___WholeArc (T : Hv fa fn csX ysX cvX gtX dfX tfX xsX K mg) : MtG P w (gK K) mg base 5 3 "__contains__" ["self", "direction"] f_Arc___contains__ := mt_of (ow_WholeArc T).c ((ow_WholeArc T).meth rfl) (fd_Arc___contains___WholeArc T) sc_Arc___contains__ (fun _ _ _ _ _ _ us hl => match us, hl with | [_, _], _ => rfl) (fb_Arc___contains__ T _)
theorem sc_arcs_meet : FnScope ["one", "other"] ["one", "other"] (defScope s_arcs_meet) := ⟨rfl, rfl, rfl, by decide +kernel, rfl, by decide +kernel, by decide +kernel⟩
def b_arcs_meet : DS :=
  (sSeq (sIf (tOr' (tB' (ePropL [2, 3] f_Arc_is_whole (eVar 0))) (tB' (ePropL [2, 3] f_Arc_is_whole (eVar 1)))) (sRet (eC (.bl true))) sNop)
    (sRet (eOr (eBin vEq (ePropL [2, 3] f_Arc_start (eVar 0)) (ePropL [2, 3] f_Arc_start (eVar 1))) (eOr (eBinO (inOL [2, 3] f_Arc___contains__) (ePropL [2, 3] f_Arc_start (eVar 0)) (eVar 1)) (eBinO (inOL [2, 3] f_Arc___contains__) (ePropL [2, 3] f_Arc_start (eVar 1)) (eVar 0))))))
def f_arcs_meet : Fn := runF .fz 2 2 b_arcs_meet
theorem ar_arcs_meet : Ar f_arcs_meet 2 := ar_run
theorem fd_arcs_meet (T : Hv fa fn csX ysX cvX gtX dfX tfX xsX K mg) : ∃ fd, FunD (gK K).K "arcs_meet" "arcs_meet" (defArgs s_arcs_meet) (defBody s_arcs_meet) (defScope s_arcs_meet) [] [] (He.ga K "arcs_meet") fd := T.def_ 12
theorem fb_arcs_meet (T : Hv fa fn csX ysX cvX gtX dfX tfX xsX K mg) (cdv : Value) (A : Around) (outer : List Env) (s : Shared) (H : Hp) (E : XK) (hr : Room 5 (A.deeper (envOfC "arcs_meet" (defScope s_arcs_meet) s.heap.objs.size (He.ga K "arcs_meet") cdv))) : GSs (gK K) (WF E) (cxOf (L2.CX P w) P w (gK K).K mg base ["one", "other"] "arcs_meet" (defScope s_arcs_meet) (He.ga K "arcs_meet") cdv A outer s H E) (defBody s_arcs_meet) b_arcs_meet := by
  have nd := sc_arcs_meet.nd
  have tk := tk_of (P := P) (w := w) (K := (gK K).K) (mg := mg) (base := base) (N := ["one", "other"]) (qual := "arcs_meet") (scope := defScope s_arcs_meet) (f := He.ga K "arcs_meet") (cdv := cdv) (A := A) (outer := outer) (s := s) (H := H) (E := E)
  have hu := hu64 hr
  have hu5 := hu65 hr
  exact (gss_cons (gs_if (PW.pt (gw_or (gt_val (ge_prop2 (ge_prop (pr_Arc_is_whole T) ⟨rfl⟩ ar_Arc_is_whole (hr.mono (by decide)) (ge_var (pv 0))) (ge_prop (pr_Arc_is_whole_WholeArc T) ⟨rfl⟩ ar_Arc_is_whole (hr.mono (by decide)) (ge_var (pv 0))))) (gw_or1 (gt_val (ge_prop2 (ge_prop (pr_Arc_is_whole T) ⟨rfl⟩ ar_Arc_is_whole (hr.mono (by decide)) (ge_var (pv 1))) (ge_prop (pr_Arc_is_whole_WholeArc T) ⟨rfl⟩ ar_Arc_is_whole (hr.mono (by decide)) (ge_var (pv 1)))))))) (gss_one (gs_ret (ge_c pe_bl))) gss_nil)
    (gss_one (gs_ret (ge_or (ge_cmp (opEq ⟨rfl⟩ hu) (ge_prop2 (ge_prop (pr_Arc_start T) ⟨rfl⟩ ar_Arc_start (hr.mono (by decide)) (ge_var (pv 0))) (ge_prop (pr_Arc_start_WholeArc T) ⟨rfl⟩ ar_Arc_start (hr.mono (by decide)) (ge_var (pv 0)))) (ge_prop2 (ge_prop (pr_Arc_start T) ⟨rfl⟩ ar_Arc_start (hr.mono (by decide)) (ge_var (pv 1))) (ge_prop (pr_Arc_start_WholeArc T) ⟨rfl⟩ ar_Arc_start (hr.mono (by decide)) (ge_var (pv 1)))) (nomark _)) (ge_or (ge_cmpO (opIn2 (opInO ⟨rfl⟩ (mt_Arc___contains__ T) (hr.mono (by decide))) (opInO ⟨rfl⟩ (mt_Arc___contains___WholeArc T) (hr.mono (by decide)))) (ge_prop2 (ge_prop (pr_Arc_start T) ⟨rfl⟩ ar_Arc_start (hr.mono (by decide)) (ge_var (pv 0))) (ge_prop (pr_Arc_start_WholeArc T) ⟨rfl⟩ ar_Arc_start (hr.mono (by decide)) (ge_var (pv 0)))) (ge_var (pv 1)) rfl) (ge_one (ge_cmpO (opIn2 (opInO ⟨rfl⟩ (mt_Arc___contains__ T) (hr.mono (by decide))) (opInO ⟨rfl⟩ (mt_Arc___contains___WholeArc T) (hr.mono (by decide)))) (ge_prop2 (ge_prop (pr_Arc_start T) ⟨rfl⟩ ar_Arc_start (hr.mono (by decide)) (ge_var (pv 1))) (ge_prop (pr_Arc_start_WholeArc T) ⟨rfl⟩ ar_Arc_start (hr.mono (by decide)) (ge_var (pv 1)))) (ge_var (pv 0)) rfl)))))))
theorem fg_arcs_meet (T : Hv fa fn csX ysX cvX gtX dfX tfX xsX K mg) : FnG P w (gK K) mg base 6 "arcs_meet" s_arcs_meet ["one", "other"] [] f_arcs_meet := fg_of (T.glo 17) (fd_arcs_meet T) sc_arcs_meet (fb_arcs_meet T)
theorem sc_Arc_covers : FnScope ["self", "other"] ["self", "other"] (defScope s_Arc_covers) := ⟨rfl, rfl, rfl, by decide +kernel, rfl, by decide +kernel, by decide +kernel⟩
def b_Arc_covers : DS :=
  (sSeq (sIf (tB' (eBin vIs (eUn (vFl [2, 3] "own_start") (eVar 0)) (eC .non))) (sRet (eC (.bl true))) sNop)
    (sSeq (sIf (tOr' (tB' (ePropL [2, 3] f_Arc_is_whole (eVar 1))) (tOr' (tB' (eBinO (inOL [2, 3] f_Arc___contains__) (eUn (vFl [2, 3] "own_start") (eVar 0)) (eVar 1))) (tB' (eBinO (inOL [2, 3] f_Arc___contains__) (eUn (vFl [2, 3] "own_stop") (eVar 0)) (eVar 1))))) (sRet (eC (.bl false))) sNop)
    (sRet (eOr (eBin vEq (ePropL [2, 3] f_Arc_start (eVar 1)) (eUn (vFl [2, 3] "own_start") (eVar 0))) (eBinO (inOL [2, 3] f_Arc___contains__) (ePropL [2, 3] f_Arc_start (eVar 1)) (eVar 0))))))
def f_Arc_covers : Fn := runF .fz 2 2 b_Arc_covers
theorem ar_Arc_covers : Ar f_Arc_covers 2 := ar_run
theorem fd_Arc_covers (T : Hv fa fn csX ysX cvX gtX dfX tfX xsX K mg) : ∃ fd, FunD (gK K).K "covers" "Arc.covers" (defArgs s_Arc_covers) (defBody s_Arc_covers) (defScope s_Arc_covers) ([] : List V) [] (He.ma K (He.ga K "Arc") "covers") fd := T.def_ 13
theorem fd_Arc_covers_WholeArc (T : Hv fa fn csX ysX cvX gtX dfX tfX xsX K mg) : ∃ fd, FunD (gK K).K "covers" "Arc.covers" (defArgs s_Arc_covers) (defBody s_Arc_covers) (defScope s_Arc_covers) ([] : List V) [] (He.ma K (He.ga K "WholeArc") "covers") fd := T.def_ 14
theorem fb_Arc_covers (T : Hv fa fn csX ysX cvX gtX dfX tfX xsX K mg) (fA : Addr) (cdv : Value) (A : Around) (outer : List Env) (s : Shared) (H : Hp) (E : XK) (hr : Room 5 (A.deeper (envOfC "Arc.covers" (defScope s_Arc_covers) s.heap.objs.size fA cdv))) : GSs (gK K) (WF E) (cxOf (L2.CX P w) P w (gK K).K mg base ["self", "other"] "Arc.covers" (defScope s_Arc_covers) fA cdv A outer s H E) (defBody s_Arc_covers) b_Arc_covers := by
  have nd := sc_Arc_covers.nd
  have tk := tk_of (P := P) (w := w) (K := (gK K).K) (mg := mg) (base := base) (N := ["self", "other"]) (qual := "Arc.covers") (scope := defScope s_Arc_covers) (f := fA) (cdv := cdv) (A := A) (outer := outer) (s := s) (H := H) (E := E)
  have hu := hu64 hr
  have hu5 := hu65 hr
  exact (gss_cons (gs_if (gt_cmp opIs (ge_fl ⟨rfl⟩ (flOk2 ((ow_Arc T).fl rfl rfl rfl) ((ow_WholeArc T).fl rfl rfl rfl)) (ge_var (pv 0))) (ge_c pe_non) (nomark _)) (gss_one (gs_ret (ge_c pe_bl))) gss_nil)
    (gss_cons (gs_if (PW.pt (gw_or (gt_val (ge_prop2 (ge_prop (pr_Arc_is_whole T) ⟨rfl⟩ ar_Arc_is_whole (hr.mono (by decide)) (ge_var (pv 1))) (ge_prop (pr_Arc_is_whole_WholeArc T) ⟨rfl⟩ ar_Arc_is_whole (hr.mono (by decide)) (ge_var (pv 1))))) (gw_or (gt_cmpO (opIn2 (opInO ⟨rfl⟩ (mt_Arc___contains__ T) (hr.mono (by decide))) (opInO ⟨rfl⟩ (mt_Arc___contains___WholeArc T) (hr.mono (by decide)))) (ge_fl ⟨rfl⟩ (flOk2 ((ow_Arc T).fl rfl rfl rfl) ((ow_WholeArc T).fl rfl rfl rfl)) (ge_var (pv 0))) (ge_var (pv 1)) rfl) (gw_or1 (gt_cmpO (opIn2 (opInO ⟨rfl⟩ (mt_Arc___contains__ T) (hr.mono (by decide))) (opInO ⟨rfl⟩ (mt_Arc___contains___WholeArc T) (hr.mono (by decide)))) (ge_fl ⟨rfl⟩ (flOk2 ((ow_Arc T).fl rfl rfl rfl) ((ow_WholeArc T).fl rfl rfl rfl)) (ge_var (pv 0))) (ge_var (pv 1)) rfl))))) (gss_one (gs_ret (ge_c pe_bl))) gss_nil)
    (gss_one (gs_ret (ge_or (ge_cmp (opEq ⟨rfl⟩ hu) (ge_prop2 (ge_prop (pr_Arc_start T) ⟨rfl⟩ ar_Arc_start (hr.mono (by decide)) (ge_var (pv 1))) (ge_prop (pr_Arc_start_WholeArc T) ⟨rfl⟩ ar_Arc_start (hr.mono (by decide)) (ge_var (pv 1)))) (ge_fl ⟨rfl⟩ (flOk2 ((ow_Arc T).fl rfl rfl rfl) ((ow_WholeArc T).fl rfl rfl rfl)) (ge_var (pv 0))) (nomark _)) (ge_one (ge_cmpO (opIn2 (opInO ⟨rfl⟩ (mt_Arc___contains__ T) (hr.mono (by decide))) (opInO ⟨rfl⟩ (mt_Arc___contains___WholeArc T) (hr.mono (by decide)))) (ge_prop2 (ge_prop (pr_Arc_start T) ⟨rfl⟩ ar_Arc_start (hr.mono (by decide)) (ge_var (pv 1))) (ge_prop (pr_Arc_start_WholeArc T) ⟨rfl⟩ ar_Arc_start (hr.mono (by decide)) (ge_var (pv 1)))) (ge_var (pv 0)) rfl)))))))
theorem mtd_Arc_covers (T : Hv fa fn csX ysX cvX gtX dfX tfX xsX K mg) : MtDG P w (gK K) mg base 6 2 "covers" "Arc.covers" s_Arc_covers ["self", "other"] ([] : List V) f_Arc_covers := mtd_of (ow_Arc T).c ((ow_Arc T).meth rfl) (fd_Arc_covers T) sc_Arc_covers (fb_Arc_covers T _)
theorem mt_Arc_covers (T : Hv fa fn csX ysX cvX gtX dfX tfX xsX K mg) : MtG P w (gK K) mg base 6 2 "covers" ["self", "other"] f_Arc_covers := mt_of (ow_Arc T).c ((ow_Arc T).meth rfl) (fd_Arc_covers T) sc_Arc_covers (fun _ _ _ _ _ _ us hl => match us, hl with | [_, _], _ => rfl) (fb_Arc_covers T _)
theorem mtd_Arc_covers_WholeArc (T : Hv fa fn csX ysX cvX gtX dfX tfX xsX K mg) : MtDG P w (gK K) mg base 6 3 "covers" "Arc.covers" s_Arc_covers ["self", "other"] ([] : List V) f_Arc_covers := mtd_of (ow_WholeArc T).c ((ow_WholeArc T).meth rfl) (fd_Arc_covers_WholeArc T) sc_Arc_covers (fb_Arc_covers T _)
theorem mt_Arc_covers_WholeArc (T : Hv fa fn csX ysX cvX gtX dfX tfX xsX K mg) : MtG P w (gK K) mg base 6 3 "covers" ["self", "other"] f_Arc_covers := mt_of (ow_WholeArc T).c ((ow_WholeArc T).meth rfl) (fd_Arc_covers_WholeArc T) sc_Arc_covers (fun _ _ _ _ _ _ us hl => match us, hl with | [_, _], _ => rfl) (fb_Arc_covers T _)
theorem sc_WholeArc___init__ : FnScope ["self"] ["self"] (defScope s_WholeArc___init__) := ⟨rfl, rfl, rfl, by decide +kernel, rfl, by decide +kernel, by decide +kernel⟩
def b_WholeArc___init__ : DS :=
  (sSeq (sFl 3 "own_start" (eC .non) (eVar 0))
    (sFl 3 "own_stop" (eC .non) (eVar 0)))
def f_WholeArc___init__ : Fn := runF .fz 1 1 b_WholeArc___init__
theorem ar_WholeArc___init__ : Ar f_WholeArc___init__ 1 := ar_run
theorem fd_WholeArc___init__ (T : Hv fa fn csX ysX cvX gtX dfX tfX xsX K mg) : ∃ fd, FunD (gK K).K "__init__" "WholeArc.__init__" (defArgs s_WholeArc___init__) (defBody s_WholeArc___init__) (defScope s_WholeArc___init__) ([] : List V) [] (He.ma K (He.ga K "WholeArc") "__init__") fd := T.def_ 15
theorem fb_WholeArc___init__ (T : Hv fa fn csX ysX cvX gtX dfX tfX xsX K mg) (cdv : Value) (A : Around) (outer : List Env) (s : Shared) (H : Hp) (E : XK) (hr : Room 0 (A.deeper (envOfC "WholeArc.__init__" (defScope s_WholeArc___init__) s.heap.objs.size (He.ma K (He.ga K "WholeArc") "__init__") cdv))) : GSs (gK K) (WF E) (cxOf (L2.CX P w) P w (gK K).K mg base ["self"] "WholeArc.__init__" (defScope s_WholeArc___init__) (He.ma K (He.ga K "WholeArc") "__init__") cdv A outer s H E) (defBody s_WholeArc___init__) b_WholeArc___init__ := by
  have nd := sc_WholeArc___init__.nd
  have tk := tk_of (P := P) (w := w) (K := (gK K).K) (mg := mg) (base := base) (N := ["self"]) (qual := "WholeArc.__init__") (scope := defScope s_WholeArc___init__) (f := (He.ma K (He.ga K "WholeArc") "__init__")) (cdv := cdv) (A := A) (outer := outer) (s := s) (H := H) (E := E)
  have hu := hu64 hr
  have hu5 := hu65 hr
  exact (gss_cons (gs_fl ⟨rfl⟩ ((ow_WholeArc T).fl rfl rfl rfl) (ge_c pe_non) (ge_var (pv 0)))
    (gss_one (gs_fl ⟨rfl⟩ ((ow_WholeArc T).fl rfl rfl rfl) (ge_c pe_non) (ge_var (pv 0)))))
theorem mk_WholeArc (T : Hv fa fn csX ysX cvX gtX dfX tfX xsX K mg) : MkG P w (gK K) mg base 1 "WholeArc" 3 "WholeArc.__init__" s_WholeArc___init__ ["self"] f_WholeArc___init__ := mk_of "WholeArc" (T.glo 18) (ow_WholeArc T).mkr (fd_WholeArc___init__ T) sc_WholeArc___init__ (fb_WholeArc___init__ T)
theorem sc_Arc___init__ : FnScope ["self", "start", "stop", "end"] ["self", "start", "stop"] (defScope s_Arc___init__) := ⟨rfl, rfl, rfl, by decide +kernel, rfl, by decide +kernel, by decide +kernel⟩
def b_Arc___init__ : DS :=
  (sSeq (sFor (iSeq (eTup (aCons (eVar 1) (aCons (eVar 2) aNil)))) (gN 3) (sIf (tNot' (tB' (eCall f_is_direction (aCons (eVar 3) aNil)))) (sRaise 0 ["value"] "InvalidDirection" (aCons (eVar 3) aNil)) sNop))
    (sSeq (sFl 2 "own_start" (eVar 1) (eVar 0))
    (sFl 2 "own_stop" (eVar 2) (eVar 0))))
def f_Arc___init__ : Fn := runF .fz 3 4 b_Arc___init__
theorem ar_Arc___init__ : Ar f_Arc___init__ 3 := ar_run
theorem fd_Arc___init__ (T : Hv fa fn csX ysX cvX gtX dfX tfX xsX K mg) : ∃ fd, FunD (gK K).K "__init__" "Arc.__init__" (defArgs s_Arc___init__) (defBody s_Arc___init__) (defScope s_Arc___init__) ([] : List V) [] (He.ma K (He.ga K "Arc") "__init__") fd := T.def_ 16
theorem fb_Arc___init__ (T : Hv fa fn csX ysX cvX gtX dfX tfX xsX K mg) (cdv : Value) (A : Around) (outer : List Env) (s : Shared) (H : Hp) (E : XK) (hr : Room 4 (A.deeper (envOfC "Arc.__init__" (defScope s_Arc___init__) s.heap.objs.size (He.ma K (He.ga K "Arc") "__init__") cdv))) : GSs (gK K) (WF E) (cxOf (L2.CX P w) P w (gK K).K mg base ["self", "start", "stop", "end"] "Arc.__init__" (defScope s_Arc___init__) (He.ma K (He.ga K "Arc") "__init__") cdv A outer s H E) (defBody s_Arc___init__) b_Arc___init__ := by
  have nd := sc_Arc___init__.nd
  have tk := tk_of (P := P) (w := w) (K := (gK K).K) (mg := mg) (base := base) (N := ["self", "start", "stop", "end"]) (qual := "Arc.__init__") (scope := defScope s_Arc___init__) (f := (He.ma K (He.ga K "Arc") "__init__")) (cdv := cdv) (A := A) (outer := outer) (s := s) (H := H) (E := E)
  have hu := hu64 hr
  have hu5 := hu65 hr
  exact (gss_cons (gs_for po_of rfl (gi_seq ⟨rfl⟩ (ge_tup (ga_cons (ge_var (pv 1)) (ga_cons (ge_var (pv 2)) ga_nil)))) (gg_name (pg_name (i := 3) nd rfl (Or.inl rfl))) (gss_one (gs_if (gt_not (gt_val (ge_call (fg_is_direction T) rfl ar_is_direction (hr.mono (by decide)) rfl tk (ga_cons (ge_var (pv 3)) ga_nil) rfl (fun _ _ _ _ _ _ us hl => match us, hl with | [_], _ => rfl)))) (gss_one (gs_raise (xc_InvalidDirection T) ⟨rfl⟩ rfl (hr.mono (by decide)) rfl tk (ga_cons (ge_var (pv 3)) ga_nil))) gss_nil)))
    (gss_cons (gs_fl ⟨rfl⟩ ((ow_Arc T).fl rfl rfl rfl) (ge_var (pv 1)) (ge_var (pv 0)))
    (gss_one (gs_fl ⟨rfl⟩ ((ow_Arc T).fl rfl rfl rfl) (ge_var (pv 2)) (ge_var (pv 0))))))
theorem mk_Arc (T : Hv fa fn csX ysX cvX gtX dfX tfX xsX K mg) : MkG P w (gK K) mg base 5 "Arc" 2 "Arc.__init__" s_Arc___init__ ["self", "start", "stop"] f_Arc___init__ := mk_of "Arc" (T.glo 19) (ow_Arc T).mkr (fd_Arc___init__ T) sc_Arc___init__ (fb_Arc___init__ T)
theorem sc_Arc_stop : FnScope ["self"] ["self"] (defScope s_Arc_stop) := ⟨rfl, rfl, rfl, by decide +kernel, rfl, by decide +kernel, by decide +kernel⟩
def b_Arc_stop : DS :=
  (sRet (eUn (vFl [2, 3] "own_stop") (eVar 0)))
def f_Arc_stop : Fn := runF .fz 1 1 b_Arc_stop
theorem ar_Arc_stop : Ar f_Arc_stop 1 := ar_run
theorem gv_Arc_stop (T : Hv fa fn csX ysX cvX gtX dfX tfX xsX K mg) : PropOf K (He.ga K "Arc") "stop" (He.ma K (He.ga K "Arc") "stop") (gtA K "Arc" "stop") ∧ ∃ fd, FunD K "stop" "Arc.stop" (defArgs s_Arc_stop) (defBody s_Arc_stop) (defScope s_Arc_stop) [] [] (gtA K "Arc" "stop") fd := T.get (d := gt_Arc_stop) 4
theorem fd_Arc_stop (T : Hv fa fn csX ysX cvX gtX dfX tfX xsX K mg) : ∃ fd, FunD (gK K).K "stop" "Arc.stop" (defArgs s_Arc_stop) (defBody s_Arc_stop) (defScope s_Arc_stop) ([] : List V) [] (gtA K "Arc" "stop") fd := (gv_Arc_stop T).2
theorem gv_Arc_stop_WholeArc (T : Hv fa fn csX ysX cvX gtX dfX tfX xsX K mg) : PropOf K (He.ga K "WholeArc") "stop" (He.ma K (He.ga K "WholeArc") "stop") (gtA K "WholeArc" "stop") ∧ ∃ fd, FunD K "stop" "Arc.stop" (defArgs s_Arc_stop) (defBody s_Arc_stop) (defScope s_Arc_stop) [] [] (gtA K "WholeArc" "stop") fd := T.get (d := gt_Arc_stop_WholeArc) 5
theorem fd_Arc_stop_WholeArc (T : Hv fa fn csX ysX cvX gtX dfX tfX xsX K mg) : ∃ fd, FunD (gK K).K "stop" "Arc.stop" (defArgs s_Arc_stop) (defBody s_Arc_stop) (defScope s_Arc_stop) ([] : List V) [] (gtA K "WholeArc" "stop") fd := (gv_Arc_stop_WholeArc T).2
theorem fb_Arc_stop (T : Hv fa fn csX ysX cvX gtX dfX tfX xsX K mg) (fA : Addr) (cdv : Value) (A : Around) (outer : List Env) (s : Shared) (H : Hp) (E : XK) (hr : Room 0 (A.deeper (envOfC "Arc.stop" (defScope s_Arc_stop) s.heap.objs.size fA cdv))) : GSs (gK K) (WF E) (cxOf (L2.CX P w) P w (gK K).K mg base ["self"] "Arc.stop" (defScope s_Arc_stop) fA cdv A outer s H E) (defBody s_Arc_stop) b_Arc_stop := by
  have nd := sc_Arc_stop.nd
  have tk := tk_of (P := P) (w := w) (K := (gK K).K) (mg := mg) (base := base) (N := ["self"]) (qual := "Arc.stop") (scope := defScope s_Arc_stop) (f := fA) (cdv := cdv) (A := A) (outer := outer) (s := s) (H := H) (E := E)
  have hu := hu64 hr
  have hu5 := hu65 hr
  exact (gss_one (gs_ret (ge_fl ⟨rfl⟩ (flOk2 ((ow_Arc T).fl rfl rfl rfl) ((ow_WholeArc T).fl rfl rfl rfl)) (ge_var (pv 0)))))
theorem pr_Arc_stop (T : Hv fa fn csX ysX cvX gtX dfX tfX xsX K mg) : PrG P w (gK K) mg base 1 2 "stop" f_Arc_stop := pr_of (ow_Arc T).c (gv_Arc_stop T).1 (fd_Arc_stop T) sc_Arc_stop (fun _ _ _ _ _ _ us hl => match us, hl with | [_], _ => rfl) (fb_Arc_stop T _)
theorem pr_Arc_stop_WholeArc (T : Hv fa fn csX ysX cvX gtX dfX tfX xsX K mg) : PrG P w (gK K) mg base 1 3 "stop" f_Arc_stop := pr_of (ow_WholeArc T).c (gv_Arc_stop_WholeArc T).1 (fd_Arc_stop_WholeArc T) sc_Arc_stop (fun _ _ _ _ _ _ us hl => match us, hl with | [_], _ => rfl) (fb_Arc_stop T _)
theorem sc_united : FnScope ["one", "other"] ["one", "other"] (defScope s_united) := ⟨rfl, rfl, rfl, by decide +kernel, rfl, by decide +kernel, by decide +kernel⟩
def b_united : DS :=
  (sSeq (sIf (tB' (eMtL [2, 3] "covers" f_Arc_covers (eVar 0) (aCons (eVar 1) aNil))) (sRet (eVar 0)) sNop)
    (sSeq (sIf (tB' (eMtL [2, 3] "covers" f_Arc_covers (eVar 1) (aCons (eVar 0) aNil))) (sRet (eVar 1)) sNop)
    (sSeq (sIf (tAnd' (tB' (eBinO (inOL [2, 3] f_Arc___contains__) (ePropL [2, 3] f_Arc_start (eVar 0)) (eVar 1))) (tB' (eBinO (inOL [2, 3] f_Arc___contains__) (ePropL [2, 3] f_Arc_start (eVar 1)) (eVar 0)))) (sRet (eMk 3 f_WholeArc___init__ aNil)) sNop)
    (sSeq (sIf (tB' (eBinO (inOL [2, 3] f_Arc___contains__) (ePropL [2, 3] f_Arc_start (eVar 1)) (eVar 0))) (sRet (eMk 2 f_Arc___init__ (aCons (ePropL [2, 3] f_Arc_start (eVar 0)) (aCons (ePropL [2, 3] f_Arc_stop (eVar 1)) aNil)))) sNop)
    (sRet (eMk 2 f_Arc___init__ (aCons (ePropL [2, 3] f_Arc_start (eVar 1)) (aCons (ePropL [2, 3] f_Arc_stop (eVar 0)) aNil))))))))
def f_united : Fn := runF .fz 2 2 b_united
theorem ar_united : Ar f_united 2 := ar_run
theorem fd_united (T : Hv fa fn csX ysX cvX gtX dfX tfX xsX K mg) : ∃ fd, FunD (gK K).K "united" "united" (defArgs s_united) (defBody s_united) (defScope s_united) [] [] (He.ga K "united") fd := T.def_ 17
theorem fb_united (T : Hv fa fn csX ysX cvX gtX dfX tfX xsX K mg) (cdv : Value) (A : Around) (outer : List Env) (s : Shared) (H : Hp) (E : XK) (hr : Room 6 (A.deeper (envOfC "united" (defScope s_united) s.heap.objs.size (He.ga K "united") cdv))) : GSs (gK K) (WF E) (cxOf (L2.CX P w) P w (gK K).K mg base ["one", "other"] "united" (defScope s_united) (He.ga K "united") cdv A outer s H E) (defBody s_united) b_united := by
  have nd := sc_united.nd
  have tk := tk_of (P := P) (w := w) (K := (gK K).K) (mg := mg) (base := base) (N := ["one", "other"]) (qual := "united") (scope := defScope s_united) (f := He.ga K "united") (cdv := cdv) (A := A) (outer := outer) (s := s) (H := H) (E := E)
  have hu := hu64 hr
  have hu5 := hu65 hr
  exact (gss_cons (gs_if (gt_val (ge_mt2 (ge_mt (mt_Arc_covers T) ⟨rfl⟩ ar_Arc_covers (hr.mono (by decide)) tk (ge_var (pv 0)) (ga_cons (ge_var (pv 1)) ga_nil)) (ge_mt (mt_Arc_covers_WholeArc T) ⟨rfl⟩ ar_Arc_covers (hr.mono (by decide)) tk (ge_var (pv 0)) (ga_cons (ge_var (pv 1)) ga_nil)))) (gss_one (gs_ret (ge_var (pv 0)))) gss_nil)
    (gss_cons (gs_if (gt_val (ge_mt2 (ge_mt (mt_Arc_covers T) ⟨rfl⟩ ar_Arc_covers (hr.mono (by decide)) tk (ge_var (pv 1)) (ga_cons (ge_var (pv 0)) ga_nil)) (ge_mt (mt_Arc_covers_WholeArc T) ⟨rfl⟩ ar_Arc_covers (hr.mono (by decide)) tk (ge_var (pv 1)) (ga_cons (ge_var (pv 0)) ga_nil)))) (gss_one (gs_ret (ge_var (pv 1)))) gss_nil)
    (gss_cons (gs_if (PW.pt (gw_and (gt_cmpO (opIn2 (opInO ⟨rfl⟩ (mt_Arc___contains__ T) (hr.mono (by decide))) (opInO ⟨rfl⟩ (mt_Arc___contains___WholeArc T) (hr.mono (by decide)))) (ge_prop2 (ge_prop (pr_Arc_start T) ⟨rfl⟩ ar_Arc_start (hr.mono (by decide)) (ge_var (pv 0))) (ge_prop (pr_Arc_start_WholeArc T) ⟨rfl⟩ ar_Arc_start (hr.mono (by decide)) (ge_var (pv 0)))) (ge_var (pv 1)) rfl) (gw_and1 (gt_cmpO (opIn2 (opInO ⟨rfl⟩ (mt_Arc___contains__ T) (hr.mono (by decide))) (opInO ⟨rfl⟩ (mt_Arc___contains___WholeArc T) (hr.mono (by decide)))) (ge_prop2 (ge_prop (pr_Arc_start T) ⟨rfl⟩ ar_Arc_start (hr.mono (by decide)) (ge_var (pv 1))) (ge_prop (pr_Arc_start_WholeArc T) ⟨rfl⟩ ar_Arc_start (hr.mono (by decide)) (ge_var (pv 1)))) (ge_var (pv 0)) rfl)))) (gss_one (gs_ret (ge_mk0 (mk_WholeArc T) ⟨rfl⟩ ar_WholeArc___init__ (hr.mono (by decide)) rfl tk (fun _ _ _ _ _ _ us hl => match us, hl with | [_], _ => rfl)))) gss_nil)
    (gss_cons (gs_if (gt_cmpO (opIn2 (opInO ⟨rfl⟩ (mt_Arc___contains__ T) (hr.mono (by decide))) (opInO ⟨rfl⟩ (mt_Arc___contains___WholeArc T) (hr.mono (by decide)))) (ge_prop2 (ge_prop (pr_Arc_start T) ⟨rfl⟩ ar_Arc_start (hr.mono (by decide)) (ge_var (pv 1))) (ge_prop (pr_Arc_start_WholeArc T) ⟨rfl⟩ ar_Arc_start (hr.mono (by decide)) (ge_var (pv 1)))) (ge_var (pv 0)) rfl) (gss_one (gs_ret (ge_mk (mk_Arc T) ⟨rfl⟩ ar_Arc___init__ (hr.mono (by decide)) rfl tk (ga_cons (ge_prop2 (ge_prop (pr_Arc_start T) ⟨rfl⟩ ar_Arc_start (hr.mono (by decide)) (ge_var (pv 0))) (ge_prop (pr_Arc_start_WholeArc T) ⟨rfl⟩ ar_Arc_start (hr.mono (by decide)) (ge_var (pv 0)))) (ga_cons (ge_prop2 (ge_prop (pr_Arc_stop T) ⟨rfl⟩ ar_Arc_stop (hr.mono (by decide)) (ge_var (pv 1))) (ge_prop (pr_Arc_stop_WholeArc T) ⟨rfl⟩ ar_Arc_stop (hr.mono (by decide)) (ge_var (pv 1)))) ga_nil)) (fun _ _ _ _ _ _ us hl => match us, hl with | [_, _, _], _ => rfl)))) gss_nil)
    (gss_one (gs_ret (ge_mk (mk_Arc T) ⟨rfl⟩ ar_Arc___init__ (hr.mono (by decide)) rfl tk (ga_cons (ge_prop2 (ge_prop (pr_Arc_start T) ⟨rfl⟩ ar_Arc_start (hr.mono (by decide)) (ge_var (pv 1))) (ge_prop (pr_Arc_start_WholeArc T) ⟨rfl⟩ ar_Arc_start (hr.mono (by decide)) (ge_var (pv 1)))) (ga_cons (ge_prop2 (ge_prop (pr_Arc_stop T) ⟨rfl⟩ ar_Arc_stop (hr.mono (by decide)) (ge_var (pv 0))) (ge_prop (pr_Arc_stop_WholeArc T) ⟨rfl⟩ ar_Arc_stop (hr.mono (by decide)) (ge_var (pv 0)))) ga_nil)) (fun _ _ _ _ _ _ us hl => match us, hl with | [_, _, _], _ => rfl))))))))
theorem fg_united (T : Hv fa fn csX ysX cvX gtX dfX tfX xsX K mg) : FnG P w (gK K) mg base 7 "united" s_united ["one", "other"] [] f_united := fg_of (T.glo 20) (fd_united T) sc_united (fb_united T)
theorem sc_Arc_whole : FnScope ["cls"] ["cls"] (defScope s_Arc_whole) := ⟨rfl, rfl, rfl, by decide +kernel, rfl, by decide +kernel, by decide +kernel⟩
def b_Arc_whole : DS :=
  (sRet (eMk 3 f_WholeArc___init__ aNil))
def f_Arc_whole : Fn := runF .fz 1 1 b_Arc_whole
theorem ar_Arc_whole : Ar f_Arc_whole 1 := ar_run
theorem gv_Arc_whole (T : Hv fa fn csX ysX cvX gtX dfX tfX xsX K mg) : ClX.CRead K (He.ga K "Arc") (.type "type") ∧ ClX.CMet K (He.ga K "Arc") (.type "type") "whole" (He.ma K (He.ga K "Arc") "whole") (cmA K "Arc" "whole") ∧ ∃ fd, FunD K "whole" "Arc.whole" (defArgs s_Arc_whole) (defBody s_Arc_whole) (defScope s_Arc_whole) [] [] (cmA K "Arc" "whole") fd := T.getC (d := gt_Arc_whole) 6
theorem fb_Arc_whole (T : Hv fa fn csX ysX cvX gtX dfX tfX xsX K mg) (cdv : Value) (A : Around) (outer : List Env) (s : Shared) (H : Hp) (E : XK) (hr : Room 2 (A.deeper (envOfC "Arc.whole" (defScope s_Arc_whole) s.heap.objs.size (cmA K "Arc" "whole") cdv))) : GSs (gK K) (WF E) (cxOf (L2.CX P w) P w (gK K).K mg base ["cls"] "Arc.whole" (defScope s_Arc_whole) (cmA K "Arc" "whole") cdv A outer s H E) (defBody s_Arc_whole) b_Arc_whole := by
  have nd := sc_Arc_whole.nd
  have tk := tk_of (P := P) (w := w) (K := (gK K).K) (mg := mg) (base := base) (N := ["cls"]) (qual := "Arc.whole") (scope := defScope s_Arc_whole) (f := (cmA K "Arc" "whole")) (cdv := cdv) (A := A) (outer := outer) (s := s) (H := H) (E := E)
  have hu := hu64 hr
  have hu5 := hu65 hr
  exact (gss_one (gs_ret (ge_mk0 (mk_WholeArc T) ⟨rfl⟩ ar_WholeArc___init__ (hr.mono (by decide)) rfl tk (fun _ _ _ _ _ _ us hl => match us, hl with | [_], _ => rfl))))
theorem cm_Arc_whole (T : Hv fa fn csX ysX cvX gtX dfX tfX xsX K mg) : CmG P w (gK K) mg base 3 2 "whole" f_Arc_whole := cm_of (gv_Arc_whole T).1 (gv_Arc_whole T).2.1 (gv_Arc_whole T).2.2 sc_Arc_whole (fun _ _ _ _ _ _ us hl => match us, hl with | [_], _ => rfl) (fb_Arc_whole T)
theorem sc_Arc_turned : FnScope ["self"] ["self"] (defScope s_Arc_turned) := ⟨rfl, rfl, rfl, by decide +kernel, rfl, by decide +kernel, by decide +kernel⟩
def b_Arc_turned : DS :=
  (sSeq (sIf (tB' (eBin vIs (eUn (vFl [2, 3] "own_start") (eVar 0)) (eC .non))) (sRet (eVar 0)) sNop)
    (sRet (eMk 2 f_Arc___init__ (aCons (eCall f_turned_half (aCons (eUn (vFl [2, 3] "own_start") (eVar 0)) aNil)) (aCons (eCall f_turned_half (aCons (eUn (vFl [2, 3] "own_stop") (eVar 0)) aNil)) aNil)))))
def f_Arc_turned : Fn := runF .fz 1 1 b_Arc_turned
theorem ar_Arc_turned : Ar f_Arc_turned 1 := ar_run
theorem fd_Arc_turned (T : Hv fa fn csX ysX cvX gtX dfX tfX xsX K mg) : ∃ fd, FunD (gK K).K "turned" "Arc.turned" (defArgs s_Arc_turned) (defBody s_Arc_turned) (defScope s_Arc_turned) ([] : List V) [] (He.ma K (He.ga K "Arc") "turned") fd := T.def_ 20
theorem fd_Arc_turned_WholeArc (T : Hv fa fn csX ysX cvX gtX dfX tfX xsX K mg) : ∃ fd, FunD (gK K).K "turned" "Arc.turned" (defArgs s_Arc_turned) (defBody s_Arc_turned) (defScope s_Arc_turned) ([] : List V) [] (He.ma K (He.ga K "WholeArc") "turned") fd := T.def_ 21
theorem fb_Arc_turned (T : Hv fa fn csX ysX cvX gtX dfX tfX xsX K mg) (fA : Addr) (cdv : Value) (A : Around) (outer : List Env) (s : Shared) (H : Hp) (E : XK) (hr : Room 6 (A.deeper (envOfC "Arc.turned" (defScope s_Arc_turned) s.heap.objs.size fA cdv))) : GSs (gK K) (WF E) (cxOf (L2.CX P w) P w (gK K).K mg base ["self"] "Arc.turned" (defScope s_Arc_turned) fA cdv A outer s H E) (defBody s_Arc_turned) b_Arc_turned := by
  have nd := sc_Arc_turned.nd
  have tk := tk_of (P := P) (w := w) (K := (gK K).K) (mg := mg) (base := base) (N := ["self"]) (qual := "Arc.turned") (scope := defScope s_Arc_turned) (f := fA) (cdv := cdv) (A := A) (outer := outer) (s := s) (H := H) (E := E)
  have hu := hu64 hr
  have hu5 := hu65 hr
  exact (gss_cons (gs_if (gt_cmp opIs (ge_fl ⟨rfl⟩ (flOk2 ((ow_Arc T).fl rfl rfl rfl) ((ow_WholeArc T).fl rfl rfl rfl)) (ge_var (pv 0))) (ge_c pe_non) (nomark _)) (gss_one (gs_ret (ge_var (pv 0)))) gss_nil)
    (gss_one (gs_ret (ge_mk (mk_Arc T) ⟨rfl⟩ ar_Arc___init__ (hr.mono (by decide)) rfl tk (ga_cons (ge_call (fg_turned_half T) rfl ar_turned_half (hr.mono (by decide)) rfl tk (ga_cons (ge_fl ⟨rfl⟩ (flOk2 ((ow_Arc T).fl rfl rfl rfl) ((ow_WholeArc T).fl rfl rfl rfl)) (ge_var (pv 0))) ga_nil) rfl (fun _ _ _ _ _ _ us hl => match us, hl with | [_], _ => rfl)) (ga_cons (ge_call (fg_turned_half T) rfl ar_turned_half (hr.mono (by decide)) rfl tk (ga_cons (ge_fl ⟨rfl⟩ (flOk2 ((ow_Arc T).fl rfl rfl rfl) ((ow_WholeArc T).fl rfl rfl rfl)) (ge_var (pv 0))) ga_nil) rfl (fun _ _ _ _ _ _ us hl => match us, hl with | [_], _ => rfl)) ga_nil)) (fun _ _ _ _ _ _ us hl => match us, hl with | [_, _, _], _ => rfl)))))
theorem mt_Arc_turned (T : Hv fa fn csX ysX cvX gtX dfX tfX xsX K mg) : MtG P w (gK K) mg base 7 2 "turned" ["self"] f_Arc_turned := mt_of (ow_Arc T).c ((ow_Arc T).meth rfl) (fd_Arc_turned T) sc_Arc_turned (fun _ _ _ _ _ _ us hl => match us, hl with | [_], _ => rfl) (fb_Arc_turned T _)
theorem mt_Arc_turned_WholeArc (T : Hv fa fn csX ysX cvX gtX dfX tfX xsX K mg) : MtG P w (gK K) mg base 7 3 "turned" ["self"] f_Arc_turned := mt_of (ow_WholeArc T).c ((ow_WholeArc T).meth rfl) (fd_Arc_turned_WholeArc T) sc_Arc_turned (fun _ _ _ _ _ _ us hl => match us, hl with | [_], _ => rfl) (fb_Arc_turned T _)
theorem sc_Arc___or__ : FnScope ["self", "other"] ["self", "other"] (defScope s_Arc___or__) := ⟨rfl, rfl, rfl, by decide +kernel, rfl, by decide +kernel, by decide +kernel⟩
def b_Arc___or__ : DS :=
  (sSeq (sIf (tOr' (tNot' (tB' (eFn (vIsiS 2 [3]) (aCons (eVar 1) (aCons (eC (.gl 2)) aNil))))) (tNot' (tB' (eCall f_arcs_meet (aCons (eVar 0) (aCons (eVar 1) aNil)))))) (sRaise 1 [] "NoJoining" aNil) sNop)
    (sRet (eCall f_united (aCons (eVar 0) (aCons (eVar 1) aNil)))))
def f_Arc___or__ : Fn := runF .fz 2 2 b_Arc___or__
theorem ar_Arc___or__ : Ar f_Arc___or__ 2 := ar_run
theorem fd_Arc___or__ (T : Hv fa fn csX ysX cvX gtX dfX tfX xsX K mg) : ∃ fd, FunD (gK K).K "__or__" "Arc.__or__" (defArgs s_Arc___or__) (defBody s_Arc___or__) (defScope s_Arc___or__) ([] : List V) [] (He.ma K (He.ga K "Arc") "__or__") fd := T.def_ 22
theorem fd_Arc___or___WholeArc (T : Hv fa fn csX ysX cvX gtX dfX tfX xsX K mg) : ∃ fd, FunD (gK K).K "__or__" "Arc.__or__" (defArgs s_Arc___or__) (defBody s_Arc___or__) (defScope s_Arc___or__) ([] : List V) [] (He.ma K (He.ga K "WholeArc") "__or__") fd := T.def_ 23
theorem fb_Arc___or__ (T : Hv fa fn csX ysX cvX gtX dfX tfX xsX K mg) (fA : Addr) (cdv : Value) (A : Around) (outer : List Env) (s : Shared) (H : Hp) (E : XK) (hr : Room 7 (A.deeper (envOfC "Arc.__or__" (defScope s_Arc___or__) s.heap.objs.size fA cdv))) : GSs (gK K) (WF E) (cxOf (L2.CX P w) P w (gK K).K mg base ["self", "other"] "Arc.__or__" (defScope s_Arc___or__) fA cdv A outer s H E) (defBody s_Arc___or__) b_Arc___or__ := by
  have nd := sc_Arc___or__.nd
  have tk := tk_of (P := P) (w := w) (K := (gK K).K) (mg := mg) (base := base) (N := ["self", "other"]) (qual := "Arc.__or__") (scope := defScope s_Arc___or__) (f := fA) (cdv := cdv) (A := A) (outer := outer) (s := s) (H := H) (E := E)
  have hu := hu64 hr
  have hu5 := hu65 hr
  exact (gss_cons (gs_if (PW.pt (gw_or (gt_not (gt_val (ge_callB (cIsiS ⟨rfl⟩ ((ow_Arc T).is rfl rfl _ (List.mem_singleton.mpr rfl)) (isS1 ((ow_WholeArc T).is rfl rfl _ (List.mem_singleton.mpr rfl)) (subB_ok (T.fur 0)))) rfl (T.free 3) (by decide +kernel) (ga_cons (ge_var (pv 1)) (ga_cons (ge_gl (c := 2) (T.glo 19) rfl) ga_nil))))) (gw_or1 (gt_not (gt_val (ge_call (fg_arcs_meet T) rfl ar_arcs_meet (hr.mono (by decide)) rfl tk (ga_cons (ge_var (pv 0)) (ga_cons (ge_var (pv 1)) ga_nil)) rfl (fun _ _ _ _ _ _ us hl => match us, hl with | [_, _], _ => rfl))))))) (gss_one (gs_raise0 (xc_NoJoining T) ⟨rfl⟩ rfl (hr.mono (by decide)) rfl tk)) gss_nil)
    (gss_one (gs_ret (ge_call (fg_united T) rfl ar_united (hr.mono (by decide)) rfl tk (ga_cons (ge_var (pv 0)) (ga_cons (ge_var (pv 1)) ga_nil)) rfl (fun _ _ _ _ _ _ us hl => match us, hl with | [_, _], _ => rfl)))))
theorem mt_Arc___or__ (T : Hv fa fn csX ysX cvX gtX dfX tfX xsX K mg) : MtG P w (gK K) mg base 8 2 "__or__" ["self", "other"] f_Arc___or__ := mt_of (ow_Arc T).c ((ow_Arc T).meth rfl) (fd_Arc___or__ T) sc_Arc___or__ (fun _ _ _ _ _ _ us hl => match us, hl with | [_, _], _ => rfl) (fb_Arc___or__ T _)
theorem mt_Arc___or___WholeArc (T : Hv fa fn csX ysX cvX gtX dfX tfX xsX K mg) : MtG P w (gK K) mg base 8 3 "__or__" ["self", "other"] f_Arc___or__ := mt_of (ow_WholeArc T).c ((ow_WholeArc T).meth rfl) (fd_Arc___or___WholeArc T) sc_Arc___or__ (fun _ _ _ _ _ _ us hl => match us, hl with | [_, _], _ => rfl) (fb_Arc___or__ T _)
theorem sc_Arc___eq__ : FnScope ["self", "other"] ["self", "other"] (defScope s_Arc___eq__) := ⟨rfl, rfl, rfl, by decide +kernel, rfl, by decide +kernel, by decide +kernel⟩
def b_Arc___eq__ : DS :=
  (sRet (eAnd (eFn (vIsiS 2 [3]) (aCons (eVar 1) (aCons (eC (.gl 2)) aNil))) (eAnd (eBin vEq (eUn (vFl [2, 3] "own_start") (eVar 0)) (eUn (vFl [2, 3] "own_start") (eVar 1))) (eBin vEq (eUn (vFl [2, 3] "own_stop") (eVar 0)) (eUn (vFl [2, 3] "own_stop") (eVar 1))))))
def f_Arc___eq__ : Fn := runF .fz 2 2 b_Arc___eq__
theorem fd_Arc___eq__ (T : Hv fa fn csX ysX cvX gtX dfX tfX xsX K mg) : ∃ fd, FunD (gK K).K "__eq__" "Arc.__eq__" (defArgs s_Arc___eq__) (defBody s_Arc___eq__) (defScope s_Arc___eq__) ([] : List V) [] (He.ma K (He.ga K "Arc") "__eq__") fd := T.def_ 24
theorem fd_Arc___eq___WholeArc (T : Hv fa fn csX ysX cvX gtX dfX tfX xsX K mg) : ∃ fd, FunD (gK K).K "__eq__" "Arc.__eq__" (defArgs s_Arc___eq__) (defBody s_Arc___eq__) (defScope s_Arc___eq__) ([] : List V) [] (He.ma K (He.ga K "WholeArc") "__eq__") fd := T.def_ 25
theorem fb_Arc___eq__ (T : Hv fa fn csX ysX cvX gtX dfX tfX xsX K mg) (fA : Addr) (cdv : Value) (A : Around) (outer : List Env) (s : Shared) (H : Hp) (E : XK) (hr : Room 0 (A.deeper (envOfC "Arc.__eq__" (defScope s_Arc___eq__) s.heap.objs.size fA cdv))) : GSs (gK K) (WF E) (cxOf (L2.CX P w) P w (gK K).K mg base ["self", "other"] "Arc.__eq__" (defScope s_Arc___eq__) fA cdv A outer s H E) (defBody s_Arc___eq__) b_Arc___eq__ := by
  have nd := sc_Arc___eq__.nd
  have tk := tk_of (P := P) (w := w) (K := (gK K).K) (mg := mg) (base := base) (N := ["self", "other"]) (qual := "Arc.__eq__") (scope := defScope s_Arc___eq__) (f := fA) (cdv := cdv) (A := A) (outer := outer) (s := s) (H := H) (E := E)
  have hu := hu64 hr
  have hu5 := hu65 hr
  exact (gss_one (gs_ret (ge_and (ge_callB (cIsiS ⟨rfl⟩ ((ow_Arc T).is rfl rfl _ (List.mem_singleton.mpr rfl)) (isS1 ((ow_WholeArc T).is rfl rfl _ (List.mem_singleton.mpr rfl)) (subB_ok (T.fur 0)))) rfl (T.free 3) (by decide +kernel) (ga_cons (ge_var (pv 1)) (ga_cons (ge_gl (c := 2) (T.glo 19) rfl) ga_nil))) (ge_and (ge_cmp (opEq ⟨rfl⟩ hu) (ge_fl ⟨rfl⟩ (flOk2 ((ow_Arc T).fl rfl rfl rfl) ((ow_WholeArc T).fl rfl rfl rfl)) (ge_var (pv 0))) (ge_fl ⟨rfl⟩ (flOk2 ((ow_Arc T).fl rfl rfl rfl) ((ow_WholeArc T).fl rfl rfl rfl)) (ge_var (pv 1))) (nomark _)) (ge_one (ge_cmp (opEq ⟨rfl⟩ hu) (ge_fl ⟨rfl⟩ (flOk2 ((ow_Arc T).fl rfl rfl rfl) ((ow_WholeArc T).fl rfl rfl rfl)) (ge_var (pv 0))) (ge_fl ⟨rfl⟩ (flOk2 ((ow_Arc T).fl rfl rfl rfl) ((ow_WholeArc T).fl rfl rfl rfl)) (ge_var (pv 1))) (nomark _)))))))
theorem mt_Arc___eq__ (T : Hv fa fn csX ysX cvX gtX dfX tfX xsX K mg) : MtG P w (gK K) mg base 1 2 "__eq__" ["self", "other"] f_Arc___eq__ := mt_of (ow_Arc T).c ((ow_Arc T).meth rfl) (fd_Arc___eq__ T) sc_Arc___eq__ (fun _ _ _ _ _ _ us hl => match us, hl with | [_, _], _ => rfl) (fb_Arc___eq__ T _)
theorem mt_Arc___eq___WholeArc (T : Hv fa fn csX ysX cvX gtX dfX tfX xsX K mg) : MtG P w (gK K) mg base 1 3 "__eq__" ["self", "other"] f_Arc___eq__ := mt_of (ow_WholeArc T).c ((ow_WholeArc T).meth rfl) (fd_Arc___eq___WholeArc T) sc_Arc___eq__ (fun _ _ _ _ _ _ us hl => match us, hl with | [_, _], _ => rfl) (fb_Arc___eq__ T _)
theorem sc__law_open : FnScope ["script", "mixed", "cell"] ["script"] (defScope s__law_open) := ⟨rfl, rfl, rfl, by decide +kernel, rfl, by decide +kernel, by decide +kernel⟩
def b__law_open : DS :=
  (sSeq (sAsg (eC (.int 1203221)) (gN 1))
    (sSeq (sFor (iSeq (eSl vSlc (eVar 0) oNone (oSome (eC (.int 63))))) (gN 2) (sAsg (eBin vMod (eFn vInt (aCons (eBin vAdd (eBin vAdd (eBin vMul (eVar 1) (eC (.int 50777))) (eBin vMul (eBin vMod (eFn vInt (aCons (eVar 2) aNil)) (eC (.int 1000381))) (eC (.int 919)))) (eC (.int 43))) aNil)) (eC (.int 2147483587))) (gN 1)))
    (sRet (eLstC (aCons (eFn vList (aCons (eSl vSlc (eVar 0) oNone (oSome (eC (.int 63)))) aNil)) (aCons (eC (.int 0)) (aCons (eC (.int 0)) (aCons (eVar 1) (aCons (eC (.int 0)) aNil)))))))))
def f__law_open : Fn := runF .cl 1 3 b__law_open
theorem ar__law_open : Ar f__law_open 1 := ar_run
theorem fd__law_open (T : Hv fa fn csX ysX cvX gtX dfX tfX xsX K mg) : ∃ fd, FunD (gK K).K "_law_open" "_law_open" (defArgs s__law_open) (defBody s__law_open) (defScope s__law_open) [] [] (He.ga K "_law_open") fd := T.def_ 30
theorem fb__law_open (T : Hv fa fn csX ysX cvX gtX dfX tfX xsX K mg) (cdv : Value) (A : Around) (outer : List Env) (s : Shared) (H : Hp) (E : XK) (hr : Room 0 (A.deeper (envOfC "_law_open" (defScope s__law_open) s.heap.objs.size (He.ga K "_law_open") cdv))) : GSs (gK K) (WF E) (cxOf (L2.CX P w) P w (gK K).K mg base ["script", "mixed", "cell"] "_law_open" (defScope s__law_open) (He.ga K "_law_open") cdv A outer s H E) (defBody s__law_open) b__law_open := by
  have nd := sc__law_open.nd
  have tk := tk_of (P := P) (w := w) (K := (gK K).K) (mg := mg) (base := base) (N := ["script", "mixed", "cell"]) (qual := "_law_open") (scope := defScope s__law_open) (f := He.ga K "_law_open") (cdv := cdv) (A := A) (outer := outer) (s := s) (H := H) (E := E)
  have hu := hu64 hr
  have hu5 := hu65 hr
  exact (gss_cons (gs_asg (ge_c pe_int) (gg_name (pg_name (i := 1) nd rfl (Or.inl rfl))))
    (gss_cons (gs_for po_of rfl (gi_seq ⟨rfl⟩ (ge_slice (slAny ⟨rfl⟩) (ge_var (pv 0)) go_none (go_some (ge_c pe_int)))) (gg_name (pg_name (i := 2) nd rfl (Or.inl rfl))) (gss_one (gs_asg (ge_bin opMod (ge_callTy cInt rfl (T.free 2) (by decide +kernel) (ga_cons (ge_bin (opAdd ⟨rfl⟩) (ge_bin (opAdd ⟨rfl⟩) (ge_bin opMul (ge_var (pv 1)) (ge_c pe_int)) (ge_bin opMul (ge_bin opMod (ge_callTy cInt rfl (T.free 2) (by decide +kernel) (ga_cons (ge_var (pv 2)) ga_nil)) (ge_c pe_int)) (ge_c pe_int))) (ge_c pe_int)) ga_nil)) (ge_c pe_int)) (gg_name (pg_name (i := 1) nd rfl (Or.inl rfl))))))
    (gss_one (gs_ret (ge_lstC (ga_cons (ge_callTy (cList ⟨rfl⟩ rfl) rfl (T.free 21) (by decide +kernel) (ga_cons (ge_slice (slAny ⟨rfl⟩) (ge_var (pv 0)) go_none (go_some (ge_c pe_int))) ga_nil)) (ga_cons (ge_c pe_int) (ga_cons (ge_c pe_int) (ga_cons (ge_var (pv 1)) (ga_cons (ge_c pe_int) ga_nil))))))))))
theorem fg__law_open (T : Hv fa fn csX ysX cvX gtX dfX tfX xsX K mg) : FnG P w (gK K) mg base 1 "_law_open" s__law_open ["script"] [] f__law_open := fg_of (T.glo 22) (fd__law_open T) sc__law_open (fb__law_open T)
theorem sc__law_draw : FnScope ["bag", "many", "cell", "digit", "seed", "step"] ["bag", "many"] (defScope s__law_draw) := ⟨rfl, rfl, rfl, by decide +kernel, rfl, by decide +kernel, by decide +kernel⟩
def b__law_draw : DS :=
  (sSeq (sSetIx (eBin vAdd (eBin vIx (eVar 0) (eC (.int 4))) (eC (.int 1))) (eVar 0) (eC (.int 4)))
    (sSeq (sIf (tAnd' (tB' (eBin vEq (eBin vIx (eVar 0) (eC (.int 2))) (eC (.int 0)))) (tB' (eBin vLt (eBin vIx (eVar 0) (eC (.int 1))) (eFn vLen (aCons (eBin vIx (eVar 0) (eC (.int 0))) aNil))))) (sSeq (sAsg (eBin vIx (eBin vIx (eVar 0) (eC (.int 0))) (eBin vIx (eVar 0) (eC (.int 1)))) (gN 2))
    (sSeq (sSetIx (eBin vAdd (eBin vIx (eVar 0) (eC (.int 1))) (eC (.int 1))) (eVar 0) (eC (.int 1)))
    (sIf (tB' (eBin vGe (eFn vAbs (aCons (eVar 2) aNil)) (eBin vPow (eC (.int 10)) (eC (.int 18))))) (sSetIx (eFn vAbs (aCons (eVar 2) aNil)) (eVar 0) (eC (.int 2))) (sSetIx (eBin vMod (eFn vInt (aCons (eBin vAdd (eBin vAdd (eBin vMul (eBin vIx (eVar 0) (eC (.int 3))) (eC (.int 44017))) (eBin vMul (eBin vMod (eFn vInt (aCons (eVar 2) aNil)) (eC (.int 1000381))) (eC (.int 773)))) (eC (.int 59))) aNil)) (eC (.int 2147483629))) (eVar 0) (eC (.int 3)))))) sNop)
    (sSeq (sIf (tB' (eBin vGt (eBin vIx (eVar 0) (eC (.int 2))) (eC (.int 0)))) (sSeq (sAsg (eBin vMod (eFn vInt (aCons (eBin vIx (eVar 0) (eC (.int 2))) aNil)) (eVar 1)) (gN 3))
    (sSeq (sSetIx (eBin vDiv (eBin vIx (eVar 0) (eC (.int 2))) (eVar 1)) (eVar 0) (eC (.int 2)))
    (sRet (eVar 3)))) sNop)
    (sSeq (sAsg (eBin vIx (eVar 0) (eC (.int 3))) (gN 4))
    (sSeq (sAsg (eBin vAdd (eBin vAdd (eBin vMul (eVar 4) (eC (.int 50069))) (eBin vMul (eBin vIx (eVar 0) (eC (.int 4))) (eC (.int 110063)))) (eC (.int 60101))) (gN 5))
    (sSeq (sSetIx (eBin vMod (eFn vInt (aCons (eBin vAdd (eBin vMul (eBin vMul (eVar 4) (eVar 4)) (eC (.int 29))) (eVar 5)) aNil)) (eC (.int 2147483587))) (eVar 0) (eC (.int 3)))
    (sRet (eBin vMod (eFn vInt (aCons (eBin vAdd (eBin vDiv (eBin vIx (eVar 0) (eC (.int 3))) (eC (.int 71))) (eBin vMul (eBin vMod (eFn vInt (aCons (eBin vIx (eVar 0) (eC (.int 3))) aNil)) (eC (.int 8011))) (eC (.int 61)))) aNil)) (eVar 1)))))))))
def f__law_draw : Fn := runF .fz 2 6 b__law_draw
theorem ar__law_draw : Ar f__law_draw 2 := ar_run
theorem fd__law_draw (T : Hv fa fn csX ysX cvX gtX dfX tfX xsX K mg) : ∃ fd, FunD (gK K).K "_law_draw" "_law_draw" (defArgs s__law_draw) (defBody s__law_draw) (defScope s__law_draw) [] [] (He.ga K "_law_draw") fd := T.def_ 31
theorem fb__law_draw (T : Hv fa fn csX ysX cvX gtX dfX tfX xsX K mg) (cdv : Value) (A : Around) (outer : List Env) (s : Shared) (H : Hp) (E : XK) (hr : Room 0 (A.deeper (envOfC "_law_draw" (defScope s__law_draw) s.heap.objs.size (He.ga K "_law_draw") cdv))) : GSs (gK K) (WF E) (cxOf (L2.CX P w) P w (gK K).K mg base ["bag", "many", "cell", "digit", "seed", "step"] "_law_draw" (defScope s__law_draw) (He.ga K "_law_draw") cdv A outer s H E) (defBody s__law_draw) b__law_draw := by
  have nd := sc__law_draw.nd
  have tk := tk_of (P := P) (w := w) (K := (gK K).K) (mg := mg) (base := base) (N := ["bag", "many", "cell", "digit", "seed", "step"]) (qual := "_law_draw") (scope := defScope s__law_draw) (f := He.ga K "_law_draw") (cdv := cdv) (A := A) (outer := outer) (s := s) (H := H) (E := E)
  have hu := hu64 hr
  have hu5 := hu65 hr
  exact (gss_cons (gs_setIx (ge_bin (opAdd ⟨rfl⟩) (ge_ix (ixAny ⟨rfl⟩) (ge_var (pv 0)) (ge_c pe_int)) (ge_c pe_int)) (ge_var (pv 0)) (ge_c pe_int))
    (gss_cons (gs_if (PW.pt (gw_and (gt_cmp (opEq ⟨rfl⟩ hu) (ge_ix (ixAny ⟨rfl⟩) (ge_var (pv 0)) (ge_c pe_int)) (ge_c pe_int) (nomark _)) (gw_and1 (gt_cmp opLt (ge_ix (ixAny ⟨rfl⟩) (ge_var (pv 0)) (ge_c pe_int)) (ge_callB (cLen ⟨rfl⟩) rfl (T.free 8) (by decide +kernel) (ga_cons (ge_ix (ixAny ⟨rfl⟩) (ge_var (pv 0)) (ge_c pe_int)) ga_nil)) (nomark _))))) (gss_cons (gs_asg (ge_ix (ixAny ⟨rfl⟩) (ge_ix (ixAny ⟨rfl⟩) (ge_var (pv 0)) (ge_c pe_int)) (ge_ix (ixAny ⟨rfl⟩) (ge_var (pv 0)) (ge_c pe_int))) (gg_name (pg_name (i := 2) nd rfl (Or.inl rfl))))
    (gss_cons (gs_setIx (ge_bin (opAdd ⟨rfl⟩) (ge_ix (ixAny ⟨rfl⟩) (ge_var (pv 0)) (ge_c pe_int)) (ge_c pe_int)) (ge_var (pv 0)) (ge_c pe_int))
    (gss_one (gs_if (gt_cmp opGe (ge_callB cAbs rfl (T.free 10) (by decide +kernel) (ga_cons (ge_var (pv 2)) ga_nil)) (ge_bin opPow (ge_c pe_int) (ge_c pe_int)) (nomark _)) (gss_one (gs_setIx (ge_callB cAbs rfl (T.free 10) (by decide +kernel) (ga_cons (ge_var (pv 2)) ga_nil)) (ge_var (pv 0)) (ge_c pe_int))) (gss_one (gs_setIx (ge_bin opMod (ge_callTy cInt rfl (T.free 2) (by decide +kernel) (ga_cons (ge_bin (opAdd ⟨rfl⟩) (ge_bin (opAdd ⟨rfl⟩) (ge_bin opMul (ge_ix (ixAny ⟨rfl⟩) (ge_var (pv 0)) (ge_c pe_int)) (ge_c pe_int)) (ge_bin opMul (ge_bin opMod (ge_callTy cInt rfl (T.free 2) (by decide +kernel) (ga_cons (ge_var (pv 2)) ga_nil)) (ge_c pe_int)) (ge_c pe_int))) (ge_c pe_int)) ga_nil)) (ge_c pe_int)) (ge_var (pv 0)) (ge_c pe_int))))))) gss_nil)
    (gss_cons (gs_if (gt_cmp opGt (ge_ix (ixAny ⟨rfl⟩) (ge_var (pv 0)) (ge_c pe_int)) (ge_c pe_int) (nomark _)) (gss_cons (gs_asg (ge_bin opMod (ge_callTy cInt rfl (T.free 2) (by decide +kernel) (ga_cons (ge_ix (ixAny ⟨rfl⟩) (ge_var (pv 0)) (ge_c pe_int)) ga_nil)) (ge_var (pv 1))) (gg_name (pg_name (i := 3) nd rfl (Or.inl rfl))))
    (gss_cons (gs_setIx (ge_bin opDiv (ge_ix (ixAny ⟨rfl⟩) (ge_var (pv 0)) (ge_c pe_int)) (ge_var (pv 1))) (ge_var (pv 0)) (ge_c pe_int))
    (gss_one (gs_ret (ge_var (pv 3)))))) gss_nil)
    (gss_cons (gs_asg (ge_ix (ixAny ⟨rfl⟩) (ge_var (pv 0)) (ge_c pe_int)) (gg_name (pg_name (i := 4) nd rfl (Or.inl rfl))))
    (gss_cons (gs_asg (ge_bin (opAdd ⟨rfl⟩) (ge_bin (opAdd ⟨rfl⟩) (ge_bin opMul (ge_var (pv 4)) (ge_c pe_int)) (ge_bin opMul (ge_ix (ixAny ⟨rfl⟩) (ge_var (pv 0)) (ge_c pe_int)) (ge_c pe_int))) (ge_c pe_int)) (gg_name (pg_name (i := 5) nd rfl (Or.inl rfl))))
    (gss_cons (gs_setIx (ge_bin opMod (ge_callTy cInt rfl (T.free 2) (by decide +kernel) (ga_cons (ge_bin (opAdd ⟨rfl⟩) (ge_bin opMul (ge_bin opMul (ge_var (pv 4)) (ge_var (pv 4))) (ge_c pe_int)) (ge_var (pv 5))) ga_nil)) (ge_c pe_int)) (ge_var (pv 0)) (ge_c pe_int))
    (gss_one (gs_ret (ge_bin opMod (ge_callTy cInt rfl (T.free 2) (by decide +kernel) (ga_cons (ge_bin (opAdd ⟨rfl⟩) (ge_bin opDiv (ge_ix (ixAny ⟨rfl⟩) (ge_var (pv 0)) (ge_c pe_int)) (ge_c pe_int)) (ge_bin opMul (ge_bin opMod (ge_callTy cInt rfl (T.free 2) (by decide +kernel) (ga_cons (ge_ix (ixAny ⟨rfl⟩) (ge_var (pv 0)) (ge_c pe_int)) ga_nil)) (ge_c pe_int)) (ge_c pe_int))) ga_nil)) (ge_var (pv 1)))))))))))
theorem fg__law_draw (T : Hv fa fn csX ysX cvX gtX dfX tfX xsX K mg) : FnG P w (gK K) mg base 1 "_law_draw" s__law_draw ["bag", "many"] [] f__law_draw := fg_of (T.glo 23) (fd__law_draw T) sc__law_draw (fb__law_draw T)
theorem sc__law_of : FnScope ["bag", "some"] ["bag", "some"] (defScope s__law_of) := ⟨rfl, rfl, rfl, by decide +kernel, rfl, by decide +kernel, by decide +kernel⟩
def b__law_of : DS :=
  (sRet (eBin vIx (eVar 1) (eCall f__law_draw (aCons (eVar 0) (aCons (eFn vLen (aCons (eVar 1) aNil)) aNil)))))
def f__law_of : Fn := runF .fz 2 2 b__law_of
theorem ar__law_of : Ar f__law_of 2 := ar_run
theorem fd__law_of (T : Hv fa fn csX ysX cvX gtX dfX tfX xsX K mg) : ∃ fd, FunD (gK K).K "_law_of" "_law_of" (defArgs s__law_of) (defBody s__law_of) (defScope s__law_of) [] [] (He.ga K "_law_of") fd := T.def_ 32
theorem fb__law_of (T : Hv fa fn csX ysX cvX gtX dfX tfX xsX K mg) (cdv : Value) (A : Around) (outer : List Env) (s : Shared) (H : Hp) (E : XK) (hr : Room 1 (A.deeper (envOfC "_law_of" (defScope s__law_of) s.heap.objs.size (He.ga K "_law_of") cdv))) : GSs (gK K) (WF E) (cxOf (L2.CX P w) P w (gK K).K mg base ["bag", "some"] "_law_of" (defScope s__law_of) (He.ga K "_law_of") cdv A outer s H E) (defBody s__law_of) b__law_of := by
  have nd := sc__law_of.nd
  have tk := tk_of (P := P) (w := w) (K := (gK K).K) (mg := mg) (base := base) (N := ["bag", "some"]) (qual := "_law_of") (scope := defScope s__law_of) (f := He.ga K "_law_of") (cdv := cdv) (A := A) (outer := outer) (s := s) (H := H) (E := E)
  have hu := hu64 hr
  have hu5 := hu65 hr
  exact (gss_one (gs_ret (ge_ix (ixAny ⟨rfl⟩) (ge_var (pv 1)) (ge_call (fg__law_draw T) rfl ar__law_draw (hr.mono (by decide)) rfl tk (ga_cons (ge_var (pv 0)) (ga_cons (ge_callB (cLen ⟨rfl⟩) rfl (T.free 8) (by decide +kernel) (ga_cons (ge_var (pv 1)) ga_nil)) ga_nil)) rfl (fun _ _ _ _ _ _ us hl => match us, hl with | [_, _], _ => rfl)))))
theorem fg__law_of (T : Hv fa fn csX ysX cvX gtX dfX tfX xsX K mg) : FnG P w (gK K) mg base 2 "_law_of" s__law_of ["bag", "some"] [] f__law_of := fg_of (T.glo 24) (fd__law_of T) sc__law_of (fb__law_of T)
theorem sc__law_same : FnScope ["found", "due", "a", "b"] ["found", "due"] (defScope s__law_same) := ⟨rfl, rfl, rfl, by decide +kernel, rfl, by decide +kernel, by decide +kernel⟩
def b__law_same (F : Fn) : DS :=
  (sSeq (sIf (tOr' (tB' (eBin vIs (eVar 1) (eC .non))) (tB' (eBin vIs (eVar 0) (eC .non)))) (sRet (eAnd (eBin vIs (eVar 1) (eC .non)) (eBin vIs (eVar 0) (eC .non)))) sNop)
    (sSeq (sIf (tB' (eFn vIsi (aCons (eVar 1) (aCons (eTup (aCons (eC (.ty .lst)) (aCons (eC (.ty .tup)) aNil))) aNil)))) (sSeq (sIf (tOr' (tB' (eBin vNe (eFn vIsi (aCons (eVar 0) (aCons (eC (.ty .lst)) aNil))) (eFn vIsi (aCons (eVar 1) (aCons (eC (.ty .lst)) aNil))))) (tB' (eBin vNe (eFn vIsi (aCons (eVar 0) (aCons (eC (.ty .tup)) aNil))) (eFn vIsi (aCons (eVar 1) (aCons (eC (.ty .tup)) aNil)))))) (sRet (eC (.bl false))) sNop)
    (sRet (eAnd (eBin vEq (eFn vLen (aCons (eVar 0) aNil)) (eFn vLen (aCons (eVar 1) aNil))) (eFn vAll (aCons (eLc (iZip2 (aCons (eVar 0) (aCons (eVar 1) aNil))) (gTup' (gCons' (gN 2) (gCons' (gN 3) gNil')) 2) tYes' (eCall F (aCons (eVar 2) (aCons (eVar 3) aNil))) [2, 3]) aNil))))) sNop)
    (sSeq (sIf (tOr' (tB' (eBin vNe (eFn vIsi (aCons (eVar 1) (aCons (eC (.ty .bl)) aNil))) (eFn vIsi (aCons (eVar 0) (aCons (eC (.ty .bl)) aNil))))) (tB' (eBin vNe (eFn vIsi (aCons (eVar 1) (aCons (eC (.ty .int)) aNil))) (eFn vIsi (aCons (eVar 0) (aCons (eC (.ty .int)) aNil)))))) (sRet (eC (.bl false))) sNop)
    (sRet (eAnd (eBin vEq (eFn vIsi (aCons (eVar 1) (aCons (eC (.ty .str)) aNil))) (eFn vIsi (aCons (eVar 0) (aCons (eC (.ty .str)) aNil)))) (eBin vEq (eVar 0) (eVar 1)))))))
def f__law_same : Nat → Fn
  | 0 => fun _ _ => .stuck
  | k + 1 => runF .fz 2 4 (b__law_same (f__law_same k))
theorem ar__law_same : ∀ k, Ar (f__law_same k) 2
  | 0 => ar_stuck
  | _ + 1 => ar_run
theorem fd__law_same (T : Hv fa fn csX ysX cvX gtX dfX tfX xsX K mg) : ∃ fd, FunD (gK K).K "_law_same" "_law_same" (defArgs s__law_same) (defBody s__law_same) (defScope s__law_same) [] [] (He.ga K "_law_same") fd := T.def_ 33
theorem fg__law_same (T : Hv fa fn csX ysX cvX gtX dfX tfX xsX K mg) : ∀ k : Nat, FnG P w (gK K) mg base (0 + k) "_law_same" s__law_same ["found", "due"] [] (f__law_same k)
  | 0 => fg_stuck (T.glo 28) (fd__law_same T)
  | k + 1 => by
    have FG : FnG P w (gK K) mg base (0 + k) "_law_same" s__law_same ["found", "due"] [] (f__law_same k) := fg__law_same T k
    have AR := ar__law_same k
    refine fg_of (T.glo 28) (fd__law_same T) sc__law_same (fun cdv A outer s H E hr => ?_)
    have nd := sc__law_same.nd
    have tk := tk_of (P := P) (w := w) (K := (gK K).K) (mg := mg) (base := base) (N := ["found", "due", "a", "b"]) (qual := "_law_same") (scope := defScope s__law_same) (f := He.ga K "_law_same") (cdv := cdv) (A := A) (outer := outer) (s := s) (H := H) (E := E)
    have hu := hu64 hr
    have hu5 := hu65 hr
    exact (gss_cons (gs_if (PW.pt (gw_or (gt_cmp opIs (ge_var (pv 1)) (ge_c pe_non) (nomark _)) (gw_or1 (gt_cmp opIs (ge_var (pv 0)) (ge_c pe_non) (nomark _))))) (gss_one (gs_ret (ge_and (ge_cmp opIs (ge_var (pv 1)) (ge_c pe_non) (nomark _)) (ge_one (ge_cmp opIs (ge_var (pv 0)) (ge_c pe_non) (nomark _)))))) gss_nil)
    (gss_cons (gs_if (gt_val (ge_callB (cIsi ⟨rfl⟩) rfl (T.free 3) (by decide +kernel) (ga_cons (ge_var (pv 1)) (ga_cons (ge_tup (ga_cons (ge_ty .lst (T.free 21) rfl (by decide +kernel)) (ga_cons (ge_ty .tup (T.free 7) rfl (by decide +kernel)) ga_nil))) ga_nil)))) (gss_cons (gs_if (PW.pt (gw_or (gt_cmp (opNe ⟨rfl⟩ hu) (ge_callB (cIsi ⟨rfl⟩) rfl (T.free 3) (by decide +kernel) (ga_cons (ge_var (pv 0)) (ga_cons (ge_ty .lst (T.free 21) rfl (by decide +kernel)) ga_nil))) (ge_callB (cIsi ⟨rfl⟩) rfl (T.free 3) (by decide +kernel) (ga_cons (ge_var (pv 1)) (ga_cons (ge_ty .lst (T.free 21) rfl (by decide +kernel)) ga_nil))) (nomark _)) (gw_or1 (gt_cmp (opNe ⟨rfl⟩ hu) (ge_callB (cIsi ⟨rfl⟩) rfl (T.free 3) (by decide +kernel) (ga_cons (ge_var (pv 0)) (ga_cons (ge_ty .tup (T.free 7) rfl (by decide +kernel)) ga_nil))) (ge_callB (cIsi ⟨rfl⟩) rfl (T.free 3) (by decide +kernel) (ga_cons (ge_var (pv 1)) (ga_cons (ge_ty .tup (T.free 7) rfl (by decide +kernel)) ga_nil))) (nomark _))))) (gss_one (gs_ret (ge_c pe_bl))) gss_nil)
    (gss_one (gs_ret (ge_and (ge_cmp (opEq ⟨rfl⟩ hu) (ge_callB (cLen ⟨rfl⟩) rfl (T.free 8) (by decide +kernel) (ga_cons (ge_var (pv 0)) ga_nil)) (ge_callB (cLen ⟨rfl⟩) rfl (T.free 8) (by decide +kernel) (ga_cons (ge_var (pv 1)) ga_nil)) (nomark _)) (ge_one (ge_callB (cAll ⟨rfl⟩ rfl) rfl (T.free 26) (by decide +kernel) (ga_cons (ge_lc (own := [("a", 2), ("b", 3)]) (N := ["found", "due", "a", "b"]) (sc := defScope s__law_same) rfl nd (gi_zip ⟨rfl⟩ rfl (T.free 25) (ga_cons (ge_var (pv 0)) (ga_cons (ge_var (pv 1)) ga_nil))) rfl rfl (by decide +kernel) (fun _ _ _ _ _ => (gg_tup ⟨rfl⟩ rfl (ggs_cons (gg_name (pg_name (i := 2) nd rfl (Or.inl rfl))) (ggs_cons (gg_name (pg_name (i := 3) nd rfl (Or.inl rfl))) ggs_nil)))) (fun _ _ _ _ _ => gts_nil) (fun _ _ _ _ _ => (ge_call FG rfl AR hr rfl takes0 (ga_cons (ge_var (pv 2)) (ga_cons (ge_var (pv 3)) ga_nil)) rfl (fun _ _ _ _ _ _ us hl => match us, hl with | [_, _], _ => rfl)))) ga_nil))))))) gss_nil)
    (gss_cons (gs_if (PW.pt (gw_or (gt_cmp (opNe ⟨rfl⟩ hu) (ge_callB (cIsi ⟨rfl⟩) rfl (T.free 3) (by decide +kernel) (ga_cons (ge_var (pv 1)) (ga_cons (ge_ty .bl (T.free 4) rfl (by decide +kernel)) ga_nil))) (ge_callB (cIsi ⟨rfl⟩) rfl (T.free 3) (by decide +kernel) (ga_cons (ge_var (pv 0)) (ga_cons (ge_ty .bl (T.free 4) rfl (by decide +kernel)) ga_nil))) (nomark _)) (gw_or1 (gt_cmp (opNe ⟨rfl⟩ hu) (ge_callB (cIsi ⟨rfl⟩) rfl (T.free 3) (by decide +kernel) (ga_cons (ge_var (pv 1)) (ga_cons (ge_ty .int (T.free 2) rfl (by decide +kernel)) ga_nil))) (ge_callB (cIsi ⟨rfl⟩) rfl (T.free 3) (by decide +kernel) (ga_cons (ge_var (pv 0)) (ga_cons (ge_ty .int (T.free 2) rfl (by decide +kernel)) ga_nil))) (nomark _))))) (gss_one (gs_ret (ge_c pe_bl))) gss_nil)
    (gss_one (gs_ret (ge_and (ge_cmp (opEq ⟨rfl⟩ hu) (ge_callB (cIsi ⟨rfl⟩) rfl (T.free 3) (by decide +kernel) (ga_cons (ge_var (pv 1)) (ga_cons (ge_ty .str (T.free 27) rfl (by decide +kernel)) ga_nil))) (ge_callB (cIsi ⟨rfl⟩) rfl (T.free 3) (by decide +kernel) (ga_cons (ge_var (pv 0)) (ga_cons (ge_ty .str (T.free 27) rfl (by decide +kernel)) ga_nil))) (nomark _)) (ge_one (ge_cmp (opEq ⟨rfl⟩ hu) (ge_var (pv 0)) (ge_var (pv 1)) (nomark _)))))))))
theorem sc__law_field : FnScope ["e"] ["e"] (defScope s__law_field) := ⟨rfl, rfl, rfl, by decide +kernel, rfl, by decide +kernel, by decide +kernel⟩
theorem fd__law_field (T : Hv fa fn csX ysX cvX gtX dfX tfX xsX K mg) : ∃ fd, FunD (gK K).K "_law_field" "_law_field" (defArgs s__law_field) (defBody s__law_field) (defScope s__law_field) [] [] (He.ga K "_law_field") fd := T.def_ 34
def b__law_field : DS :=
  (sSeq (sIf (tB' (eBin vIn (eUn (vXf csL "code") (eVar 0)) (eTup (aCons (eC (.str "InvalidName")) (aCons (eC (.str "InvalidNumber")) (aCons (eC (.str "InvalidDirection")) aNil)))))) (sRet (eTup (aCons (eUn (vXf csL "value") (eVar 0)) aNil))) sNop)
    (sSeq (sIf (tB' (eBin vIn (eUn (vXf csL "code") (eVar 0)) (eTup (aCons (eC (.str "InvalidLot")) (aCons (eC (.str "InvalidRow")) (aCons (eC (.str "InvalidPart")) (aCons (eC (.str "InvalidWay")) aNil))))))) (sRet (eTup (aCons (eUn (vXf csL "at") (eVar 0)) aNil))) sNop)
    (sSeq (sIf (tB' (eBin vIn (eUn (vXf csL "code") (eVar 0)) (eTup (aCons (eC (.str "PartsOverlap")) (aCons (eC (.str "PiecesOverlap")) (aCons (eC (.str "Barred")) aNil)))))) (sRet (eTup (aCons (eUn (vXf csL "one") (eVar 0)) (aCons (eUn (vXf csL "other") (eVar 0)) aNil)))) sNop)
    (sSeq (sIf (tB' (eBin vIn (eUn (vXf csL "code") (eVar 0)) (eTup (aCons (eC (.str "DuplicateName")) (aCons (eC (.str "UnknownName")) aNil))))) (sRet (eTup (aCons (eUn (vXf csL "name") (eVar 0)) aNil))) sNop)
    (sRet (eIf (tB' (eBin vIn (eUn (vXf csL "code") (eVar 0)) (eTup (aCons (eC (.str "Pegged")) (aCons (eC (.str "NotFast")) (aCons (eC (.str "Held")) aNil)))))) (eTup (aCons (eUn (vXf csL "peg") (eVar 0)) aNil)) (eTup aNil)))))))
def f__law_field : Fn := runF .fz 1 1 b__law_field
theorem ff__law_field (T : Hv fa fn csX ysX cvX gtX dfX tfX xsX K mg) : ∃ fd, FnF P w (gK K) mg base 1 (He.ga K "_law_field") fd "e" f__law_field ∧ Binds (gK K).K fd ["e"] [] ∧ PySem.W.keepIn (gK K).K (.ref (He.ga K "_law_field")) = true := by
  obtain ⟨fd, F⟩ := fd__law_field T
  refine ⟨fd, fnF_ok (N := ["e"]) F sc__law_field (fun cdv A outer s H p d c hr hz hf => ?_), F.bindsN (fun _ _ _ _ _ _ us hl => match us, hl with | [_], _ => rfl), F.kp⟩
  have nd := sc__law_field.nd
  have hu5 : (A.deeper (envOfC "_law_field" (defScope s__law_field) s.heap.objs.size (He.ga K "_law_field") cdv)).units + 65 < cLine := by have := hr.un; omega
  have hu : (A.deeper (envOfC "_law_field" (defScope s__law_field) s.heap.objs.size (He.ga K "_law_field") cdv)).units + 64 < cLine := by omega
  exact (gss_cons (gs_if (gt_cmp (opIn ⟨rfl⟩ hu5) (ge_xf ⟨rfl⟩ rfl (List.mem_singleton.mpr rfl) hz hf (T.xf rfl rfl rfl) (ge_var (pv 0))) (ge_tup (ga_cons (ge_c pe_str) (ga_cons (ge_c pe_str) (ga_cons (ge_c pe_str) ga_nil)))) (by rfl)) (gss_one (gs_ret (ge_tup (ga_cons (ge_xf ⟨rfl⟩ rfl (List.mem_singleton.mpr rfl) hz hf (T.xf rfl rfl rfl) (ge_var (pv 0))) ga_nil)))) gss_nil)
    (gss_cons (gs_if (gt_cmp (opIn ⟨rfl⟩ hu5) (ge_xf ⟨rfl⟩ rfl (List.mem_singleton.mpr rfl) hz hf (T.xf rfl rfl rfl) (ge_var (pv 0))) (ge_tup (ga_cons (ge_c pe_str) (ga_cons (ge_c pe_str) (ga_cons (ge_c pe_str) (ga_cons (ge_c pe_str) ga_nil))))) (by rfl)) (gss_one (gs_ret (ge_tup (ga_cons (ge_xf ⟨rfl⟩ rfl (List.mem_singleton.mpr rfl) hz hf (T.xf rfl rfl rfl) (ge_var (pv 0))) ga_nil)))) gss_nil)
    (gss_cons (gs_if (gt_cmp (opIn ⟨rfl⟩ hu5) (ge_xf ⟨rfl⟩ rfl (List.mem_singleton.mpr rfl) hz hf (T.xf rfl rfl rfl) (ge_var (pv 0))) (ge_tup (ga_cons (ge_c pe_str) (ga_cons (ge_c pe_str) (ga_cons (ge_c pe_str) ga_nil)))) (by rfl)) (gss_one (gs_ret (ge_tup (ga_cons (ge_xf ⟨rfl⟩ rfl (List.mem_singleton.mpr rfl) hz hf (T.xf rfl rfl rfl) (ge_var (pv 0))) (ga_cons (ge_xf ⟨rfl⟩ rfl (List.mem_singleton.mpr rfl) hz hf (T.xf rfl rfl rfl) (ge_var (pv 0))) ga_nil))))) gss_nil)
    (gss_cons (gs_if (gt_cmp (opIn ⟨rfl⟩ hu5) (ge_xf ⟨rfl⟩ rfl (List.mem_singleton.mpr rfl) hz hf (T.xf rfl rfl rfl) (ge_var (pv 0))) (ge_tup (ga_cons (ge_c pe_str) (ga_cons (ge_c pe_str) ga_nil))) (by rfl)) (gss_one (gs_ret (ge_tup (ga_cons (ge_xf ⟨rfl⟩ rfl (List.mem_singleton.mpr rfl) hz hf (T.xf rfl rfl rfl) (ge_var (pv 0))) ga_nil)))) gss_nil)
    (gss_one (gs_ret (ge_ifExp (gt_cmp (opIn ⟨rfl⟩ hu5) (ge_xf ⟨rfl⟩ rfl (List.mem_singleton.mpr rfl) hz hf (T.xf rfl rfl rfl) (ge_var (pv 0))) (ge_tup (ga_cons (ge_c pe_str) (ga_cons (ge_c pe_str) (ga_cons (ge_c pe_str) ga_nil)))) (by rfl)) (ge_tup (ga_cons (ge_xf ⟨rfl⟩ rfl (List.mem_singleton.mpr rfl) hz hf (T.xf rfl rfl rfl) (ge_var (pv 0))) ga_nil)) (ge_tup ga_nil))))))))
theorem sc__law_try : FnScope ["ask", "e"] ["ask"] (defScope s__law_try) := ⟨rfl, rfl, rfl, by decide +kernel, rfl, by decide +kernel, by decide +kernel⟩
theorem fd__law_try (T : Hv fa fn csX ysX cvX gtX dfX tfX xsX K mg) : ∃ fd, FunD (gK K).K "_law_try" "_law_try" (defArgs s__law_try) (defBody s__law_try) (defScope s__law_try) [] [] (He.ga K "_law_try") fd := T.def_ 35
def sb__law_try : List Stmt := match defBody s__law_try with
  | [.Try _ [.ExceptHandler _ _ b _] _ _ _] => b
  | _ => []
def fs__law_try : DS :=
  (sRet (eTup (aCons (eUn (vXf csL "code") (eVar 1)) (aCons (eCallF f__law_field (eVar 1)) aNil))))
theorem hs__law_try {P : Program} {w : World} {K : PySem.W.Frag} {mg : Str → Option Value} {base : Heap} (T : Hv fa fn csX ysX cvX gtX dfX tfX xsX K mg) {k : Nat} (hk : 1 ≤ k + 1) (cdv : Value) (A : Around) (outer : List Env) (s : Shared) (H : Hp) (e d : Addr) (c : Nat) (oe : Obj) (pn : List (Addr × Obj)) (hr : Room (k + 1) (A.deeper (envOfC "_law_try" (defScope s__law_try) s.heap.objs.size (He.ga K "_law_try") cdv))) (hz : Zc (.ref ((gK K).cls c)) (some d) oe) (hf : ∃ vs, oe.data = .fields vs) :
    GSs (gX (gK K) e d c) (WF SD.E0) ((cxOf C8.CX0 P w (gK K).K mg base ["ask", "e"] "_law_try" (defScope s__law_try) (He.ga K "_law_try") cdv A outer s H C8.E0).suite e ((e, oe) :: pn)) (sb__law_try) fs__law_try := by
  obtain ⟨fdF, FF, bnF, kpF⟩ := ff__law_field (P := P) (w := w) (base := base) T
  have nd := sc__law_try.nd
  have hr : Room 1 (A.deeper (envOfC "_law_try" (defScope s__law_try) s.heap.objs.size (He.ga K "_law_try") cdv)) := hr.mono hk
  have hu : (A.deeper (envOfC "_law_try" (defScope s__law_try) s.heap.objs.size (He.ga K "_law_try") cdv)).units + 64 < cLine := hu64 hr
  have hu5 : (A.deeper (envOfC "_law_try" (defScope s__law_try) s.heap.objs.size (He.ga K "_law_try") cdv)).units + 65 < cLine := hu65 hr
  exact (gss_one (gs_ret (ge_tup (ga_cons (ge_xf ⟨rfl⟩ rfl (List.mem_cons_self ..) hz hf (T.xf rfl rfl rfl) (ge_var (pv 1))) (ga_cons (ge_callF FF rfl ⟨hr.dp, hr.un⟩ (List.mem_cons_self ..) hz hf rfl (T.glo 29) kpF bnF (ge_var (pv 1))) ga_nil)))))
theorem sc__law_cross : FnScope ["p", "q"] ["p", "q"] (defScope s__law_cross) := ⟨rfl, rfl, rfl, by decide +kernel, rfl, by decide +kernel, by decide +kernel⟩
def b__law_cross : DS :=
  (sRet (eBin vSub (eBin vMul (eBin vIx (eVar 0) (eC (.int 0))) (eBin vIx (eVar 1) (eC (.int 1)))) (eBin vMul (eBin vIx (eVar 0) (eC (.int 1))) (eBin vIx (eVar 1) (eC (.int 0))))))
def f__law_cross : Fn := runF .fz 2 2 b__law_cross
theorem ar__law_cross : Ar f__law_cross 2 := ar_run
theorem fd__law_cross (T : Hv fa fn csX ysX cvX gtX dfX tfX xsX K mg) : ∃ fd, FunD (gK K).K "_law_cross" "_law_cross" (defArgs s__law_cross) (defBody s__law_cross) (defScope s__law_cross) [] [] (He.ga K "_law_cross") fd := T.def_ 36
theorem fb__law_cross (T : Hv fa fn csX ysX cvX gtX dfX tfX xsX K mg) (cdv : Value) (A : Around) (outer : List Env) (s : Shared) (H : Hp) (E : XK) (hr : Room 0 (A.deeper (envOfC "_law_cross" (defScope s__law_cross) s.heap.objs.size (He.ga K "_law_cross") cdv))) : GSs (gK K) (WF E) (cxOf (L2.CX P w) P w (gK K).K mg base ["p", "q"] "_law_cross" (defScope s__law_cross) (He.ga K "_law_cross") cdv A outer s H E) (defBody s__law_cross) b__law_cross := by
  have nd := sc__law_cross.nd
  have tk := tk_of (P := P) (w := w) (K := (gK K).K) (mg := mg) (base := base) (N := ["p", "q"]) (qual := "_law_cross") (scope := defScope s__law_cross) (f := He.ga K "_law_cross") (cdv := cdv) (A := A) (outer := outer) (s := s) (H := H) (E := E)
  have hu := hu64 hr
  have hu5 := hu65 hr
  exact (gss_one (gs_ret (ge_bin opSub (ge_bin opMul (ge_ix (ixAny ⟨rfl⟩) (ge_var (pv 0)) (ge_c pe_int)) (ge_ix (ixAny ⟨rfl⟩) (ge_var (pv 1)) (ge_c pe_int))) (ge_bin opMul (ge_ix (ixAny ⟨rfl⟩) (ge_var (pv 0)) (ge_c pe_int)) (ge_ix (ixAny ⟨rfl⟩) (ge_var (pv 1)) (ge_c pe_int))))))
theorem fg__law_cross (T : Hv fa fn csX ysX cvX gtX dfX tfX xsX K mg) : FnG P w (gK K) mg base 1 "_law_cross" s__law_cross ["p", "q"] [] f__law_cross := fg_of (T.glo 30) (fd__law_cross T) sc__law_cross (fb__law_cross T)
theorem sc__law_half : FnScope ["d"] ["d"] (defScope s__law_half) := ⟨rfl, rfl, rfl, by decide +kernel, rfl, by decide +kernel, by decide +kernel⟩
def b__law_half : DS :=
  (sRet (eTup (aCons (eBin vSub (eC (.int 0)) (eBin vIx (eVar 0) (eC (.int 0)))) (aCons (eBin vSub (eC (.int 0)) (eBin vIx (eVar 0) (eC (.int 1)))) aNil))))
def f__law_half : Fn := runF .fz 1 1 b__law_half
theorem ar__law_half : Ar f__law_half 1 := ar_run
theorem fd__law_half (T : Hv fa fn csX ysX cvX gtX dfX tfX xsX K mg) : ∃ fd, FunD (gK K).K "_law_half" "_law_half" (defArgs s__law_half) (defBody s__law_half) (defScope s__law_half) [] [] (He.ga K "_law_half") fd := T.def_ 37
theorem fb__law_half (T : Hv fa fn csX ysX cvX gtX dfX tfX xsX K mg) (cdv : Value) (A : Around) (outer : List Env) (s : Shared) (H : Hp) (E : XK) (hr : Room 0 (A.deeper (envOfC "_law_half" (defScope s__law_half) s.heap.objs.size (He.ga K "_law_half") cdv))) : GSs (gK K) (WF E) (cxOf (L2.CX P w) P w (gK K).K mg base ["d"] "_law_half" (defScope s__law_half) (He.ga K "_law_half") cdv A outer s H E) (defBody s__law_half) b__law_half := by
  have nd := sc__law_half.nd
  have tk := tk_of (P := P) (w := w) (K := (gK K).K) (mg := mg) (base := base) (N := ["d"]) (qual := "_law_half") (scope := defScope s__law_half) (f := He.ga K "_law_half") (cdv := cdv) (A := A) (outer := outer) (s := s) (H := H) (E := E)
  have hu := hu64 hr
  have hu5 := hu65 hr
  exact (gss_one (gs_ret (ge_tup (ga_cons (ge_bin opSub (ge_c pe_int) (ge_ix (ixAny ⟨rfl⟩) (ge_var (pv 0)) (ge_c pe_int))) (ga_cons (ge_bin opSub (ge_c pe_int) (ge_ix (ixAny ⟨rfl⟩) (ge_var (pv 0)) (ge_c pe_int))) ga_nil)))))
theorem fg__law_half (T : Hv fa fn csX ysX cvX gtX dfX tfX xsX K mg) : FnG P w (gK K) mg base 1 "_law_half" s__law_half ["d"] [] f__law_half := fg_of (T.glo 31) (fd__law_half T) sc__law_half (fb__law_half T)
theorem sc__law_reduced : FnScope ["v", "a", "b"] ["v"] (defScope s__law_reduced) := ⟨rfl, rfl, rfl, by decide +kernel, rfl, by decide +kernel, by decide +kernel⟩
def b__law_reduced : DS :=
  (sSeq (sPar 1 2 (aCons (eFn vAbs (aCons (eBin vIx (eVar 0) (eC (.int 0))) aNil)) (aCons (eFn vAbs (aCons (eBin vIx (eVar 0) (eC (.int 1))) aNil)) aNil)))
    (sSeq (sWhile (fun _ _ => 4096) (tB' (eBin vNe (eVar 2) (eC (.int 0)))) (sPar 1 2 (aCons (eVar 2) (aCons (eBin vMod (eFn vInt (aCons (eVar 1) aNil)) (eVar 2)) aNil))))
    (sRet (eTup (aCons (eBin vDiv (eBin vIx (eVar 0) (eC (.int 0))) (eVar 1)) (aCons (eBin vDiv (eBin vIx (eVar 0) (eC (.int 1))) (eVar 1)) aNil))))))
def f__law_reduced : Fn := runF .fz 1 3 b__law_reduced
theorem ar__law_reduced : Ar f__law_reduced 1 := ar_run
theorem fd__law_reduced (T : Hv fa fn csX ysX cvX gtX dfX tfX xsX K mg) : ∃ fd, FunD (gK K).K "_law_reduced" "_law_reduced" (defArgs s__law_reduced) (defBody s__law_reduced) (defScope s__law_reduced) [] [] (He.ga K "_law_reduced") fd := T.def_ 38
theorem fb__law_reduced (T : Hv fa fn csX ysX cvX gtX dfX tfX xsX K mg) (cdv : Value) (A : Around) (outer : List Env) (s : Shared) (H : Hp) (E : XK) (hr : Room 0 (A.deeper (envOfC "_law_reduced" (defScope s__law_reduced) s.heap.objs.size (He.ga K "_law_reduced") cdv))) : GSs (gK K) (WF E) (cxOf (L2.CX P w) P w (gK K).K mg base ["v", "a", "b"] "_law_reduced" (defScope s__law_reduced) (He.ga K "_law_reduced") cdv A outer s H E) (defBody s__law_reduced) b__law_reduced := by
  have nd := sc__law_reduced.nd
  have tk := tk_of (P := P) (w := w) (K := (gK K).K) (mg := mg) (base := base) (N := ["v", "a", "b"]) (qual := "_law_reduced") (scope := defScope s__law_reduced) (f := He.ga K "_law_reduced") (cdv := cdv) (A := A) (outer := outer) (s := s) (H := H) (E := E)
  have hu := hu64 hr
  have hu5 := hu65 hr
  exact (gss_cons (gs_par (i := 1) (j := 2) rfl nd rfl rfl (by decide) rfl rfl (ga_cons (ge_callB cAbs rfl (T.free 10) (by decide +kernel) (ga_cons (ge_ix (ixAny ⟨rfl⟩) (ge_var (pv 0)) (ge_c pe_int)) ga_nil)) (ga_cons (ge_callB cAbs rfl (T.free 10) (by decide +kernel) (ga_cons (ge_ix (ixAny ⟨rfl⟩) (ge_var (pv 0)) (ge_c pe_int)) ga_nil)) ga_nil)))
    (gss_cons (gs_while po_of (gt_cmp (opNe ⟨rfl⟩ hu) (ge_var (pv 2)) (ge_c pe_int) (nomark _)) (gss_one (gs_par (i := 1) (j := 2) rfl nd rfl rfl (by decide) rfl rfl (ga_cons (ge_var (pv 2)) (ga_cons (ge_bin opMod (ge_callTy cInt rfl (T.free 2) (by decide +kernel) (ga_cons (ge_var (pv 1)) ga_nil)) (ge_var (pv 2))) ga_nil)))))
    (gss_one (gs_ret (ge_tup (ga_cons (ge_bin opDiv (ge_ix (ixAny ⟨rfl⟩) (ge_var (pv 0)) (ge_c pe_int)) (ge_var (pv 1))) (ga_cons (ge_bin opDiv (ge_ix (ixAny ⟨rfl⟩) (ge_var (pv 0)) (ge_c pe_int)) (ge_var (pv 1))) ga_nil)))))))
theorem fg__law_reduced (T : Hv fa fn csX ysX cvX gtX dfX tfX xsX K mg) : FnG P w (gK K) mg base 1 "_law_reduced" s__law_reduced ["v"] [] f__law_reduced := fg_of (T.glo 32) (fd__law_reduced T) sc__law_reduced (fb__law_reduced T)
theorem sc__law_ahead : FnScope ["d", "e", "low", "high"] ["d", "e"] (defScope s__law_ahead) := ⟨rfl, rfl, rfl, by decide +kernel, rfl, by decide +kernel, by decide +kernel⟩
def b__law_ahead : DS :=
  (sSeq (sPar 2 3 (aCons (eFn vInt (aCons (eOr (eBin vLt (eBin vIx (eVar 0) (eC (.int 1))) (eC (.int 0))) (eAnd (eBin vEq (eBin vIx (eVar 0) (eC (.int 1))) (eC (.int 0))) (eBin vLt (eBin vIx (eVar 0) (eC (.int 0))) (eC (.int 0))))) aNil)) (aCons (eFn vInt (aCons (eOr (eBin vLt (eBin vIx (eVar 1) (eC (.int 1))) (eC (.int 0))) (eAnd (eBin vEq (eBin vIx (eVar 1) (eC (.int 1))) (eC (.int 0))) (eBin vLt (eBin vIx (eVar 1) (eC (.int 0))) (eC (.int 0))))) aNil)) aNil)))
    (sRet (eOr (eBin vLt (eVar 2) (eVar 3)) (eAnd (eBin vEq (eVar 2) (eVar 3)) (eBin vGt (eCall f__law_cross (aCons (eVar 0) (aCons (eVar 1) aNil))) (eC (.int 0)))))))
def f__law_ahead : Fn := runF .fz 2 4 b__law_ahead
theorem ar__law_ahead : Ar f__law_ahead 2 := ar_run
theorem fd__law_ahead (T : Hv fa fn csX ysX cvX gtX dfX tfX xsX K mg) : ∃ fd, FunD (gK K).K "_law_ahead" "_law_ahead" (defArgs s__law_ahead) (defBody s__law_ahead) (defScope s__law_ahead) [] [] (He.ga K "_law_ahead") fd := T.def_ 39
theorem fb__law_ahead (T : Hv fa fn csX ysX cvX gtX dfX tfX xsX K mg) (cdv : Value) (A : Around) (outer : List Env) (s : Shared) (H : Hp) (E : XK) (hr : Room 1 (A.deeper (envOfC "_law_ahead" (defScope s__law_ahead) s.heap.objs.size (He.ga K "_law_ahead") cdv))) : GSs (gK K) (WF E) (cxOf (L2.CX P w) P w (gK K).K mg base ["d", "e", "low", "high"] "_law_ahead" (defScope s__law_ahead) (He.ga K "_law_ahead") cdv A outer s H E) (defBody s__law_ahead) b__law_ahead := by
  have nd := sc__law_ahead.nd
  have tk := tk_of (P := P) (w := w) (K := (gK K).K) (mg := mg) (base := base) (N := ["d", "e", "low", "high"]) (qual := "_law_ahead") (scope := defScope s__law_ahead) (f := He.ga K "_law_ahead") (cdv := cdv) (A := A) (outer := outer) (s := s) (H := H) (E := E)
  have hu := hu64 hr
  have hu5 := hu65 hr
  exact (gss_cons (gs_par (i := 2) (j := 3) rfl nd rfl rfl (by decide) rfl rfl (ga_cons (ge_callTy cInt rfl (T.free 2) (by decide +kernel) (ga_cons (ge_or (ge_cmp opLt (ge_ix (ixAny ⟨rfl⟩) (ge_var (pv 0)) (ge_c pe_int)) (ge_c pe_int) (nomark _)) (ge_one (ge_and (ge_cmp (opEq ⟨rfl⟩ hu) (ge_ix (ixAny ⟨rfl⟩) (ge_var (pv 0)) (ge_c pe_int)) (ge_c pe_int) (nomark _)) (ge_one (ge_cmp opLt (ge_ix (ixAny ⟨rfl⟩) (ge_var (pv 0)) (ge_c pe_int)) (ge_c pe_int) (nomark _)))))) ga_nil)) (ga_cons (ge_callTy cInt rfl (T.free 2) (by decide +kernel) (ga_cons (ge_or (ge_cmp opLt (ge_ix (ixAny ⟨rfl⟩) (ge_var (pv 1)) (ge_c pe_int)) (ge_c pe_int) (nomark _)) (ge_one (ge_and (ge_cmp (opEq ⟨rfl⟩ hu) (ge_ix (ixAny ⟨rfl⟩) (ge_var (pv 1)) (ge_c pe_int)) (ge_c pe_int) (nomark _)) (ge_one (ge_cmp opLt (ge_ix (ixAny ⟨rfl⟩) (ge_var (pv 1)) (ge_c pe_int)) (ge_c pe_int) (nomark _)))))) ga_nil)) ga_nil)))
    (gss_one (gs_ret (ge_or (ge_cmp opLt (ge_var (pv 2)) (ge_var (pv 3)) (nomark _)) (ge_one (ge_and (ge_cmp (opEq ⟨rfl⟩ hu) (ge_var (pv 2)) (ge_var (pv 3)) (nomark _)) (ge_one (ge_cmp opGt (ge_call (fg__law_cross T) rfl ar__law_cross (hr.mono (by decide)) rfl tk (ga_cons (ge_var (pv 0)) (ga_cons (ge_var (pv 1)) ga_nil)) rfl (fun _ _ _ _ _ _ us hl => match us, hl with | [_, _], _ => rfl)) (ge_c pe_int) (nomark _)))))))))
theorem fg__law_ahead (T : Hv fa fn csX ysX cvX gtX dfX tfX xsX K mg) : FnG P w (gK K) mg base 2 "_law_ahead" s__law_ahead ["d", "e"] [] f__law_ahead := fg_of (T.glo 33) (fd__law_ahead T) sc__law_ahead (fb__law_ahead T)
theorem sc__law_round : FnScope ["dirs", "found", "d", "at", "e"] ["dirs"] (defScope s__law_round) := ⟨rfl, rfl, rfl, by decide +kernel, rfl, by decide +kernel, by decide +kernel⟩
def b__law_round : DS :=
  (sSeq (sAsg (eLst aNil) (gN 1))
    (sSeq (sFor (iSeq (eVar 0)) (gN 2) (sSeq (sAsg (eFn vLen (aCons (eLc (iSeq (eVar 1)) (gN 4) (tB' (eCall f__law_ahead (aCons (eVar 4) (aCons (eVar 2) aNil)))) (eVar 4) [4]) aNil)) (gN 3))
    (sIf (tOr' (tB' (eBin vEq (eVar 3) (eFn vLen (aCons (eVar 1) aNil)))) (tB' (eBin vNe (eBin vIx (eVar 1) (eVar 3)) (eVar 2)))) (sAsg (eBin vAdd (eBin vAdd (eSl vSlc (eVar 1) oNone (oSome (eVar 3))) (eLst (aCons (eVar 2) aNil))) (eSl vSlc (eVar 1) (oSome (eVar 3)) oNone)) (gN 1)) sNop)))
    (sRet (eVar 1))))
def f__law_round : Fn := runF .fz 1 5 b__law_round
theorem ar__law_round : Ar f__law_round 1 := ar_run
theorem fd__law_round (T : Hv fa fn csX ysX cvX gtX dfX tfX xsX K mg) : ∃ fd, FunD (gK K).K "_law_round" "_law_round" (defArgs s__law_round) (defBody s__law_round) (defScope s__law_round) [] [] (He.ga K "_law_round") fd := T.def_ 40
theorem fb__law_round (T : Hv fa fn csX ysX cvX gtX dfX tfX xsX K mg) (cdv : Value) (A : Around) (outer : List Env) (s : Shared) (H : Hp) (E : XK) (hr : Room 2 (A.deeper (envOfC "_law_round" (defScope s__law_round) s.heap.objs.size (He.ga K "_law_round") cdv))) : GSs (gK K) (WF E) (cxOf (L2.CX P w) P w (gK K).K mg base ["dirs", "found", "d", "at", "e"] "_law_round" (defScope s__law_round) (He.ga K "_law_round") cdv A outer s H E) (defBody s__law_round) b__law_round := by
  have nd := sc__law_round.nd
  have tk := tk_of (P := P) (w := w) (K := (gK K).K) (mg := mg) (base := base) (N := ["dirs", "found", "d", "at", "e"]) (qual := "_law_round") (scope := defScope s__law_round) (f := He.ga K "_law_round") (cdv := cdv) (A := A) (outer := outer) (s := s) (H := H) (E := E)
  have hu := hu64 hr
  have hu5 := hu65 hr
  exact (gss_cons (gs_asg (ge_lst ga_nil) (gg_name (pg_name (i := 1) nd rfl (Or.inl rfl))))
    (gss_cons (gs_for po_of rfl (gi_seq ⟨rfl⟩ (ge_var (pv 0))) (gg_name (pg_name (i := 2) nd rfl (Or.inr rfl))) (gss_cons (gs_asg (ge_callB (cLen ⟨rfl⟩) rfl (T.free 8) (by decide +kernel) (ga_cons (ge_lc (own := [("e", 4)]) (N := ["dirs", "found", "d", "at", "e"]) (sc := defScope s__law_round) rfl nd (gi_seq ⟨rfl⟩ (ge_var (pv 1))) rfl rfl (by decide +kernel) (fun _ _ _ _ _ => (gg_name (pg_name (i := 4) nd rfl (Or.inl rfl)))) (fun _ _ _ _ _ => (gts_one (gt_val (ge_call (fg__law_ahead T) rfl ar__law_ahead (hr.mono (by decide)) rfl takes0 (ga_cons (ge_var (pv 4)) (ga_cons (ge_var (pv 2)) ga_nil)) rfl (fun _ _ _ _ _ _ us hl => match us, hl with | [_, _], _ => rfl))))) (fun _ _ _ _ _ => (ge_var (pv 4)))) ga_nil)) (gg_name (pg_name (i := 3) nd rfl (Or.inl rfl))))
    (gss_one (gs_if (PW.pt (gw_or (gt_cmp (opEq ⟨rfl⟩ hu) (ge_var (pv 3)) (ge_callB (cLen ⟨rfl⟩) rfl (T.free 8) (by decide +kernel) (ga_cons (ge_var (pv 1)) ga_nil)) (nomark _)) (gw_or1 (gt_cmp (opNe ⟨rfl⟩ hu) (ge_ix (ixAny ⟨rfl⟩) (ge_var (pv 1)) (ge_var (pv 3))) (ge_var (pv 2)) (nomark _))))) (gss_one (gs_asg (ge_bin (opAdd ⟨rfl⟩) (ge_bin (opAdd ⟨rfl⟩) (ge_slice (slAny ⟨rfl⟩) (ge_var (pv 1)) go_none (go_some (ge_var (pv 3)))) (ge_lst (ga_cons (ge_var (pv 2)) ga_nil))) (ge_slice (slAny ⟨rfl⟩) (ge_var (pv 1)) (go_some (ge_var (pv 3))) go_none)) (gg_name (pg_name (i := 1) nd rfl (Or.inl rfl))))) gss_nil))))
    (gss_one (gs_ret (ge_var (pv 1))))))
theorem fg__law_round (T : Hv fa fn csX ysX cvX gtX dfX tfX xsX K mg) : FnG P w (gK K) mg base 3 "_law_round" s__law_round ["dirs"] [] f__law_round := fg_of (T.glo 34) (fd__law_round T) sc__law_round (fb__law_round T)
theorem sc__law_mid : FnScope ["d", "e", "turn"] ["d", "e"] (defScope s__law_mid) := ⟨rfl, rfl, rfl, by decide +kernel, rfl, by decide +kernel, by decide +kernel⟩
def b__law_mid : DS :=
  (sSeq (sAsg (eCall f__law_cross (aCons (eVar 0) (aCons (eVar 1) aNil))) (gN 2))
    (sSeq (sIf (tB' (eBin vGt (eVar 2) (eC (.int 0)))) (sRet (eCall f__law_reduced (aCons (eTup (aCons (eBin vAdd (eBin vIx (eVar 0) (eC (.int 0))) (eBin vIx (eVar 1) (eC (.int 0)))) (aCons (eBin vAdd (eBin vIx (eVar 0) (eC (.int 1))) (eBin vIx (eVar 1) (eC (.int 1)))) aNil))) aNil))) sNop)
    (sSeq (sIf (tB' (eBin vLt (eVar 2) (eC (.int 0)))) (sRet (eCall f__law_reduced (aCons (eTup (aCons (eBin vSub (eBin vSub (eC (.int 0)) (eBin vIx (eVar 0) (eC (.int 0)))) (eBin vIx (eVar 1) (eC (.int 0)))) (aCons (eBin vSub (eBin vSub (eC (.int 0)) (eBin vIx (eVar 0) (eC (.int 1)))) (eBin vIx (eVar 1) (eC (.int 1)))) aNil))) aNil))) sNop)
    (sRet (eIf (tB' (eBin vEq (eVar 0) (eVar 1))) (eCall f__law_half (aCons (eVar 0) aNil)) (eTup (aCons (eBin vSub (eC (.int 0)) (eBin vIx (eVar 0) (eC (.int 1)))) (aCons (eBin vIx (eVar 0) (eC (.int 0))) aNil))))))))
def f__law_mid : Fn := runF .fz 2 3 b__law_mid
theorem ar__law_mid : Ar f__law_mid 2 := ar_run
theorem fd__law_mid (T : Hv fa fn csX ysX cvX gtX dfX tfX xsX K mg) : ∃ fd, FunD (gK K).K "_law_mid" "_law_mid" (defArgs s__law_mid) (defBody s__law_mid) (defScope s__law_mid) [] [] (He.ga K "_law_mid") fd := T.def_ 41
theorem fb__law_mid (T : Hv fa fn csX ysX cvX gtX dfX tfX xsX K mg) (cdv : Value) (A : Around) (outer : List Env) (s : Shared) (H : Hp) (E : XK) (hr : Room 1 (A.deeper (envOfC "_law_mid" (defScope s__law_mid) s.heap.objs.size (He.ga K "_law_mid") cdv))) : GSs (gK K) (WF E) (cxOf (L2.CX P w) P w (gK K).K mg base ["d", "e", "turn"] "_law_mid" (defScope s__law_mid) (He.ga K "_law_mid") cdv A outer s H E) (defBody s__law_mid) b__law_mid := by
  have nd := sc__law_mid.nd
  have tk := tk_of (P := P) (w := w) (K := (gK K).K) (mg := mg) (base := base) (N := ["d", "e", "turn"]) (qual := "_law_mid") (scope := defScope s__law_mid) (f := He.ga K "_law_mid") (cdv := cdv) (A := A) (outer := outer) (s := s) (H := H) (E := E)
  have hu := hu64 hr
  have hu5 := hu65 hr
  exact (gss_cons (gs_asg (ge_call (fg__law_cross T) rfl ar__law_cross (hr.mono (by decide)) rfl tk (ga_cons (ge_var (pv 0)) (ga_cons (ge_var (pv 1)) ga_nil)) rfl (fun _ _ _ _ _ _ us hl => match us, hl with | [_, _], _ => rfl)) (gg_name (pg_name (i := 2) nd rfl (Or.inl rfl))))
    (gss_cons (gs_if (gt_cmp opGt (ge_var (pv 2)) (ge_c pe_int) (nomark _)) (gss_one (gs_ret (ge_call (fg__law_reduced T) rfl ar__law_reduced (hr.mono (by decide)) rfl tk (ga_cons (ge_tup (ga_cons (ge_bin (opAdd ⟨rfl⟩) (ge_ix (ixAny ⟨rfl⟩) (ge_var (pv 0)) (ge_c pe_int)) (ge_ix (ixAny ⟨rfl⟩) (ge_var (pv 1)) (ge_c pe_int))) (ga_cons (ge_bin (opAdd ⟨rfl⟩) (ge_ix (ixAny ⟨rfl⟩) (ge_var (pv 0)) (ge_c pe_int)) (ge_ix (ixAny ⟨rfl⟩) (ge_var (pv 1)) (ge_c pe_int))) ga_nil))) ga_nil) rfl (fun _ _ _ _ _ _ us hl => match us, hl with | [_], _ => rfl)))) gss_nil)
    (gss_cons (gs_if (gt_cmp opLt (ge_var (pv 2)) (ge_c pe_int) (nomark _)) (gss_one (gs_ret (ge_call (fg__law_reduced T) rfl ar__law_reduced (hr.mono (by decide)) rfl tk (ga_cons (ge_tup (ga_cons (ge_bin opSub (ge_bin opSub (ge_c pe_int) (ge_ix (ixAny ⟨rfl⟩) (ge_var (pv 0)) (ge_c pe_int))) (ge_ix (ixAny ⟨rfl⟩) (ge_var (pv 1)) (ge_c pe_int))) (ga_cons (ge_bin opSub (ge_bin opSub (ge_c pe_int) (ge_ix (ixAny ⟨rfl⟩) (ge_var (pv 0)) (ge_c pe_int))) (ge_ix (ixAny ⟨rfl⟩) (ge_var (pv 1)) (ge_c pe_int))) ga_nil))) ga_nil) rfl (fun _ _ _ _ _ _ us hl => match us, hl with | [_], _ => rfl)))) gss_nil)
    (gss_one (gs_ret (ge_ifExp (gt_cmp (opEq ⟨rfl⟩ hu) (ge_var (pv 0)) (ge_var (pv 1)) (nomark _)) (ge_call (fg__law_half T) rfl ar__law_half (hr.mono (by decide)) rfl tk (ga_cons (ge_var (pv 0)) ga_nil) rfl (fun _ _ _ _ _ _ us hl => match us, hl with | [_], _ => rfl)) (ge_tup (ga_cons (ge_bin opSub (ge_c pe_int) (ge_ix (ixAny ⟨rfl⟩) (ge_var (pv 0)) (ge_c pe_int))) (ga_cons (ge_ix (ixAny ⟨rfl⟩) (ge_var (pv 0)) (ge_c pe_int)) ga_nil)))))))))
theorem fg__law_mid (T : Hv fa fn csX ysX cvX gtX dfX tfX xsX K mg) : FnG P w (gK K) mg base 2 "_law_mid" s__law_mid ["d", "e"] [] f__law_mid := fg_of (T.glo 35) (fd__law_mid T) sc__law_mid (fb__law_mid T)
theorem sc__law_mids : FnScope ["marks", "k"] ["marks"] (defScope s__law_mids) := ⟨rfl, rfl, rfl, by decide +kernel, rfl, by decide +kernel, by decide +kernel⟩
def b__law_mids : DS :=
  (sRet (eLc (iRng1' (aCons (eFn vLen (aCons (eVar 0) aNil)) aNil)) (gN 1) tYes' (eCall f__law_mid (aCons (eBin vIx (eVar 0) (eVar 1)) (aCons (eBin vIx (eVar 0) (eBin vMod (eFn vInt (aCons (eBin vAdd (eVar 1) (eC (.int 1))) aNil)) (eFn vLen (aCons (eVar 0) aNil)))) aNil))) [1]))
def f__law_mids : Fn := runF .fz 1 2 b__law_mids
theorem ar__law_mids : Ar f__law_mids 1 := ar_run
theorem fd__law_mids (T : Hv fa fn csX ysX cvX gtX dfX tfX xsX K mg) : ∃ fd, FunD (gK K).K "_law_mids" "_law_mids" (defArgs s__law_mids) (defBody s__law_mids) (defScope s__law_mids) [] [] (He.ga K "_law_mids") fd := T.def_ 42
theorem fb__law_mids (T : Hv fa fn csX ysX cvX gtX dfX tfX xsX K mg) (cdv : Value) (A : Around) (outer : List Env) (s : Shared) (H : Hp) (E : XK) (hr : Room 2 (A.deeper (envOfC "_law_mids" (defScope s__law_mids) s.heap.objs.size (He.ga K "_law_mids") cdv))) : GSs (gK K) (WF E) (cxOf (L2.CX P w) P w (gK K).K mg base ["marks", "k"] "_law_mids" (defScope s__law_mids) (He.ga K "_law_mids") cdv A outer s H E) (defBody s__law_mids) b__law_mids := by
  have nd := sc__law_mids.nd
  have tk := tk_of (P := P) (w := w) (K := (gK K).K) (mg := mg) (base := base) (N := ["marks", "k"]) (qual := "_law_mids") (scope := defScope s__law_mids) (f := He.ga K "_law_mids") (cdv := cdv) (A := A) (outer := outer) (s := s) (H := H) (E := E)
  have hu := hu64 hr
  have hu5 := hu65 hr
  exact (gss_one (gs_ret (ge_lc (own := [("k", 1)]) (N := ["marks", "k"]) (sc := defScope s__law_mids) rfl nd (gi_rng1 rfl (T.free 36) (ga_cons (ge_callB (cLen ⟨rfl⟩) rfl (T.free 8) (by decide +kernel) (ga_cons (ge_var (pv 0)) ga_nil)) ga_nil)) rfl rfl (by decide +kernel) (fun _ _ _ _ _ => (gg_name (pg_name (i := 1) nd rfl (Or.inl rfl)))) (fun _ _ _ _ _ => gts_nil) (fun _ _ _ _ _ => (ge_call (fg__law_mid T) rfl ar__law_mid (hr.mono (by decide)) rfl takes0 (ga_cons (ge_ix (ixAny ⟨rfl⟩) (ge_var (pv 0)) (ge_var (pv 1))) (ga_cons (ge_ix (ixAny ⟨rfl⟩) (ge_var (pv 0)) (ge_bin opMod (ge_callTy cInt rfl (T.free 2) (by decide +kernel) (ga_cons (ge_bin (opAdd ⟨rfl⟩) (ge_var (pv 1)) (ge_c pe_int)) ga_nil)) (ge_callB (cLen ⟨rfl⟩) rfl (T.free 8) (by decide +kernel) (ga_cons (ge_var (pv 0)) ga_nil)))) ga_nil)) rfl (fun _ _ _ _ _ _ us hl => match us, hl with | [_, _], _ => rfl))))))
theorem fg__law_mids (T : Hv fa fn csX ysX cvX gtX dfX tfX xsX K mg) : FnG P w (gK K) mg base 3 "_law_mids" s__law_mids ["marks"] [] f__law_mids := fg_of (T.glo 37) (fd__law_mids T) sc__law_mids (fb__law_mids T)
theorem sc__law_angle : FnScope ["s", "d", "turn"] ["s", "d"] (defScope s__law_angle) := ⟨rfl, rfl, rfl, by decide +kernel, rfl, by decide +kernel, by decide +kernel⟩
def b__law_angle : DS :=
  (sSeq (sAsg (eCall f__law_cross (aCons (eVar 0) (aCons (eVar 1) aNil))) (gN 2))
    (sSeq (sIf (tB' (eBin vEq (eVar 2) (eC (.int 0)))) (sRet (eIf (tB' (eBin vEq (eVar 0) (eVar 1))) (eC (.int 0)) (eC (.int 2)))) sNop)
    (sRet (eIf (tB' (eBin vGt (eVar 2) (eC (.int 0)))) (eC (.int 1)) (eC (.int 3))))))
def f__law_angle : Fn := runF .fz 2 3 b__law_angle
theorem ar__law_angle : Ar f__law_angle 2 := ar_run
theorem fd__law_angle (T : Hv fa fn csX ysX cvX gtX dfX tfX xsX K mg) : ∃ fd, FunD (gK K).K "_law_angle" "_law_angle" (defArgs s__law_angle) (defBody s__law_angle) (defScope s__law_angle) [] [] (He.ga K "_law_angle") fd := T.def_ 43
theorem fb__law_angle (T : Hv fa fn csX ysX cvX gtX dfX tfX xsX K mg) (cdv : Value) (A : Around) (outer : List Env) (s : Shared) (H : Hp) (E : XK) (hr : Room 1 (A.deeper (envOfC "_law_angle" (defScope s__law_angle) s.heap.objs.size (He.ga K "_law_angle") cdv))) : GSs (gK K) (WF E) (cxOf (L2.CX P w) P w (gK K).K mg base ["s", "d", "turn"] "_law_angle" (defScope s__law_angle) (He.ga K "_law_angle") cdv A outer s H E) (defBody s__law_angle) b__law_angle := by
  have nd := sc__law_angle.nd
  have tk := tk_of (P := P) (w := w) (K := (gK K).K) (mg := mg) (base := base) (N := ["s", "d", "turn"]) (qual := "_law_angle") (scope := defScope s__law_angle) (f := He.ga K "_law_angle") (cdv := cdv) (A := A) (outer := outer) (s := s) (H := H) (E := E)
  have hu := hu64 hr
  have hu5 := hu65 hr
  exact (gss_cons (gs_asg (ge_call (fg__law_cross T) rfl ar__law_cross (hr.mono (by decide)) rfl tk (ga_cons (ge_var (pv 0)) (ga_cons (ge_var (pv 1)) ga_nil)) rfl (fun _ _ _ _ _ _ us hl => match us, hl with | [_, _], _ => rfl)) (gg_name (pg_name (i := 2) nd rfl (Or.inl rfl))))
    (gss_cons (gs_if (gt_cmp (opEq ⟨rfl⟩ hu) (ge_var (pv 2)) (ge_c pe_int) (nomark _)) (gss_one (gs_ret (ge_ifExp (gt_cmp (opEq ⟨rfl⟩ hu) (ge_var (pv 0)) (ge_var (pv 1)) (nomark _)) (ge_c pe_int) (ge_c pe_int)))) gss_nil)
    (gss_one (gs_ret (ge_ifExp (gt_cmp opGt (ge_var (pv 2)) (ge_c pe_int) (nomark _)) (ge_c pe_int) (ge_c pe_int))))))
theorem fg__law_angle (T : Hv fa fn csX ysX cvX gtX dfX tfX xsX K mg) : FnG P w (gK K) mg base 2 "_law_angle" s__law_angle ["s", "d"] [] f__law_angle := fg_of (T.glo 38) (fd__law_angle T) sc__law_angle (fb__law_angle T)
theorem sc__law_within : FnScope ["ends", "d", "s", "t", "a", "b"] ["ends", "d"] (defScope s__law_within) := ⟨rfl, rfl, rfl, by decide +kernel, rfl, by decide +kernel, by decide +kernel⟩
def b__law_within : DS :=
  (sSeq (sIf (tB' (eBin vIs (eVar 0) (eC .non))) (sRet (eC (.bl true))) sNop)
    (sSeq (sAsg (eVar 0) (gTup' (gCons' (gN 2) (gCons' (gN 3) gNil')) 2))
    (sSeq (sIf (tOr' (tB' (eBin vEq (eVar 2) (eVar 3))) (tOr' (tB' (eBin vEq (eVar 1) (eVar 2))) (tB' (eBin vEq (eVar 1) (eVar 3))))) (sRet (eAnd (eBin vEq (eVar 2) (eVar 3)) (eBin vNe (eVar 1) (eVar 2)))) sNop)
    (sSeq (sPar 4 5 (aCons (eCall f__law_angle (aCons (eVar 2) (aCons (eVar 1) aNil))) (aCons (eCall f__law_angle (aCons (eVar 2) (aCons (eVar 3) aNil))) aNil)))
    (sRet (eOr (eBin vLt (eVar 4) (eVar 5)) (eAnd (eBin vEq (eVar 4) (eVar 5)) (eBin vGt (eCall f__law_cross (aCons (eVar 1) (aCons (eVar 3) aNil))) (eC (.int 0))))))))))
def f__law_within : Fn := runF .fz 2 6 b__law_within
theorem ar__law_within : Ar f__law_within 2 := ar_run
theorem fd__law_within (T : Hv fa fn csX ysX cvX gtX dfX tfX xsX K mg) : ∃ fd, FunD (gK K).K "_law_within" "_law_within" (defArgs s__law_within) (defBody s__law_within) (defScope s__law_within) [] [] (He.ga K "_law_within") fd := T.def_ 44
theorem fb__law_within (T : Hv fa fn csX ysX cvX gtX dfX tfX xsX K mg) (cdv : Value) (A : Around) (outer : List Env) (s : Shared) (H : Hp) (E : XK) (hr : Room 2 (A.deeper (envOfC "_law_within" (defScope s__law_within) s.heap.objs.size (He.ga K "_law_within") cdv))) : GSs (gK K) (WF E) (cxOf (L2.CX P w) P w (gK K).K mg base ["ends", "d", "s", "t", "a", "b"] "_law_within" (defScope s__law_within) (He.ga K "_law_within") cdv A outer s H E) (defBody s__law_within) b__law_within := by
  have nd := sc__law_within.nd
  have tk := tk_of (P := P) (w := w) (K := (gK K).K) (mg := mg) (base := base) (N := ["ends", "d", "s", "t", "a", "b"]) (qual := "_law_within") (scope := defScope s__law_within) (f := He.ga K "_law_within") (cdv := cdv) (A := A) (outer := outer) (s := s) (H := H) (E := E)
  have hu := hu64 hr
  have hu5 := hu65 hr
  exact (gss_cons (gs_if (gt_cmp opIs (ge_var (pv 0)) (ge_c pe_non) (nomark _)) (gss_one (gs_ret (ge_c pe_bl))) gss_nil)
    (gss_cons (gs_asg (ge_var (pv 0)) (gg_tup ⟨rfl⟩ rfl (ggs_cons (gg_name (pg_name (i := 2) nd rfl (Or.inl rfl))) (ggs_cons (gg_name (pg_name (i := 3) nd rfl (Or.inl rfl))) ggs_nil))))
    (gss_cons (gs_if (PW.pt (gw_or (gt_cmp (opEq ⟨rfl⟩ hu) (ge_var (pv 2)) (ge_var (pv 3)) (nomark _)) (gw_or (gt_cmp (opEq ⟨rfl⟩ hu) (ge_var (pv 1)) (ge_var (pv 2)) (nomark _)) (gw_or1 (gt_cmp (opEq ⟨rfl⟩ hu) (ge_var (pv 1)) (ge_var (pv 3)) (nomark _)))))) (gss_one (gs_ret (ge_and (ge_cmp (opEq ⟨rfl⟩ hu) (ge_var (pv 2)) (ge_var (pv 3)) (nomark _)) (ge_one (ge_cmp (opNe ⟨rfl⟩ hu) (ge_var (pv 1)) (ge_var (pv 2)) (nomark _)))))) gss_nil)
    (gss_cons (gs_par (i := 4) (j := 5) rfl nd rfl rfl (by decide) rfl rfl (ga_cons (ge_call (fg__law_angle T) rfl ar__law_angle (hr.mono (by decide)) rfl tk (ga_cons (ge_var (pv 2)) (ga_cons (ge_var (pv 1)) ga_nil)) rfl (fun _ _ _ _ _ _ us hl => match us, hl with | [_, _], _ => rfl)) (ga_cons (ge_call (fg__law_angle T) rfl ar__law_angle (hr.mono (by decide)) rfl tk (ga_cons (ge_var (pv 2)) (ga_cons (ge_var (pv 3)) ga_nil)) rfl (fun _ _ _ _ _ _ us hl => match us, hl with | [_, _], _ => rfl)) ga_nil)))
    (gss_one (gs_ret (ge_or (ge_cmp opLt (ge_var (pv 4)) (ge_var (pv 5)) (nomark _)) (ge_one (ge_and (ge_cmp (opEq ⟨rfl⟩ hu) (ge_var (pv 4)) (ge_var (pv 5)) (nomark _)) (ge_one (ge_cmp opGt (ge_call (fg__law_cross T) rfl ar__law_cross (hr.mono (by decide)) rfl tk (ga_cons (ge_var (pv 1)) (ga_cons (ge_var (pv 3)) ga_nil)) rfl (fun _ _ _ _ _ _ us hl => match us, hl with | [_, _], _ => rfl)) (ge_c pe_int) (nomark _))))))))))))
theorem fg__law_within (T : Hv fa fn csX ysX cvX gtX dfX tfX xsX K mg) : FnG P w (gK K) mg base 3 "_law_within" s__law_within ["ends", "d"] [] f__law_within := fg_of (T.glo 39) (fd__law_within T) sc__law_within (fb__law_within T)
theorem sc__law_dir : FnScope ["bag", "wide", "some"] ["bag"] (defScope s__law_dir) := ⟨rfl, rfl, rfl, by decide +kernel, rfl, by decide +kernel, by decide +kernel⟩
def b__law_dir : DS :=
  (sSeq (sAsg (eTup (aCons (eBin vSub (eCall f__law_draw (aCons (eVar 0) (aCons (eC (.int 1999)) aNil))) (eC (.int 999))) (aCons (eBin vSub (eCall f__law_draw (aCons (eVar 0) (aCons (eC (.int 1999)) aNil))) (eC (.int 999))) aNil))) (gN 1))
    (sSeq (sAsg (eLst (aCons (eTup (aCons (eC (.int 1)) (aCons (eC (.int 0)) aNil))) (aCons (eTup (aCons (eC (.int 0)) (aCons (eC (.int 1)) aNil))) (aCons (eTup (aCons (eUn vNeg (eC (.int 1))) (aCons (eC (.int 0)) aNil))) (aCons (eTup (aCons (eC (.int 0)) (aCons (eUn vNeg (eC (.int 1))) aNil))) (aCons (eTup (aCons (eC (.int 1)) (aCons (eC (.int 1)) aNil))) (aCons (eTup (aCons (eUn vNeg (eC (.int 1))) (aCons (eC (.int 1)) aNil))) (aCons (eTup (aCons (eUn vNeg (eC (.int 1))) (aCons (eUn vNeg (eC (.int 1))) aNil))) (aCons (eTup (aCons (eC (.int 1)) (aCons (eUn vNeg (eC (.int 1))) aNil))) (aCons (eTup (aCons (eC (.int 2)) (aCons (eC (.int 1)) aNil))) (aCons (eTup (aCons (eUn vNeg (eC (.int 1))) (aCons (eC (.int 2)) aNil))) (aCons (eTup (aCons (eC (.int 1)) (aCons (eUn vNeg (eC (.int 3))) aNil))) (aCons (eTup (aCons (eUn vNeg (eC (.int 3))) (aCons (eUn vNeg (eC (.int 2))) aNil))) aNil))))))))))))) (gN 2))
    (sRet (eCall f__law_of (aCons (eVar 0) (aCons (eBin vAdd (eVar 2) (eLst (aCons (eIf (tB' (eBin vNe (eVar 1) (eTup (aCons (eC (.int 0)) (aCons (eC (.int 0)) aNil))))) (eCall f__law_reduced (aCons (eVar 1) aNil)) (eTup (aCons (eC (.int 1)) (aCons (eC (.int 0)) aNil)))) (aCons (eTup (aCons (eC (.int 999)) (aCons (eUn vNeg (eC (.int 998))) aNil))) (aCons (eTup (aCons (eUn vNeg (eC (.int 1))) (aCons (eC (.int 999)) aNil))) aNil))))) aNil))))))
def f__law_dir : Fn := runF .fz 1 3 b__law_dir
theorem ar__law_dir : Ar f__law_dir 1 := ar_run
theorem fd__law_dir (T : Hv fa fn csX ysX cvX gtX dfX tfX xsX K mg) : ∃ fd, FunD (gK K).K "_law_dir" "_law_dir" (defArgs s__law_dir) (defBody s__law_dir) (defScope s__law_dir) [] [] (He.ga K "_law_dir") fd := T.def_ 45
theorem fb__law_dir (T : Hv fa fn csX ysX cvX gtX dfX tfX xsX K mg) (cdv : Value) (A : Around) (outer : List Env) (s : Shared) (H : Hp) (E : XK) (hr : Room 2 (A.deeper (envOfC "_law_dir" (defScope s__law_dir) s.heap.objs.size (He.ga K "_law_dir") cdv))) : GSs (gK K) (WF E) (cxOf (L2.CX P w) P w (gK K).K mg base ["bag", "wide", "some"] "_law_dir" (defScope s__law_dir) (He.ga K "_law_dir") cdv A outer s H E) (defBody s__law_dir) b__law_dir := by
  have nd := sc__law_dir.nd
  have tk := tk_of (P := P) (w := w) (K := (gK K).K) (mg := mg) (base := base) (N := ["bag", "wide", "some"]) (qual := "_law_dir") (scope := defScope s__law_dir) (f := He.ga K "_law_dir") (cdv := cdv) (A := A) (outer := outer) (s := s) (H := H) (E := E)
  have hu := hu64 hr
  have hu5 := hu65 hr
  exact (gss_cons (gs_asg (ge_tup (ga_cons (ge_bin opSub (ge_call (fg__law_draw T) rfl ar__law_draw (hr.mono (by decide)) rfl tk (ga_cons (ge_var (pv 0)) (ga_cons (ge_c pe_int) ga_nil)) rfl (fun _ _ _ _ _ _ us hl => match us, hl with | [_, _], _ => rfl)) (ge_c pe_int)) (ga_cons (ge_bin opSub (ge_call (fg__law_draw T) rfl ar__law_draw (hr.mono (by decide)) rfl tk (ga_cons (ge_var (pv 0)) (ga_cons (ge_c pe_int) ga_nil)) rfl (fun _ _ _ _ _ _ us hl => match us, hl with | [_, _], _ => rfl)) (ge_c pe_int)) ga_nil))) (gg_name (pg_name (i := 1) nd rfl (Or.inl rfl))))
    (gss_cons (gs_asg (ge_lst (ga_cons (ge_tup (ga_cons (ge_c pe_int) (ga_cons (ge_c pe_int) ga_nil))) (ga_cons (ge_tup (ga_cons (ge_c pe_int) (ga_cons (ge_c pe_int) ga_nil))) (ga_cons (ge_tup (ga_cons (ge_un unNeg (ge_c pe_int)) (ga_cons (ge_c pe_int) ga_nil))) (ga_cons (ge_tup (ga_cons (ge_c pe_int) (ga_cons (ge_un unNeg (ge_c pe_int)) ga_nil))) (ga_cons (ge_tup (ga_cons (ge_c pe_int) (ga_cons (ge_c pe_int) ga_nil))) (ga_cons (ge_tup (ga_cons (ge_un unNeg (ge_c pe_int)) (ga_cons (ge_c pe_int) ga_nil))) (ga_cons (ge_tup (ga_cons (ge_un unNeg (ge_c pe_int)) (ga_cons (ge_un unNeg (ge_c pe_int)) ga_nil))) (ga_cons (ge_tup (ga_cons (ge_c pe_int) (ga_cons (ge_un unNeg (ge_c pe_int)) ga_nil))) (ga_cons (ge_tup (ga_cons (ge_c pe_int) (ga_cons (ge_c pe_int) ga_nil))) (ga_cons (ge_tup (ga_cons (ge_un unNeg (ge_c pe_int)) (ga_cons (ge_c pe_int) ga_nil))) (ga_cons (ge_tup (ga_cons (ge_c pe_int) (ga_cons (ge_un unNeg (ge_c pe_int)) ga_nil))) (ga_cons (ge_tup (ga_cons (ge_un unNeg (ge_c pe_int)) (ga_cons (ge_un unNeg (ge_c pe_int)) ga_nil))) ga_nil))))))))))))) (gg_name (pg_name (i := 2) nd rfl (Or.inl rfl))))
    (gss_one (gs_ret (ge_call (fg__law_of T) rfl ar__law_of (hr.mono (by decide)) rfl tk (ga_cons (ge_var (pv 0)) (ga_cons (ge_bin (opAdd ⟨rfl⟩) (ge_var (pv 2)) (ge_lst (ga_cons (ge_ifExp (gt_cmp (opNe ⟨rfl⟩ hu) (ge_var (pv 1)) (ge_tup (ga_cons (ge_c pe_int) (ga_cons (ge_c pe_int) ga_nil))) (nomark _)) (ge_call (fg__law_reduced T) rfl ar__law_reduced (hr.mono (by decide)) rfl tk (ga_cons (ge_var (pv 1)) ga_nil) rfl (fun _ _ _ _ _ _ us hl => match us, hl with | [_], _ => rfl)) (ge_tup (ga_cons (ge_c pe_int) (ga_cons (ge_c pe_int) ga_nil)))) (ga_cons (ge_tup (ga_cons (ge_c pe_int) (ga_cons (ge_un unNeg (ge_c pe_int)) ga_nil))) (ga_cons (ge_tup (ga_cons (ge_un unNeg (ge_c pe_int)) (ga_cons (ge_c pe_int) ga_nil))) ga_nil))))) ga_nil)) rfl (fun _ _ _ _ _ _ us hl => match us, hl with | [_, _], _ => rfl))))))
theorem fg__law_dir (T : Hv fa fn csX ysX cvX gtX dfX tfX xsX K mg) : FnG P w (gK K) mg base 3 "_law_dir" s__law_dir ["bag"] [] f__law_dir := fg_of (T.glo 40) (fd__law_dir T) sc__law_dir (fb__law_dir T)
theorem sc__law_arc_of_two : FnScope ["bag", "known", "d", "e"] ["bag", "known"] (defScope s__law_arc_of_two) := ⟨rfl, rfl, rfl, by decide +kernel, rfl, by decide +kernel, by decide +kernel⟩
def b__law_arc_of_two : DS :=
  (sSeq (sPar 2 3 (aCons (eCall f__law_of (aCons (eVar 0) (aCons (eBin vAdd (eVar 1) (eLst (aCons (eCall f__law_dir (aCons (eVar 0) aNil)) aNil))) aNil))) (aCons (eCall f__law_of (aCons (eVar 0) (aCons (eBin vAdd (eVar 1) (eLst (aCons (eCall f__law_dir (aCons (eVar 0) aNil)) (aCons (eCall f__law_dir (aCons (eVar 0) aNil)) aNil)))) aNil))) aNil)))
    (sRet (eIf (tB' (eBin vEq (eCall f__law_draw (aCons (eVar 0) (aCons (eC (.int 9)) aNil))) (eC (.int 0)))) (eC .non) (eIf (tB' (eBin vEq (eCall f__law_draw (aCons (eVar 0) (aCons (eC (.int 5)) aNil))) (eC (.int 0)))) (eTup (aCons (eVar 2) (aCons (eVar 2) aNil))) (eTup (aCons (eVar 2) (aCons (eVar 3) aNil)))))))
def f__law_arc_of_two : Fn := runF .fz 2 4 b__law_arc_of_two
theorem ar__law_arc_of_two : Ar f__law_arc_of_two 2 := ar_run
theorem fd__law_arc_of_two (T : Hv fa fn csX ysX cvX gtX dfX tfX xsX K mg) : ∃ fd, FunD (gK K).K "_law_arc_of_two" "_law_arc_of_two" (defArgs s__law_arc_of_two) (defBody s__law_arc_of_two) (defScope s__law_arc_of_two) [] [] (He.ga K "_law_arc_of_two") fd := T.def_ 46
theorem fb__law_arc_of_two (T : Hv fa fn csX ysX cvX gtX dfX tfX xsX K mg) (cdv : Value) (A : Around) (outer : List Env) (s : Shared) (H : Hp) (E : XK) (hr : Room 3 (A.deeper (envOfC "_law_arc_of_two" (defScope s__law_arc_of_two) s.heap.objs.size (He.ga K "_law_arc_of_two") cdv))) : GSs (gK K) (WF E) (cxOf (L2.CX P w) P w (gK K).K mg base ["bag", "known", "d", "e"] "_law_arc_of_two" (defScope s__law_arc_of_two) (He.ga K "_law_arc_of_two") cdv A outer s H E) (defBody s__law_arc_of_two) b__law_arc_of_two := by
  have nd := sc__law_arc_of_two.nd
  have tk := tk_of (P := P) (w := w) (K := (gK K).K) (mg := mg) (base := base) (N := ["bag", "known", "d", "e"]) (qual := "_law_arc_of_two") (scope := defScope s__law_arc_of_two) (f := He.ga K "_law_arc_of_two") (cdv := cdv) (A := A) (outer := outer) (s := s) (H := H) (E := E)
  have hu := hu64 hr
  have hu5 := hu65 hr
  exact (gss_cons (gs_par (i := 2) (j := 3) rfl nd rfl rfl (by decide) rfl rfl (ga_cons (ge_call (fg__law_of T) rfl ar__law_of (hr.mono (by decide)) rfl tk (ga_cons (ge_var (pv 0)) (ga_cons (ge_bin (opAdd ⟨rfl⟩) (ge_var (pv 1)) (ge_lst (ga_cons (ge_call (fg__law_dir T) rfl ar__law_dir (hr.mono (by decide)) rfl tk (ga_cons (ge_var (pv 0)) ga_nil) rfl (fun _ _ _ _ _ _ us hl => match us, hl with | [_], _ => rfl)) ga_nil))) ga_nil)) rfl (fun _ _ _ _ _ _ us hl => match us, hl with | [_, _], _ => rfl)) (ga_cons (ge_call (fg__law_of T) rfl ar__law_of (hr.mono (by decide)) rfl tk (ga_cons (ge_var (pv 0)) (ga_cons (ge_bin (opAdd ⟨rfl⟩) (ge_var (pv 1)) (ge_lst (ga_cons (ge_call (fg__law_dir T) rfl ar__law_dir (hr.mono (by decide)) rfl tk (ga_cons (ge_var (pv 0)) ga_nil) rfl (fun _ _ _ _ _ _ us hl => match us, hl with | [_], _ => rfl)) (ga_cons (ge_call (fg__law_dir T) rfl ar__law_dir (hr.mono (by decide)) rfl tk (ga_cons (ge_var (pv 0)) ga_nil) rfl (fun _ _ _ _ _ _ us hl => match us, hl with | [_], _ => rfl)) ga_nil)))) ga_nil)) rfl (fun _ _ _ _ _ _ us hl => match us, hl with | [_, _], _ => rfl)) ga_nil)))
    (gss_one (gs_ret (ge_ifExp (gt_cmp (opEq ⟨rfl⟩ hu) (ge_call (fg__law_draw T) rfl ar__law_draw (hr.mono (by decide)) rfl tk (ga_cons (ge_var (pv 0)) (ga_cons (ge_c pe_int) ga_nil)) rfl (fun _ _ _ _ _ _ us hl => match us, hl with | [_, _], _ => rfl)) (ge_c pe_int) (nomark _)) (ge_c pe_non) (ge_ifExp (gt_cmp (opEq ⟨rfl⟩ hu) (ge_call (fg__law_draw T) rfl ar__law_draw (hr.mono (by decide)) rfl tk (ga_cons (ge_var (pv 0)) (ga_cons (ge_c pe_int) ga_nil)) rfl (fun _ _ _ _ _ _ us hl => match us, hl with | [_, _], _ => rfl)) (ge_c pe_int) (nomark _)) (ge_tup (ga_cons (ge_var (pv 2)) (ga_cons (ge_var (pv 2)) ga_nil))) (ge_tup (ga_cons (ge_var (pv 2)) (ga_cons (ge_var (pv 3)) ga_nil))))))))
theorem fg__law_arc_of_two (T : Hv fa fn csX ysX cvX gtX dfX tfX xsX K mg) : FnG P w (gK K) mg base 4 "_law_arc_of_two" s__law_arc_of_two ["bag", "known"] [] f__law_arc_of_two := fg_of (T.glo 41) (fd__law_arc_of_two T) sc__law_arc_of_two (fb__law_arc_of_two T)
theorem sc__law_arc_made : FnScope ["ends"] ["ends"] (defScope s__law_arc_made) := ⟨rfl, rfl, rfl, by decide +kernel, rfl, by decide +kernel, by decide +kernel⟩
def b__law_arc_made : DS :=
  (sRet (eIf (tB' (eBin vIs (eVar 0) (eC .non))) (eCm 2 f_Arc_whole) (eMk 2 f_Arc___init__ (aCons (eBin vIx (eVar 0) (eC (.int 0))) (aCons (eBin vIx (eVar 0) (eC (.int 1))) aNil)))))
def f__law_arc_made : Fn := runF .fz 1 1 b__law_arc_made
theorem ar__law_arc_made : Ar f__law_arc_made 1 := ar_run
theorem fd__law_arc_made (T : Hv fa fn csX ysX cvX gtX dfX tfX xsX K mg) : ∃ fd, FunD (gK K).K "_law_arc_made" "_law_arc_made" (defArgs s__law_arc_made) (defBody s__law_arc_made) (defScope s__law_arc_made) [] [] (He.ga K "_law_arc_made") fd := T.def_ 47
theorem fb__law_arc_made (T : Hv fa fn csX ysX cvX gtX dfX tfX xsX K mg) (cdv : Value) (A : Around) (outer : List Env) (s : Shared) (H : Hp) (E : XK) (hr : Room 6 (A.deeper (envOfC "_law_arc_made" (defScope s__law_arc_made) s.heap.objs.size (He.ga K "_law_arc_made") cdv))) : GSs (gK K) (WF E) (cxOf (L2.CX P w) P w (gK K).K mg base ["ends"] "_law_arc_made" (defScope s__law_arc_made) (He.ga K "_law_arc_made") cdv A outer s H E) (defBody s__law_arc_made) b__law_arc_made := by
  have nd := sc__law_arc_made.nd
  have tk := tk_of (P := P) (w := w) (K := (gK K).K) (mg := mg) (base := base) (N := ["ends"]) (qual := "_law_arc_made") (scope := defScope s__law_arc_made) (f := He.ga K "_law_arc_made") (cdv := cdv) (A := A) (outer := outer) (s := s) (H := H) (E := E)
  have hu := hu64 hr
  have hu5 := hu65 hr
  exact (gss_one (gs_ret (ge_ifExp (gt_cmp opIs (ge_var (pv 0)) (ge_c pe_non) (nomark _)) (ge_cm0 (cm_Arc_whole T) ⟨rfl⟩ ar_Arc_whole (hr.mono (by decide)) tk rfl (T.glo 19)) (ge_mk (mk_Arc T) ⟨rfl⟩ ar_Arc___init__ (hr.mono (by decide)) rfl tk (ga_cons (ge_ix (ixAny ⟨rfl⟩) (ge_var (pv 0)) (ge_c pe_int)) (ga_cons (ge_ix (ixAny ⟨rfl⟩) (ge_var (pv 0)) (ge_c pe_int)) ga_nil)) (fun _ _ _ _ _ _ us hl => match us, hl with | [_, _, _], _ => rfl)))))
theorem fg__law_arc_made (T : Hv fa fn csX ysX cvX gtX dfX tfX xsX K mg) : FnG P w (gK K) mg base 7 "_law_arc_made" s__law_arc_made ["ends"] [] f__law_arc_made := fg_of (T.glo 42) (fd__law_arc_made T) sc__law_arc_made (fb__law_arc_made T)
theorem sc__law_joined_so : FnScope ["joined", "tests", "due", "marks", "ends", "near", "t"] ["joined", "tests", "due", "marks"] (defScope s__law_joined_so) := ⟨rfl, rfl, rfl, by decide +kernel, rfl, by decide +kernel, by decide +kernel⟩
def b__law_joined_so : DS :=
  (sSeq (sIf (tNot' (tB' (eFn (vIsiS 2 [3]) (aCons (eVar 0) (aCons (eC (.gl 2)) aNil))))) (sRet (eC (.bl false))) sNop)
    (sSeq (sAsg (eIf (tB' (ePropL [2, 3] f_Arc_is_whole (eVar 0))) (eC .non) (eTup (aCons (ePropL [2, 3] f_Arc_start (eVar 0)) (aCons (ePropL [2, 3] f_Arc_stop (eVar 0)) aNil)))) (gN 4))
    (sSeq (sIf (tAnd' (tB' (eBin vIsNot (eVar 4) (eC .non))) (tOr' (tB' (eBin vNotIn (eBin vIx (eVar 4) (eC (.int 0))) (eVar 3))) (tB' (eBin vNotIn (eBin vIx (eVar 4) (eC (.int 1))) (eVar 3))))) (sRet (eC (.bl false))) sNop)
    (sSeq (sAsg (eLc (iSeq (eVar 1)) (gN 6) (tB' (eBin vLe (eFn vMax (aCons (eLst (aCons (eFn vAbs (aCons (eBin vIx (eVar 6) (eC (.int 0))) aNil)) (aCons (eFn vAbs (aCons (eBin vIx (eVar 6) (eC (.int 1))) aNil)) aNil))) aNil)) (eC (.int 999)))) (eVar 6) [6]) (gN 5))
    (sRet (eAnd (eBin vEq (eLc (iSeq (eVar 1)) (gN 6) tYes' (eCall f__law_within (aCons (eVar 4) (aCons (eVar 6) aNil))) [6]) (eVar 2)) (eBin vEq (eLc (iSeq (eVar 5)) (gN 6) tYes' (eBinO (inOL [2, 3] f_Arc___contains__) (eVar 6) (eVar 0)) [6]) (eLc (iSeq (eVar 5)) (gN 6) tYes' (eCall f__law_within (aCons (eVar 4) (aCons (eVar 6) aNil))) [6]))))))))
def f__law_joined_so : Fn := runF .fz 4 7 b__law_joined_so
theorem ar__law_joined_so : Ar f__law_joined_so 4 := ar_run
theorem fd__law_joined_so (T : Hv fa fn csX ysX cvX gtX dfX tfX xsX K mg) : ∃ fd, FunD (gK K).K "_law_joined_so" "_law_joined_so" (defArgs s__law_joined_so) (defBody s__law_joined_so) (defScope s__law_joined_so) [] [] (He.ga K "_law_joined_so") fd := T.def_ 48
theorem fb__law_joined_so (T : Hv fa fn csX ysX cvX gtX dfX tfX xsX K mg) (cdv : Value) (A : Around) (outer : List Env) (s : Shared) (H : Hp) (E : XK) (hr : Room 5 (A.deeper (envOfC "_law_joined_so" (defScope s__law_joined_so) s.heap.objs.size (He.ga K "_law_joined_so") cdv))) : GSs (gK K) (WF E) (cxOf (L2.CX P w) P w (gK K).K mg base ["joined", "tests", "due", "marks", "ends", "near", "t"] "_law_joined_so" (defScope s__law_joined_so) (He.ga K "_law_joined_so") cdv A outer s H E) (defBody s__law_joined_so) b__law_joined_so := by
  have nd := sc__law_joined_so.nd
  have tk := tk_of (P := P) (w := w) (K := (gK K).K) (mg := mg) (base := base) (N := ["joined", "tests", "due", "marks", "ends", "near", "t"]) (qual := "_law_joined_so") (scope := defScope s__law_joined_so) (f := He.ga K "_law_joined_so") (cdv := cdv) (A := A) (outer := outer) (s := s) (H := H) (E := E)
  have hu := hu64 hr
  have hu5 := hu65 hr
  exact (gss_cons (gs_if (gt_not (gt_val (ge_callB (cIsiS ⟨rfl⟩ ((ow_Arc T).is rfl rfl _ (List.mem_singleton.mpr rfl)) (isS1 ((ow_WholeArc T).is rfl rfl _ (List.mem_singleton.mpr rfl)) (subB_ok (T.fur 0)))) rfl (T.free 3) (by decide +kernel) (ga_cons (ge_var (pv 0)) (ga_cons (ge_gl (c := 2) (T.glo 19) rfl) ga_nil))))) (gss_one (gs_ret (ge_c pe_bl))) gss_nil)
    (gss_cons (gs_asg (ge_ifExp (gt_val (ge_prop2 (ge_prop (pr_Arc_is_whole T) ⟨rfl⟩ ar_Arc_is_whole (hr.mono (by decide)) (ge_var (pv 0))) (ge_prop (pr_Arc_is_whole_WholeArc T) ⟨rfl⟩ ar_Arc_is_whole (hr.mono (by decide)) (ge_var (pv 0))))) (ge_c pe_non) (ge_tup (ga_cons (ge_prop2 (ge_prop (pr_Arc_start T) ⟨rfl⟩ ar_Arc_start (hr.mono (by decide)) (ge_var (pv 0))) (ge_prop (pr_Arc_start_WholeArc T) ⟨rfl⟩ ar_Arc_start (hr.mono (by decide)) (ge_var (pv 0)))) (ga_cons (ge_prop2 (ge_prop (pr_Arc_stop T) ⟨rfl⟩ ar_Arc_stop (hr.mono (by decide)) (ge_var (pv 0))) (ge_prop (pr_Arc_stop_WholeArc T) ⟨rfl⟩ ar_Arc_stop (hr.mono (by decide)) (ge_var (pv 0)))) ga_nil)))) (gg_name (pg_name (i := 4) nd rfl (Or.inr rfl))))
    (gss_cons (gs_if (PW.pt (gw_and (gt_cmp opIsNot (ge_var (pv 4)) (ge_c pe_non) (nomark _)) (gw_and1 (PW.pt (gw_or (gt_cmp (opNotIn ⟨rfl⟩ hu5) (ge_ix (ixAny ⟨rfl⟩) (ge_var (pv 4)) (ge_c pe_int)) (ge_var (pv 3)) (by rfl)) (gw_or1 (gt_cmp (opNotIn ⟨rfl⟩ hu5) (ge_ix (ixAny ⟨rfl⟩) (ge_var (pv 4)) (ge_c pe_int)) (ge_var (pv 3)) (by rfl)))))))) (gss_one (gs_ret (ge_c pe_bl))) gss_nil)
    (gss_cons (gs_setLc (own := [("t", 6)]) (N := ["joined", "tests", "due", "marks", "ends", "near", "t"]) (sc := defScope s__law_joined_so) (i := 5) rfl nd rfl rfl (sw_true rfl rfl rfl (by decide +kernel)) (gi_seq ⟨rfl⟩ (ge_var (pv 1))) rfl rfl (by decide +kernel) (fun _ _ _ _ _ => (gg_name (pg_name (i := 6) nd rfl (Or.inl rfl)))) (fun _ _ _ _ _ => (gts_one (gt_cmp opLe (ge_callB (cMax ⟨rfl⟩ rfl) rfl (T.free 43) (by decide +kernel) (ga_cons (ge_lst (ga_cons (ge_callB cAbs rfl (T.free 10) (by decide +kernel) (ga_cons (ge_ix (ixAny ⟨rfl⟩) (ge_var (pv 6)) (ge_c pe_int)) ga_nil)) (ga_cons (ge_callB cAbs rfl (T.free 10) (by decide +kernel) (ga_cons (ge_ix (ixAny ⟨rfl⟩) (ge_var (pv 6)) (ge_c pe_int)) ga_nil)) ga_nil))) ga_nil)) (ge_c pe_int) (nomark _)))) (fun _ _ _ _ _ => (ge_var (pv 6))))
    (gss_one (gs_ret (ge_and (ge_cmp (opEq ⟨rfl⟩ hu) (ge_lc (own := [("t", 6)]) (N := ["joined", "tests", "due", "marks", "ends", "near", "t"]) (sc := defScope s__law_joined_so) rfl nd (gi_seq ⟨rfl⟩ (ge_var (pv 1))) rfl rfl (by decide +kernel) (fun _ _ _ _ _ => (gg_name (pg_name (i := 6) nd rfl (Or.inl rfl)))) (fun _ _ _ _ _ => gts_nil) (fun _ _ _ _ _ => (ge_call (fg__law_within T) rfl ar__law_within (hr.mono (by decide)) rfl takes0 (ga_cons (ge_var (pv 4)) (ga_cons (ge_var (pv 6)) ga_nil)) rfl (fun _ _ _ _ _ _ us hl => match us, hl with | [_, _], _ => rfl)))) (ge_var (pv 2)) (nomark _)) (ge_one (ge_cmp (opEq ⟨rfl⟩ hu) (ge_lc (own := [("t", 6)]) (N := ["joined", "tests", "due", "marks", "ends", "near", "t"]) (sc := defScope s__law_joined_so) rfl nd (gi_seq ⟨rfl⟩ (ge_var (pv 5))) rfl rfl (by decide +kernel) (fun _ _ _ _ _ => (gg_name (pg_name (i := 6) nd rfl (Or.inl rfl)))) (fun _ _ _ _ _ => gts_nil) (fun _ _ _ _ _ => (ge_cmpO (opIn2 (opInO ⟨rfl⟩ (mt_Arc___contains__ T) (hr.mono (by decide))) (opInO ⟨rfl⟩ (mt_Arc___contains___WholeArc T) (hr.mono (by decide)))) (ge_var (pv 6)) (ge_var (pv 0)) rfl))) (ge_lc (own := [("t", 6)]) (N := ["joined", "tests", "due", "marks", "ends", "near", "t"]) (sc := defScope s__law_joined_so) rfl nd (gi_seq ⟨rfl⟩ (ge_var (pv 5))) rfl rfl (by decide +kernel) (fun _ _ _ _ _ => (gg_name (pg_name (i := 6) nd rfl (Or.inl rfl)))) (fun _ _ _ _ _ => gts_nil) (fun _ _ _ _ _ => (ge_call (fg__law_within T) rfl ar__law_within (hr.mono (by decide)) rfl takes0 (ga_cons (ge_var (pv 4)) (ga_cons (ge_var (pv 6)) ga_nil)) rfl (fun _ _ _ _ _ _ us hl => match us, hl with | [_, _], _ => rfl)))) (nomark _))))))))))
theorem fg__law_joined_so (T : Hv fa fn csX ysX cvX gtX dfX tfX xsX K mg) : FnG P w (gK K) mg base 6 "_law_joined_so" s__law_joined_so ["joined", "tests", "due", "marks"] [] f__law_joined_so := fg_of (T.glo 44) (fd__law_joined_so T) sc__law_joined_so (fb__law_joined_so T)
theorem sc_law : FnScope ["script", "bag", "turn", "first", "last", "some", "made", "marks", "tests", "here", "there", "shared", "either", "k", "told", "due", "odd", "t", "a", "b"] ["script"] (defScope s_law) := ⟨rfl, rfl, rfl, by decide +kernel, rfl, by decide +kernel, by decide +kernel⟩
def b_law : DS :=
  (sSeq (sAsg (eCall f__law_open (aCons (eVar 0) aNil)) (gN 1))
    (sSeq (sFor (iRng1' (aCons (eC (.int 10)) aNil)) (gN 2) (sSeq (sAsg (eCall f__law_arc_of_two (aCons (eVar 1) (aCons (eLst aNil) aNil))) (gN 3))
    (sSeq (sAsg (eCall f__law_arc_of_two (aCons (eVar 1) (aCons (eIf (tAnd' (tB' (eBin vIsNot (eVar 3) (eC .non))) (tB' (eBin vEq (eCall f__law_draw (aCons (eVar 1) (aCons (eC (.int 2)) aNil))) (eC (.int 0))))) (eFn vList (aCons (eVar 3) aNil)) (eLst aNil)) aNil))) (gN 4))
    (sSeq (sAsg (eTup (aCons (eLst (aCons (eVar 3) (aCons (eVar 4) aNil))) (aCons (eLst (aCons (eCall f__law_arc_made (aCons (eVar 3) aNil)) (aCons (eCall f__law_arc_made (aCons (eVar 4) aNil)) aNil))) aNil))) (gTup' (gCons' (gN 5) (gCons' (gN 6) gNil')) 2))
    (sSeq (sAsg (eCall f__law_round (aCons (eBin vAdd (eIf (tB' (eBin vIsNot (eVar 3) (eC .non))) (eFn vList (aCons (eVar 3) aNil)) (eLst aNil)) (eIf (tB' (eBin vIsNot (eVar 4) (eC .non))) (eFn vList (aCons (eVar 4) aNil)) (eLst aNil))) aNil)) (gN 7))
    (sSeq (sAsg (eIf (tB' (eBin vNe (eVar 7) (eLst aNil))) (eBin vAdd (eVar 7) (eCall f__law_mids (aCons (eVar 7) aNil))) (eLst (aCons (eTup (aCons (eC (.int 1)) (aCons (eC (.int 0)) aNil))) (aCons (eTup (aCons (eUn vNeg (eC (.int 3))) (aCons (eC (.int 2)) aNil))) aNil)))) (gN 8))
    (sSeq (sPar 9 10 (aCons (eLc (iSeq (eVar 8)) (gN 17) tYes' (eCall f__law_within (aCons (eVar 3) (aCons (eVar 17) aNil))) [17]) (aCons (eLc (iSeq (eVar 8)) (gN 17) tYes' (eCall f__law_within (aCons (eVar 4) (aCons (eVar 17) aNil))) [17]) aNil)))
    (sSeq (sAsg (eFn vAny (aCons (eLc (iZip2 (aCons (eVar 9) (aCons (eVar 10) aNil))) (gTup' (gCons' (gN 18) (gCons' (gN 19) gNil')) 2) tYes' (eAnd (eVar 18) (eVar 19)) [18, 19]) aNil)) (gN 11))
    (sSeq (sAsg (eLc (iZip2 (aCons (eVar 9) (aCons (eVar 10) aNil))) (gTup' (gCons' (gN 18) (gCons' (gN 19) gNil')) 2) tYes' (eOr (eVar 18) (eVar 19)) [18, 19]) (gN 12))
    (sSeq (sFor (iRng1' (aCons (eC (.int 2)) aNil)) (gN 13) (sSeq (sAsg (eGotW "" csL fs__law_try (eOrAL [2, 3] [2, 3] f_Arc___or__ (eBin vIx (eVar 6) (eVar 13)) (eBin vIx (eVar 6) (eBin vSub (eC (.int 1)) (eVar 13))))) (gN 14))
    (sSeq (sIf (tAnd' (tNot' (tB' (eVar 11))) (tNot' (tB' (eCall (f__law_same 6) (aCons (eVar 14) (aCons (eTup (aCons (eC (.str "NoJoining")) (aCons (eTup aNil) aNil))) aNil)))))) (sRet (eC (.bl false))) sNop)
    (sSeq (sIf (tAnd' (tB' (eVar 11)) (tOr' (tB' (eBin vNe (eBin vIx (eVar 14) (eC (.int 0))) (eC (.str "")))) (tNot' (tB' (eCall f__law_joined_so (aCons (eBin vIx (eVar 14) (eC (.int 1))) (aCons (eVar 8) (aCons (eVar 12) (aCons (eVar 7) aNil))))))))) (sRet (eC (.bl false))) sNop)
    (sSeq (sIf (tAnd' (tB' (eVar 11)) (tB' (eBinO (neOL 2 3 f_Arc___eq__) (eOrAL [2, 3] [2, 3] f_Arc___or__ (eMtL [2, 3] "turned" f_Arc_turned (eBin vIx (eVar 6) (eVar 13)) aNil) (eMtL [2, 3] "turned" f_Arc_turned (eBin vIx (eVar 6) (eBin vSub (eC (.int 1)) (eVar 13))) aNil)) (eMtL [2, 3] "turned" f_Arc_turned (eBin vIx (eVar 14) (eC (.int 1))) aNil)))) (sRet (eC (.bl false))) sNop)
    (sSeq (sAsg (eIf (tB' (eBin vEq (eVar 13) (eC (.int 0)))) (eFn vAll (aCons (eLc (iZip2 (aCons (eVar 9) (aCons (eVar 10) aNil))) (gTup' (gCons' (gN 18) (gCons' (gN 19) gNil')) 2) tYes' (eOr (eVar 18) (eNot (eVar 19))) [18, 19]) aNil)) (eFn vAll (aCons (eLc (iZip2 (aCons (eVar 9) (aCons (eVar 10) aNil))) (gTup' (gCons' (gN 18) (gCons' (gN 19) gNil')) 2) tYes' (eOr (eVar 19) (eNot (eVar 18))) [18, 19]) aNil))) (gN 15))
    (sIf (tNot' (tB' (eCall (f__law_same 6) (aCons (eLst (aCons (eMtL [2, 3] "covers" f_Arc_covers (eBin vIx (eVar 6) (eVar 13)) (aCons (eBin vIx (eVar 6) (eBin vSub (eC (.int 1)) (eVar 13))) aNil)) (aCons (eMtL [2, 3] "covers" (kwF f_Arc_covers [0] 1) (eBin vIx (eVar 6) (eVar 13)) (aCons (eBin vIx (eVar 6) (eVar 13)) aNil)) (aCons (eMtL [2, 3] "covers" f_Arc_covers (eCm 2 f_Arc_whole) (aCons (eBin vIx (eVar 6) (eVar 13)) aNil)) aNil)))) (aCons (eLst (aCons (eVar 15) (aCons (eC (.bl true)) (aCons (eC (.bl true)) aNil)))) aNil))))) (sRet (eC (.bl false))) sNop)))))))
    (sSeq (sAsg (eCall f__law_of (aCons (eVar 1) (aCons (eLst (aCons (eC .non) (aCons (eTup (aCons (eC (.int 1)) (aCons (eC (.int 0)) aNil))) (aCons (eLst aNil) (aCons (eC (.str "whole")) (aCons (eC (.int 3)) (aCons eDct0 (aCons (eTup (aCons (eTup (aCons (eC (.int 1)) (aCons (eC (.int 0)) aNil))) (aCons (eTup (aCons (eC (.int 0)) (aCons (eC (.int 1)) aNil))) aNil))) aNil)))))))) aNil))) (gN 16))
    (sSeq (sIf (tNot' (tB' (eCall (f__law_same 6) (aCons (eGotW "" csL fs__law_try (eOrAL [2, 3] [2, 3] f_Arc___or__ (eBin vIx (eVar 6) (eC (.int 0))) (eVar 16))) (aCons (eTup (aCons (eC (.str "NoJoining")) (aCons (eTup aNil) aNil))) aNil))))) (sRet (eC (.bl false))) sNop)
    (sIf (tNot' (tB' (eCall (f__law_same 6) (aCons (eLst (aCons (eBinO (eqOL 2 3 f_Arc___eq__) (eBin vIx (eVar 6) (eC (.int 0))) (eCall f__law_arc_made (aCons (eVar 3) aNil))) (aCons (eBinO (eqOL 2 3 f_Arc___eq__) (eBin vIx (eVar 6) (eC (.int 1))) (eCall f__law_arc_made (aCons (eVar 4) aNil))) aNil))) (aCons (eLst (aCons (eC (.bl true)) (aCons (eC (.bl true)) aNil))) aNil))))) (sRet (eC (.bl false))) sNop)))))))))))))
    (sRet (eC (.bl true)))))
def f_law : Fn := runF .fz 1 20 b_law
theorem fd_law (T : Hv fa fn csX ysX cvX gtX dfX tfX xsX K mg) : ∃ fd, FunD (gK K).K "law" "law" (defArgs s_law) (defBody s_law) (defScope s_law) [] [] (He.ga K "law") fd := T.def_ 49
theorem fb_law (T : Hv fa fn csX ysX cvX gtX dfX tfX xsX K mg) (TBs : ∀ p ∈ tfX, LamX.TabB base mg (He.cT K p).1 (He.cT K p).2) (A : Around) (outer : List Env) (s : Shared) (H : Hp) (E : XK) (hr : Room 10 (A.deeper (envOfC "law" (defScope s_law) s.heap.objs.size (He.ga K "law") (.ref (He.codeOf K ("law", none)))))) : GSs (gK K) (WF E) (cxOf (L2.CX P w) P w (gK K).K mg base ["script", "bag", "turn", "first", "last", "some", "made", "marks", "tests", "here", "there", "shared", "either", "k", "told", "due", "odd", "t", "a", "b"] "law" (defScope s_law) (He.ga K "law") (.ref (He.codeOf K ("law", none))) A outer s H E) (defBody s_law) b_law := by
  obtain ⟨fd__law_try', F__law_try⟩ := fd__law_try T
  have bn__law_try := bn1 (a := "ask") F__law_try (fun _ _ _ _ _ _ us hl => match us, hl with | [_], _ => rfl)
  have nd := sc_law.nd
  have tk := tk_of (P := P) (w := w) (K := (gK K).K) (mg := mg) (base := base) (N := ["script", "bag", "turn", "first", "last", "some", "made", "marks", "tests", "here", "there", "shared", "either", "k", "told", "due", "odd", "t", "a", "b"]) (qual := "law") (scope := defScope s_law) (f := He.ga K "law") (cdv := (.ref (He.codeOf K ("law", none)))) (A := A) (outer := outer) (s := s) (H := H) (E := E)
  have hu := hu64 hr
  have hu5 := hu65 hr
  exact (gss_cons (gs_asg (ge_call (fg__law_open T) rfl ar__law_open (hr.mono (by decide)) rfl tk (ga_cons (ge_var (pv 0)) ga_nil) rfl (fun _ _ _ _ _ _ us hl => match us, hl with | [_], _ => rfl)) (gg_name (pg_name (i := 1) nd rfl (Or.inl rfl))))
    (gss_cons (gs_for po_of rfl (gi_rng1 rfl (T.free 36) (ga_cons (ge_c pe_int) ga_nil)) (gg_name (pg_name (i := 2) nd rfl (Or.inl rfl))) (gss_cons (gs_asg (ge_call (fg__law_arc_of_two T) rfl ar__law_arc_of_two (hr.mono (by decide)) rfl tk (ga_cons (ge_var (pv 1)) (ga_cons (ge_lst ga_nil) ga_nil)) rfl (fun _ _ _ _ _ _ us hl => match us, hl with | [_, _], _ => rfl)) (gg_name (pg_name (i := 3) nd rfl (Or.inr rfl))))
    (gss_cons (gs_asg (ge_call (fg__law_arc_of_two T) rfl ar__law_arc_of_two (hr.mono (by decide)) rfl tk (ga_cons (ge_var (pv 1)) (ga_cons (ge_ifExp (PW.pt (gw_and (gt_cmp opIsNot (ge_var (pv 3)) (ge_c pe_non) (nomark _)) (gw_and1 (gt_cmp (opEq ⟨rfl⟩ hu) (ge_call (fg__law_draw T) rfl ar__law_draw (hr.mono (by decide)) rfl tk (ga_cons (ge_var (pv 1)) (ga_cons (ge_c pe_int) ga_nil)) rfl (fun _ _ _ _ _ _ us hl => match us, hl with | [_, _], _ => rfl)) (ge_c pe_int) (nomark _))))) (ge_callTy (cList ⟨rfl⟩ rfl) rfl (T.free 21) (by decide +kernel) (ga_cons (ge_var (pv 3)) ga_nil)) (ge_lst ga_nil)) ga_nil)) rfl (fun _ _ _ _ _ _ us hl => match us, hl with | [_, _], _ => rfl)) (gg_name (pg_name (i := 4) nd rfl (Or.inr rfl))))
    (gss_cons (gs_asg (ge_tup (ga_cons (ge_lst (ga_cons (ge_var (pv 3)) (ga_cons (ge_var (pv 4)) ga_nil))) (ga_cons (ge_lst (ga_cons (ge_call (fg__law_arc_made T) rfl ar__law_arc_made (hr.mono (by decide)) rfl tk (ga_cons (ge_var (pv 3)) ga_nil) rfl (fun _ _ _ _ _ _ us hl => match us, hl with | [_], _ => rfl)) (ga_cons (ge_call (fg__law_arc_made T) rfl ar__law_arc_made (hr.mono (by decide)) rfl tk (ga_cons (ge_var (pv 4)) ga_nil) rfl (fun _ _ _ _ _ _ us hl => match us, hl with | [_], _ => rfl)) ga_nil))) ga_nil))) (gg_tup ⟨rfl⟩ rfl (ggs_cons (gg_name (pg_name (i := 5) nd rfl (Or.inl rfl))) (ggs_cons (gg_name (pg_name (i := 6) nd rfl (Or.inr rfl))) ggs_nil))))
    (gss_cons (gs_asg (ge_call (fg__law_round T) rfl ar__law_round (hr.mono (by decide)) rfl tk (ga_cons (ge_bin (opAdd ⟨rfl⟩) (ge_ifExp (gt_cmp opIsNot (ge_var (pv 3)) (ge_c pe_non) (nomark _)) (ge_callTy (cList ⟨rfl⟩ rfl) rfl (T.free 21) (by decide +kernel) (ga_cons (ge_var (pv 3)) ga_nil)) (ge_lst ga_nil)) (ge_ifExp (gt_cmp opIsNot (ge_var (pv 4)) (ge_c pe_non) (nomark _)) (ge_callTy (cList ⟨rfl⟩ rfl) rfl (T.free 21) (by decide +kernel) (ga_cons (ge_var (pv 4)) ga_nil)) (ge_lst ga_nil))) ga_nil) rfl (fun _ _ _ _ _ _ us hl => match us, hl with | [_], _ => rfl)) (gg_name (pg_name (i := 7) nd rfl (Or.inl rfl))))
    (gss_cons (gs_asg (ge_ifExp (gt_cmp (opNe ⟨rfl⟩ hu) (ge_var (pv 7)) (ge_lst ga_nil) (nomark _)) (ge_bin (opAdd ⟨rfl⟩) (ge_var (pv 7)) (ge_call (fg__law_mids T) rfl ar__law_mids (hr.mono (by decide)) rfl tk (ga_cons (ge_var (pv 7)) ga_nil) rfl (fun _ _ _ _ _ _ us hl => match us, hl with | [_], _ => rfl))) (ge_lst (ga_cons (ge_tup (ga_cons (ge_c pe_int) (ga_cons (ge_c pe_int) ga_nil))) (ga_cons (ge_tup (ga_cons (ge_un unNeg (ge_c pe_int)) (ga_cons (ge_c pe_int) ga_nil))) ga_nil)))) (gg_name (pg_name (i := 8) nd rfl (Or.inl rfl))))
    (gss_cons (gs_par (i := 9) (j := 10) rfl nd rfl rfl (by decide) rfl rfl (ga_cons (ge_lc (own := [("t", 17)]) (N := ["script", "bag", "turn", "first", "last", "some", "made", "marks", "tests", "here", "there", "shared", "either", "k", "told", "due", "odd", "t", "a", "b"]) (sc := defScope s_law) rfl nd (gi_seq ⟨rfl⟩ (ge_var (pv 8))) rfl rfl (by decide +kernel) (fun _ _ _ _ _ => (gg_name (pg_name (i := 17) nd rfl (Or.inl rfl)))) (fun _ _ _ _ _ => gts_nil) (fun _ _ _ _ _ => (ge_call (fg__law_within T) rfl ar__law_within (hr.mono (by decide)) rfl takes0 (ga_cons (ge_var (pv 3)) (ga_cons (ge_var (pv 17)) ga_nil)) rfl (fun _ _ _ _ _ _ us hl => match us, hl with | [_, _], _ => rfl)))) (ga_cons (ge_lc (own := [("t", 17)]) (N := ["script", "bag", "turn", "first", "last", "some", "made", "marks", "tests", "here", "there", "shared", "either", "k", "told", "due", "odd", "t", "a", "b"]) (sc := defScope s_law) rfl nd (gi_seq ⟨rfl⟩ (ge_var (pv 8))) rfl rfl (by decide +kernel) (fun _ _ _ _ _ => (gg_name (pg_name (i := 17) nd rfl (Or.inl rfl)))) (fun _ _ _ _ _ => gts_nil) (fun _ _ _ _ _ => (ge_call (fg__law_within T) rfl ar__law_within (hr.mono (by decide)) rfl takes0 (ga_cons (ge_var (pv 4)) (ga_cons (ge_var (pv 17)) ga_nil)) rfl (fun _ _ _ _ _ _ us hl => match us, hl with | [_, _], _ => rfl)))) ga_nil)))
    (gss_cons (gs_asg (ge_callB (cAny ⟨rfl⟩ rfl) rfl (T.free 45) (by decide +kernel) (ga_cons (ge_lc (own := [("a", 18), ("b", 19)]) (N := ["script", "bag", "turn", "first", "last", "some", "made", "marks", "tests", "here", "there", "shared", "either", "k", "told", "due", "odd", "t", "a", "b"]) (sc := defScope s_law) rfl nd (gi_zip ⟨rfl⟩ rfl (T.free 25) (ga_cons (ge_var (pv 9)) (ga_cons (ge_var (pv 10)) ga_nil))) rfl rfl (by decide +kernel) (fun _ _ _ _ _ => (gg_tup ⟨rfl⟩ rfl (ggs_cons (gg_name (pg_name (i := 18) nd rfl (Or.inl rfl))) (ggs_cons (gg_name (pg_name (i := 19) nd rfl (Or.inl rfl))) ggs_nil)))) (fun _ _ _ _ _ => gts_nil) (fun _ _ _ _ _ => (ge_and (ge_var (pv 18)) (ge_one (ge_var (pv 19)))))) ga_nil)) (gg_name (pg_name (i := 11) nd rfl (Or.inl rfl))))
    (gss_cons (gs_setLc (own := [("a", 18), ("b", 19)]) (N := ["script", "bag", "turn", "first", "last", "some", "made", "marks", "tests", "here", "there", "shared", "either", "k", "told", "due", "odd", "t", "a", "b"]) (sc := defScope s_law) (i := 12) rfl nd rfl rfl (sw_true rfl rfl rfl (by decide +kernel)) (gi_zip ⟨rfl⟩ rfl (T.free 25) (ga_cons (ge_var (pv 9)) (ga_cons (ge_var (pv 10)) ga_nil))) rfl rfl (by decide +kernel) (fun _ _ _ _ _ => (gg_tup ⟨rfl⟩ rfl (ggs_cons (gg_name (pg_name (i := 18) nd rfl (Or.inl rfl))) (ggs_cons (gg_name (pg_name (i := 19) nd rfl (Or.inl rfl))) ggs_nil)))) (fun _ _ _ _ _ => gts_nil) (fun _ _ _ _ _ => (ge_or (ge_var (pv 18)) (ge_one (ge_var (pv 19))))))
    (gss_cons (gs_for po_of rfl (gi_rng1 rfl (T.free 36) (ga_cons (ge_c pe_int) ga_nil)) (gg_name (pg_name (i := 13) nd rfl (Or.inr rfl))) (gss_cons (gs_asg (ge_gotW (k := 8) ⟨rfl⟩ rfl rfl (T.glo 46) F__law_try sc__law_try (by first | exact Or.inl rfl | exact Or.inr (Or.inl rfl)) rfl bn__law_try rfl rfl (T.glo 47) (T.glo 48) (T.xm rfl rfl rfl) (hs__law_try T (by decide)) (TBs ("law", none) (by decide)) rfl (List.mem_cons_self ..) (tab_uniq T.dis (List.mem_cons_self ..)) (hr.mono (by decide)) (LamX.lamS_by (sc := defScope s_law) (by decide +kernel)) rfl (fun _ _ _ _ _ => rfl) (fun A outer s H E f c' hr => have hu := hu64 hr; have hu5 := hu65 hr; have tk := tk_lam; (ge_orA2 (ge_orA (ds := [2, 3]) (mt_Arc___or__ T) ⟨rfl⟩ ar_Arc___or__ (hr.mono (by decide)) tk (orB_ok (T.fur 1)) (orTo2 (.inl rfl) (orToB_ok (T.fur 2))) (ge_ix (ixAny ⟨rfl⟩) (ge_var (pv 6)) (ge_var (pv 13))) (ge_ix (ixAny ⟨rfl⟩) (ge_var (pv 6)) (ge_bin opSub (ge_c pe_int) (ge_var (pv 13))))) (ge_orA (ds := [2, 3]) (mt_Arc___or___WholeArc T) ⟨rfl⟩ ar_Arc___or__ (hr.mono (by decide)) tk (orB_ok (T.fur 3)) (orTo2 (orToB_ok (T.fur 4)) (.inl rfl)) (ge_ix (ixAny ⟨rfl⟩) (ge_var (pv 6)) (ge_var (pv 13))) (ge_ix (ixAny ⟨rfl⟩) (ge_var (pv 6)) (ge_bin opSub (ge_c pe_int) (ge_var (pv 13)))))))) (gg_name (pg_name (i := 14) nd rfl (Or.inl rfl))))
    (gss_cons (gs_if (PW.pt (gw_and (gt_not (gt_val (ge_var (pv 11)))) (gw_and1 (gt_not (gt_val (ge_call (fg__law_same T 6) rfl (ar__law_same 6) (hr.mono (by decide)) rfl tk (ga_cons (ge_var (pv 14)) (ga_cons (ge_tup (ga_cons (ge_c pe_str) (ga_cons (ge_tup ga_nil) ga_nil))) ga_nil)) rfl (fun _ _ _ _ _ _ us hl => match us, hl with | [_, _], _ => rfl))))))) (gss_one (gs_ret (ge_c pe_bl))) gss_nil)
    (gss_cons (gs_if (PW.pt (gw_and (gt_val (ge_var (pv 11))) (gw_and1 (PW.pt (gw_or (gt_cmp (opNe ⟨rfl⟩ hu) (ge_ix (ixAny ⟨rfl⟩) (ge_var (pv 14)) (ge_c pe_int)) (ge_c pe_str) (nomark _)) (gw_or1 (gt_not (gt_val (ge_call (fg__law_joined_so T) rfl ar__law_joined_so (hr.mono (by decide)) rfl tk (ga_cons (ge_ix (ixAny ⟨rfl⟩) (ge_var (pv 14)) (ge_c pe_int)) (ga_cons (ge_var (pv 8)) (ga_cons (ge_var (pv 12)) (ga_cons (ge_var (pv 7)) ga_nil)))) rfl (fun _ _ _ _ _ _ us hl => match us, hl with | [_, _, _, _], _ => rfl)))))))))) (gss_one (gs_ret (ge_c pe_bl))) gss_nil)
    (gss_cons (gs_if (PW.pt (gw_and (gt_val (ge_var (pv 11))) (gw_and1 (gt_cmpO (opNe2 (opNeO ⟨rfl⟩ hu (mt_Arc___eq__ T) (hr.mono (by decide)) (ow_Arc T).k4 (ow_Arc T).ne) (opNeO ⟨rfl⟩ hu (mt_Arc___eq___WholeArc T) (hr.mono (by decide)) (ow_WholeArc T).k4 (ow_WholeArc T).ne)) (ge_orA2 (ge_orA (ds := [2, 3]) (mt_Arc___or__ T) ⟨rfl⟩ ar_Arc___or__ (hr.mono (by decide)) tk (orB_ok (T.fur 1)) (orTo2 (.inl rfl) (orToB_ok (T.fur 2))) (ge_mt2 (ge_mt0 (mt_Arc_turned T) ⟨rfl⟩ ar_Arc_turned (hr.mono (by decide)) tk (ge_ix (ixAny ⟨rfl⟩) (ge_var (pv 6)) (ge_var (pv 13)))) (ge_mt0 (mt_Arc_turned_WholeArc T) ⟨rfl⟩ ar_Arc_turned (hr.mono (by decide)) tk (ge_ix (ixAny ⟨rfl⟩) (ge_var (pv 6)) (ge_var (pv 13))))) (ge_mt2 (ge_mt0 (mt_Arc_turned T) ⟨rfl⟩ ar_Arc_turned (hr.mono (by decide)) tk (ge_ix (ixAny ⟨rfl⟩) (ge_var (pv 6)) (ge_bin opSub (ge_c pe_int) (ge_var (pv 13))))) (ge_mt0 (mt_Arc_turned_WholeArc T) ⟨rfl⟩ ar_Arc_turned (hr.mono (by decide)) tk (ge_ix (ixAny ⟨rfl⟩) (ge_var (pv 6)) (ge_bin opSub (ge_c pe_int) (ge_var (pv 13))))))) (ge_orA (ds := [2, 3]) (mt_Arc___or___WholeArc T) ⟨rfl⟩ ar_Arc___or__ (hr.mono (by decide)) tk (orB_ok (T.fur 3)) (orTo2 (orToB_ok (T.fur 4)) (.inl rfl)) (ge_mt2 (ge_mt0 (mt_Arc_turned T) ⟨rfl⟩ ar_Arc_turned (hr.mono (by decide)) tk (ge_ix (ixAny ⟨rfl⟩) (ge_var (pv 6)) (ge_var (pv 13)))) (ge_mt0 (mt_Arc_turned_WholeArc T) ⟨rfl⟩ ar_Arc_turned (hr.mono (by decide)) tk (ge_ix (ixAny ⟨rfl⟩) (ge_var (pv 6)) (ge_var (pv 13))))) (ge_mt2 (ge_mt0 (mt_Arc_turned T) ⟨rfl⟩ ar_Arc_turned (hr.mono (by decide)) tk (ge_ix (ixAny ⟨rfl⟩) (ge_var (pv 6)) (ge_bin opSub (ge_c pe_int) (ge_var (pv 13))))) (ge_mt0 (mt_Arc_turned_WholeArc T) ⟨rfl⟩ ar_Arc_turned (hr.mono (by decide)) tk (ge_ix (ixAny ⟨rfl⟩) (ge_var (pv 6)) (ge_bin opSub (ge_c pe_int) (ge_var (pv 13)))))))) (ge_mt2 (ge_mt0 (mt_Arc_turned T) ⟨rfl⟩ ar_Arc_turned (hr.mono (by decide)) tk (ge_ix (ixAny ⟨rfl⟩) (ge_var (pv 14)) (ge_c pe_int))) (ge_mt0 (mt_Arc_turned_WholeArc T) ⟨rfl⟩ ar_Arc_turned (hr.mono (by decide)) tk (ge_ix (ixAny ⟨rfl⟩) (ge_var (pv 14)) (ge_c pe_int)))) (nomark _))))) (gss_one (gs_ret (ge_c pe_bl))) gss_nil)
    (gss_cons (gs_asg (ge_ifExp (gt_cmp (opEq ⟨rfl⟩ hu) (ge_var (pv 13)) (ge_c pe_int) (nomark _)) (ge_callB (cAll ⟨rfl⟩ rfl) rfl (T.free 26) (by decide +kernel) (ga_cons (ge_lc (own := [("a", 18), ("b", 19)]) (N := ["script", "bag", "turn", "first", "last", "some", "made", "marks", "tests", "here", "there", "shared", "either", "k", "told", "due", "odd", "t", "a", "b"]) (sc := defScope s_law) rfl nd (gi_zip ⟨rfl⟩ rfl (T.free 25) (ga_cons (ge_var (pv 9)) (ga_cons (ge_var (pv 10)) ga_nil))) rfl rfl (by decide +kernel) (fun _ _ _ _ _ => (gg_tup ⟨rfl⟩ rfl (ggs_cons (gg_name (pg_name (i := 18) nd rfl (Or.inl rfl))) (ggs_cons (gg_name (pg_name (i := 19) nd rfl (Or.inl rfl))) ggs_nil)))) (fun _ _ _ _ _ => gts_nil) (fun _ _ _ _ _ => (ge_or (ge_var (pv 18)) (ge_one (ge_not (ge_var (pv 19))))))) ga_nil)) (ge_callB (cAll ⟨rfl⟩ rfl) rfl (T.free 26) (by decide +kernel) (ga_cons (ge_lc (own := [("a", 18), ("b", 19)]) (N := ["script", "bag", "turn", "first", "last", "some", "made", "marks", "tests", "here", "there", "shared", "either", "k", "told", "due", "odd", "t", "a", "b"]) (sc := defScope s_law) rfl nd (gi_zip ⟨rfl⟩ rfl (T.free 25) (ga_cons (ge_var (pv 9)) (ga_cons (ge_var (pv 10)) ga_nil))) rfl rfl (by decide +kernel) (fun _ _ _ _ _ => (gg_tup ⟨rfl⟩ rfl (ggs_cons (gg_name (pg_name (i := 18) nd rfl (Or.inl rfl))) (ggs_cons (gg_name (pg_name (i := 19) nd rfl (Or.inl rfl))) ggs_nil)))) (fun _ _ _ _ _ => gts_nil) (fun _ _ _ _ _ => (ge_or (ge_var (pv 19)) (ge_one (ge_not (ge_var (pv 18))))))) ga_nil))) (gg_name (pg_name (i := 15) nd rfl (Or.inl rfl))))
    (gss_one (gs_if (gt_not (gt_val (ge_call (fg__law_same T 6) rfl (ar__law_same 6) (hr.mono (by decide)) rfl tk (ga_cons (ge_lst (ga_cons (ge_mt2 (ge_mt (mt_Arc_covers T) ⟨rfl⟩ ar_Arc_covers (hr.mono (by decide)) tk (ge_ix (ixAny ⟨rfl⟩) (ge_var (pv 6)) (ge_var (pv 13))) (ga_cons (ge_ix (ixAny ⟨rfl⟩) (ge_var (pv 6)) (ge_bin opSub (ge_c pe_int) (ge_var (pv 13)))) ga_nil)) (ge_mt (mt_Arc_covers_WholeArc T) ⟨rfl⟩ ar_Arc_covers (hr.mono (by decide)) tk (ge_ix (ixAny ⟨rfl⟩) (ge_var (pv 6)) (ge_var (pv 13))) (ga_cons (ge_ix (ixAny ⟨rfl⟩) (ge_var (pv 6)) (ge_bin opSub (ge_c pe_int) (ge_var (pv 13)))) ga_nil))) (ga_cons (ge_mt2 (ge_mtK (ix := [0]) (ks := ["other"]) (mtd_Arc_covers T) ⟨rfl⟩ ar_Arc_covers (hr.mono (by decide)) tk (ge_ix (ixAny ⟨rfl⟩) (ge_var (pv 6)) (ge_var (pv 13))) (gk_cons (ge_ix (ixAny ⟨rfl⟩) (ge_var (pv 6)) (ge_var (pv 13))) gk_nil) (.inl ⟨rfl, fun _ _ _ _ _ _ _ ws hl => match ws, hl with | [_], _ => rfl⟩)) (ge_mtK (ix := [0]) (ks := ["other"]) (mtd_Arc_covers_WholeArc T) ⟨rfl⟩ ar_Arc_covers (hr.mono (by decide)) tk (ge_ix (ixAny ⟨rfl⟩) (ge_var (pv 6)) (ge_var (pv 13))) (gk_cons (ge_ix (ixAny ⟨rfl⟩) (ge_var (pv 6)) (ge_var (pv 13))) gk_nil) (.inl ⟨rfl, fun _ _ _ _ _ _ _ ws hl => match ws, hl with | [_], _ => rfl⟩))) (ga_cons (ge_mt2 (ge_mt (mt_Arc_covers T) ⟨rfl⟩ ar_Arc_covers (hr.mono (by decide)) tk (ge_cm0 (cm_Arc_whole T) ⟨rfl⟩ ar_Arc_whole (hr.mono (by decide)) tk rfl (T.glo 19)) (ga_cons (ge_ix (ixAny ⟨rfl⟩) (ge_var (pv 6)) (ge_var (pv 13))) ga_nil)) (ge_mt (mt_Arc_covers_WholeArc T) ⟨rfl⟩ ar_Arc_covers (hr.mono (by decide)) tk (ge_cm0 (cm_Arc_whole T) ⟨rfl⟩ ar_Arc_whole (hr.mono (by decide)) tk rfl (T.glo 19)) (ga_cons (ge_ix (ixAny ⟨rfl⟩) (ge_var (pv 6)) (ge_var (pv 13))) ga_nil))) ga_nil)))) (ga_cons (ge_lst (ga_cons (ge_var (pv 15)) (ga_cons (ge_c pe_bl) (ga_cons (ge_c pe_bl) ga_nil)))) ga_nil)) rfl (fun _ _ _ _ _ _ us hl => match us, hl with | [_, _], _ => rfl)))) (gss_one (gs_ret (ge_c pe_bl))) gss_nil))))))))
    (gss_cons (gs_asg (ge_call (fg__law_of T) rfl ar__law_of (hr.mono (by decide)) rfl tk (ga_cons (ge_var (pv 1)) (ga_cons (ge_lst (ga_cons (ge_c pe_non) (ga_cons (ge_tup (ga_cons (ge_c pe_int) (ga_cons (ge_c pe_int) ga_nil))) (ga_cons (ge_lst ga_nil) (ga_cons (ge_c pe_str) (ga_cons (ge_c pe_int) (ga_cons ge_dct0 (ga_cons (ge_tup (ga_cons (ge_tup (ga_cons (ge_c pe_int) (ga_cons (ge_c pe_int) ga_nil))) (ga_cons (ge_tup (ga_cons (ge_c pe_int) (ga_cons (ge_c pe_int) ga_nil))) ga_nil))) ga_nil)))))))) ga_nil)) rfl (fun _ _ _ _ _ _ us hl => match us, hl with | [_, _], _ => rfl)) (gg_name (pg_name (i := 16) nd rfl (Or.inr rfl))))
    (gss_cons (gs_if (gt_not (gt_val (ge_call (fg__law_same T 6) rfl (ar__law_same 6) (hr.mono (by decide)) rfl tk (ga_cons (ge_gotW (k := 8) ⟨rfl⟩ rfl rfl (T.glo 46) F__law_try sc__law_try (by first | exact Or.inl rfl | exact Or.inr (Or.inl rfl)) rfl bn__law_try rfl rfl (T.glo 47) (T.glo 48) (T.xm rfl rfl rfl) (hs__law_try T (by decide)) (TBs ("law", none) (by decide)) rfl (List.mem_cons_self ..) (tab_uniq T.dis (List.mem_cons_self ..)) (hr.mono (by decide)) (LamX.lamS_by (sc := defScope s_law) (by decide +kernel)) rfl (fun _ _ _ _ _ => rfl) (fun A outer s H E f c' hr => have hu := hu64 hr; have hu5 := hu65 hr; have tk := tk_lam; (ge_orA2 (ge_orA (ds := [2, 3]) (mt_Arc___or__ T) ⟨rfl⟩ ar_Arc___or__ (hr.mono (by decide)) tk (orB_ok (T.fur 1)) (orTo2 (.inl rfl) (orToB_ok (T.fur 2))) (ge_ix (ixAny ⟨rfl⟩) (ge_var (pv 6)) (ge_c pe_int)) (ge_var (pv 16))) (ge_orA (ds := [2, 3]) (mt_Arc___or___WholeArc T) ⟨rfl⟩ ar_Arc___or__ (hr.mono (by decide)) tk (orB_ok (T.fur 3)) (orTo2 (orToB_ok (T.fur 4)) (.inl rfl)) (ge_ix (ixAny ⟨rfl⟩) (ge_var (pv 6)) (ge_c pe_int)) (ge_var (pv 16)))))) (ga_cons (ge_tup (ga_cons (ge_c pe_str) (ga_cons (ge_tup ga_nil) ga_nil))) ga_nil)) rfl (fun _ _ _ _ _ _ us hl => match us, hl with | [_, _], _ => rfl)))) (gss_one (gs_ret (ge_c pe_bl))) gss_nil)
    (gss_one (gs_if (gt_not (gt_val (ge_call (fg__law_same T 6) rfl (ar__law_same 6) (hr.mono (by decide)) rfl tk (ga_cons (ge_lst (ga_cons (ge_cmpO (opEq2 (opEqO ⟨rfl⟩ hu (mt_Arc___eq__ T) (hr.mono (by decide))) (opEqO ⟨rfl⟩ hu (mt_Arc___eq___WholeArc T) (hr.mono (by decide)))) (ge_ix (ixAny ⟨rfl⟩) (ge_var (pv 6)) (ge_c pe_int)) (ge_call (fg__law_arc_made T) rfl ar__law_arc_made (hr.mono (by decide)) rfl tk (ga_cons (ge_var (pv 3)) ga_nil) rfl (fun _ _ _ _ _ _ us hl => match us, hl with | [_], _ => rfl)) (nomark _)) (ga_cons (ge_cmpO (opEq2 (opEqO ⟨rfl⟩ hu (mt_Arc___eq__ T) (hr.mono (by decide))) (opEqO ⟨rfl⟩ hu (mt_Arc___eq___WholeArc T) (hr.mono (by decide)))) (ge_ix (ixAny ⟨rfl⟩) (ge_var (pv 6)) (ge_c pe_int)) (ge_call (fg__law_arc_made T) rfl ar__law_arc_made (hr.mono (by decide)) rfl tk (ga_cons (ge_var (pv 4)) ga_nil) rfl (fun _ _ _ _ _ _ us hl => match us, hl with | [_], _ => rfl)) (nomark _)) ga_nil))) (ga_cons (ge_lst (ga_cons (ge_c pe_bl) (ga_cons (ge_c pe_bl) ga_nil))) ga_nil)) rfl (fun _ _ _ _ _ _ us hl => match us, hl with | [_, _], _ => rfl)))) (gss_one (gs_ret (ge_c pe_bl))) gss_nil))))))))))))))
    (gss_one (gs_ret (ge_c pe_bl)))))
end
end Lw

set_option Elab.async false
set_option linter.all false
set_option maxRecDepth 100000
set_option maxHeartbeats 4000000
namespace SD
open PySem PySem.Spec PyProof.Rows L2

section
variable {α β : Type} {ρ : En} {μ μ1 : Sto} {d : DV}
@[simp] theorem of_some {a : α} : R.of (some a) μ = .ok a μ := rfl
@[simp] theorem of_none : (R.of none μ : R α) = .stuck := rfl
@[simp] theorem ofS_some {a : α} : R.ofS (some (a, μ)) = .ok a μ := rfl
@[simp] theorem ofS_none : (R.ofS none : R α) = .stuck := rfl
@[simp] theorem eC_ap : eC d ρ μ = .ok d μ := rfl
@[simp] theorem eVar_ap {i : Nat} : eVar i ρ μ = match ρ[i]? with
  | some (some d) => .ok d μ
  | _ => .stuck := rfl
def R.un (f : V1) (r : R DV) : R DV := match r with
  | .ok x μ => R.of (f x μ) μ
  | .ex c ns xs μ => .ex c ns xs μ
  | .stuck => .stuck
def R.bin1 (f : V2) (r : R DV) (b : DE) (ρ : En) : R DV := r.bind fun x μ1 => (b ρ μ1).bind fun y μ2 => R.of (f x y μ2) μ2
def R.bin2 (f : V2) (x : DV) (r : R DV) : R DV := r.bind fun y μ2 => R.of (f x y μ2) μ2
@[simp] theorem eUn_ap {f : V1} {a : DE} : eUn f a ρ μ = R.un f (a ρ μ) := by unfold eUn R.un R.bind; cases a ρ μ <;> rfl
@[simp] theorem un_ok {f : V1} {x : DV} : R.un f (.ok x μ) = R.of (f x μ) μ := rfl
@[simp] theorem eBin_ap {f : V2} {a b : DE} : eBin f a b ρ μ = R.bin1 f (a ρ μ) b ρ := rfl
@[simp] theorem bin1_ok {f : V2} {x : DV} {b : DE} : R.bin1 f (.ok x μ) b ρ = R.bin2 f x (b ρ μ) := rfl
@[simp] theorem bin2_ok {f : V2} {x y : DV} : R.bin2 f x (.ok y μ) = R.of (f x y μ) μ := rfl
def R.tb (r : R DV) : R Bool := r.bind fun d μ1 => R.of (asB d) μ1
@[simp] theorem tB_ap {f : DE} : tB' f ρ μ = (f ρ μ).tb := rfl
@[simp] theorem tb_ok {b : Bool} : (R.ok (.bl b) μ).tb = .ok b μ := rfl
def R.ch1 (f f' : V2) (r : R DV) (b c : DE) (ρ : En) : R DV := r.bind fun x μ1 => (b ρ μ1).bind fun y μ2 => (R.of ((f x y μ2).bind asB) μ2).bind fun k μ3 =>
  if k = true then (c ρ μ3).bind fun z μ4 => R.of (f' y z μ4) μ4 else .ok (.bl false) μ3
def R.ch2 (f f' : V2) (x : DV) (r : R DV) (c : DE) (ρ : En) : R DV := r.bind fun y μ2 => (R.of ((f x y μ2).bind asB) μ2).bind fun k μ3 =>
  if k = true then (c ρ μ3).bind fun z μ4 => R.of (f' y z μ4) μ4 else .ok (.bl false) μ3
def R.ch3 (f' : V2) (y : DV) (r : R Bool) (c : DE) (ρ : En) : R DV := r.bind fun k μ3 => if k = true then (c ρ μ3).bind fun z μ4 => R.of (f' y z μ4) μ4 else .ok (.bl false) μ3
@[simp] theorem eChain_ap {f f' : V2} {a b c : DE} : eChain f f' a b c ρ μ = R.ch1 f f' (a ρ μ) b c ρ := rfl
@[simp] theorem ch1_ok {f f' : V2} {x : DV} {b c : DE} : R.ch1 f f' (.ok x μ) b c ρ = R.ch2 f f' x (b ρ μ) c ρ := rfl
@[simp] theorem ch2_ok {f f' : V2} {x y : DV} {c : DE} : R.ch2 f f' x (.ok y μ) c ρ = R.ch3 f' y (R.of ((f x y μ).bind asB) μ) c ρ := rfl
@[simp] theorem ch3_t {f' : V2} {y : DV} {c : DE} : R.ch3 f' y (.ok true μ) c ρ = R.bin2 f' y (c ρ μ) := rfl
@[simp] theorem ch3_f {f' : V2} {y : DV} {c : DE} : R.ch3 f' y (.ok false μ) c ρ = .ok (.bl false) μ := rfl
@[simp] theorem asB_bl {b : Bool} : asB (.bl b) = some b := rfl
def R.tand (r : R Bool) (u : DT) (ρ : En) : R Bool := r.bind fun b μ1 => if b = true then u ρ μ1 else .ok false μ1
def R.tor (r : R Bool) (u : DT) (ρ : En) : R Bool := r.bind fun b μ1 => if b = true then .ok true μ1 else u ρ μ1
def R.tnot (r : R Bool) : R Bool := r.bind fun b μ1 => .ok (!b) μ1
@[simp] theorem tAnd_ap {t u : DT} : tAnd' t u ρ μ = R.tand (t ρ μ) u ρ := rfl
@[simp] theorem tOr_ap {t u : DT} : tOr' t u ρ μ = R.tor (t ρ μ) u ρ := rfl
@[simp] theorem tNot_ap {t : DT} : tNot' t ρ μ = R.tnot (t ρ μ) := rfl
@[simp] theorem tand_t {u : DT} : R.tand (.ok true μ) u ρ = u ρ μ := rfl
@[simp] theorem tand_f {u : DT} : R.tand (.ok false μ) u ρ = .ok false μ := rfl
@[simp] theorem tor_t {u : DT} : R.tor (.ok true μ) u ρ = .ok true μ := rfl
@[simp] theorem tor_f {u : DT} : R.tor (.ok false μ) u ρ = u ρ μ := rfl
@[simp] theorem tnot_ok {b : Bool} : R.tnot (.ok b μ) = .ok (!b) μ := rfl
def R.eand (r : R DV) (b : DE) (ρ : En) : R DV := r.bind fun x μ1 => (R.of (asB x) μ1).bind fun k μ2 => if k = true then b ρ μ2 else .ok (.bl false) μ2
def R.eor (r : R DV) (b : DE) (ρ : En) : R DV := r.bind fun x μ1 => (R.of (asB x) μ1).bind fun k μ2 => if k = true then .ok (.bl true) μ2 else b ρ μ2
def R.enot (r : R DV) : R DV := r.bind fun x μ1 => (R.of (asB x) μ1).bind fun k μ2 => .ok (.bl (!k)) μ2
@[simp] theorem eAnd_ap {a b : DE} : eAnd a b ρ μ = R.eand (a ρ μ) b ρ := rfl
@[simp] theorem eOr_ap {a b : DE} : eOr a b ρ μ = R.eor (a ρ μ) b ρ := rfl
@[simp] theorem eNot_ap {a : DE} : eNot a ρ μ = R.enot (a ρ μ) := rfl
@[simp] theorem eand_t {b : DE} : R.eand (.ok (.bl true) μ) b ρ = b ρ μ := rfl
@[simp] theorem eand_f {b : DE} : R.eand (.ok (.bl false) μ) b ρ = .ok (.bl false) μ := rfl
@[simp] theorem eor_t {b : DE} : R.eor (.ok (.bl true) μ) b ρ = .ok (.bl true) μ := rfl
@[simp] theorem eor_f {b : DE} : R.eor (.ok (.bl false) μ) b ρ = b ρ μ := rfl
@[simp] theorem enot_ok {b : Bool} : R.enot (.ok (.bl b) μ) = .ok (.bl (!b)) μ := rfl
def R.eif (r : R Bool) (a b : DE) (ρ : En) : R DV := r.bind fun k μ1 => if k = true then a ρ μ1 else b ρ μ1
@[simp] theorem eIf_ap {t : DT} {a b : DE} : eIf t a b ρ μ = R.eif (t ρ μ) a b ρ := rfl
@[simp] theorem eif_t {a b : DE} : R.eif (.ok true μ) a b ρ = a ρ μ := rfl
@[simp] theorem eif_f {a b : DE} : R.eif (.ok false μ) a b ρ = b ρ μ := rfl
def R.ac1 (r : R DV) (q : DA) (ρ : En) : R (List DV) := r.bind fun x μ1 => (q ρ μ1).bind fun xs μ2 => .ok (x :: xs) μ2
def R.ac2 (x : DV) (r : R (List DV)) : R (List DV) := r.bind fun xs μ2 => .ok (x :: xs) μ2
@[simp] theorem aNil_ap : aNil ρ μ = .ok [] μ := rfl
@[simp] theorem aCons_ap {a : DE} {r : DA} : aCons a r ρ μ = R.ac1 (a ρ μ) r ρ := rfl
@[simp] theorem ac1_ok {x : DV} {r : DA} : R.ac1 (.ok x μ) r ρ = R.ac2 x (r ρ μ) := rfl
@[simp] theorem ac2_ok {x : DV} {xs : List DV} : R.ac2 x (.ok xs μ) = .ok (x :: xs) μ := rfl
def R.mk (f : List DV → Sto → R DV) (r : R (List DV)) : R DV := r.bind f
@[simp] theorem mk_ok {f : List DV → Sto → R DV} {xs : List DV} : R.mk f (.ok xs μ) = f xs μ := rfl
def mkT : List DV → Sto → R DV := fun xs μ1 => if okLen xs.length = true then .ok (.tup xs) μ1 else .stuck
def mkL : List DV → Sto → R DV := fun xs μ1 => if okLen xs.length = true then .ok (.lst xs) μ1 else .stuck
def mkC : List DV → Sto → R DV := fun xs μ1 => if okLen xs.length = true then .ok (.cell μ1.length) (μ1 ++ [.lst xs]) else .stuck
@[simp] theorem eTup_ap {r : DA} : eTup r ρ μ = R.mk mkT (r ρ μ) := rfl
@[simp] theorem eLst_ap {r : DA} : eLst r ρ μ = R.mk mkL (r ρ μ) := rfl
@[simp] theorem eLstC_ap {r : DA} : eLstC r ρ μ = R.mk mkC (r ρ μ) := rfl
theorem okLen_small {n : Nat} (h : n ≤ 16777216) : okLen n = true := okLen_iff.mpr (by rw [sizeLine_eq]; exact h)
theorem mkT_small {xs : List DV} (h : xs.length ≤ 16777216) : mkT xs μ = .ok (.tup xs) μ := if_pos (okLen_small h)
theorem mkL_small {xs : List DV} (h : xs.length ≤ 16777216) : mkL xs μ = .ok (.lst xs) μ := if_pos (okLen_small h)
theorem mkC_small {xs : List DV} (h : xs.length ≤ 16777216) : mkC xs μ = .ok (.cell μ.length) (μ ++ [.lst xs]) := if_pos (okLen_small h)
@[simp] theorem mkT0 : mkT [] μ = .ok (.tup []) μ := mkT_small (by decide)
@[simp] theorem mkL0 : mkL [] μ = .ok (.lst []) μ := mkL_small (by decide)
@[simp] theorem mkC0 : mkC [] μ = .ok (.cell μ.length) (μ ++ [.lst []]) := mkC_small (by decide)
@[simp] theorem mkT1 {a : DV} : mkT [a] μ = .ok (.tup [a]) μ := mkT_small (by show 1 ≤ _; decide)
@[simp] theorem mkT2 {a b : DV} : mkT [a, b] μ = .ok (.tup [a, b]) μ := mkT_small (by show 2 ≤ _; decide)
@[simp] theorem mkT3 {a b c : DV} : mkT [a, b, c] μ = .ok (.tup [a, b, c]) μ := mkT_small (by show 3 ≤ _; decide)
@[simp] theorem mkL1 {a : DV} : mkL [a] μ = .ok (.lst [a]) μ := mkL_small (by show 1 ≤ _; decide)
@[simp] theorem mkL2 {a b : DV} : mkL [a, b] μ = .ok (.lst [a, b]) μ := mkL_small (by show 2 ≤ _; decide)
@[simp] theorem mkL3 {a b c : DV} : mkL [a, b, c] μ = .ok (.lst [a, b, c]) μ := mkL_small (by show 3 ≤ _; decide)
@[simp] theorem eFn_ap {f : VN} {r : DA} : eFn f r ρ μ = R.mk (fun xs μ1 => R.of (f xs μ1) μ1) (r ρ μ) := rfl
@[simp] theorem eCall_ap {F : Fn} {r : DA} : eCall F r ρ μ = R.mk F (r ρ μ) := rfl
@[simp] theorem eCallD_ap {F : Fn} {ds : List DV} {r : DA} : eCallD F ds r ρ μ = R.mk (fun xs μ1 => F (xs ++ ds) μ1) (r ρ μ) := rfl
def R.ck1 (F : Fn) (ix : List Nat) (n m : Nat) (r : R (List DV)) (k : DA) (ρ : En) : R DV := r.bind fun xs μ1 => (k ρ μ1).bind fun ys μ2 => if xs.length = n ∧ ys.length = m then F (permL ix (xs ++ ys)) μ2 else .stuck
def R.ck2 (F : Fn) (ix : List Nat) (n m : Nat) (xs : List DV) (r : R (List DV)) : R DV := r.bind fun ys μ2 => if xs.length = n ∧ ys.length = m then F (permL ix (xs ++ ys)) μ2 else .stuck
@[simp] theorem eCallK_ap {F : Fn} {ix : List Nat} {n m : Nat} {r k : DA} : eCallK F ix n m r k ρ μ = R.ck1 F ix n m (r ρ μ) k ρ := rfl
@[simp] theorem ck1_ok {F : Fn} {ix : List Nat} {n m : Nat} {xs : List DV} {k : DA} : R.ck1 F ix n m (.ok xs μ) k ρ = R.ck2 F ix n m xs (k ρ μ) := rfl
@[simp] theorem ck2_ok {F : Fn} {ix : List Nat} {n m : Nat} {xs ys : List DV} : R.ck2 F ix n m xs (.ok ys μ) = if xs.length = n ∧ ys.length = m then F (permL ix (xs ++ ys)) μ else .stuck := rfl
def R.o1 (r : R DV) : R (Option Int) := r.bind fun x μ1 => (R.of (asI x) μ1).bind fun i μ2 => .ok (some i) μ2
@[simp] theorem oNone_ap : oNone ρ μ = .ok none μ := rfl
@[simp] theorem oSome_ap {a : DE} : oSome a ρ μ = R.o1 (a ρ μ) := rfl
@[simp] theorem o1_ok {i : Int} : R.o1 (.ok (.int i) μ) = .ok (some i) μ := rfl
def R.sl1 (f : VSl) (r : R DV) (lo hi : DO) (ρ : En) : R DV := r.bind fun x μ1 => (lo ρ μ1).bind fun l μ2 => (hi ρ μ2).bind fun u μ3 => R.of (f x l u μ3) μ3
def R.sl2 (f : VSl) (x : DV) (r : R (Option Int)) (hi : DO) (ρ : En) : R DV := r.bind fun l μ2 => (hi ρ μ2).bind fun u μ3 => R.of (f x l u μ3) μ3
def R.sl3 (f : VSl) (x : DV) (l : Option Int) (r : R (Option Int)) : R DV := r.bind fun u μ3 => R.of (f x l u μ3) μ3
@[simp] theorem eSl_ap {f : VSl} {a : DE} {lo hi : DO} : eSl f a lo hi ρ μ = R.sl1 f (a ρ μ) lo hi ρ := rfl
@[simp] theorem sl1_ok {f : VSl} {x : DV} {lo hi : DO} : R.sl1 f (.ok x μ) lo hi ρ = R.sl2 f x (lo ρ μ) hi ρ := rfl
@[simp] theorem sl2_ok {f : VSl} {x : DV} {l : Option Int} {hi : DO} : R.sl2 f x (.ok l μ) hi ρ = R.sl3 f x l (hi ρ μ) := rfl
@[simp] theorem sl3_ok {f : VSl} {x : DV} {l u : Option Int} : R.sl3 f x l (.ok u μ) = R.of (f x l u μ) μ := rfl
def R.bm1 (T : String) (f : VM) (r : R DV) (q : DA) (ρ : En) : R DV := r.bind fun x μ1 => if recv T x μ1 = true then (q ρ μ1).bind fun xs μ2 => R.ofS (f x xs μ2) else .stuck
def R.bm2 (f : VM) (x : DV) (r : R (List DV)) : R DV := r.bind fun xs μ2 => R.ofS (f x xs μ2)
@[simp] theorem eBm_ap {T : String} {f : VM} {o : DE} {r : DA} : eBm T f o r ρ μ = R.bm1 T f (o ρ μ) r ρ := rfl
@[simp] theorem bm1_ok {T : String} {f : VM} {x : DV} {q : DA} : R.bm1 T f (.ok x μ) q ρ = if recv T x μ = true then R.bm2 f x (q ρ μ) else .stuck := rfl
@[simp] theorem bm2_ok {f : VM} {x : DV} {xs : List DV} : R.bm2 f x (.ok xs μ) = R.ofS (f x xs μ) := rfl
def R.bm0 (T : String) (f : VM) (r : R DV) : R DV := r.bind fun x μ1 => if recv T x μ1 = true then R.ofS (f x [] μ1) else .stuck
@[simp] theorem eBm0_ap {T : String} {f : VM} {o : DE} : eBm0 T f o ρ μ = R.bm0 T f (o ρ μ) := rfl
@[simp] theorem bm0_ok {T : String} {f : VM} {x : DV} : R.bm0 T f (.ok x μ) = if recv T x μ = true then R.ofS (f x [] μ) else .stuck := rfl
@[simp] theorem recv_str {x : Str} : recv "str" (.str x) μ = true := rfl
@[simp] theorem recv_cell {i : Nat} {xs : List DV} (h : μ[i]? = some (.lst xs)) : recv "list" (.cell i) μ = true := by simp only [recv, h]; rfl

@[simp] theorem sNop_ap : sNop ρ μ = .nx ρ μ := rfl
@[simp] theorem sBrk_ap : sBrk ρ μ = .bk ρ μ := rfl
@[simp] theorem sCnt_ap : sCnt ρ μ = .ct ρ μ := rfl
@[simp] theorem sRetN_ap : sRetN ρ μ = .rt .non μ := rfl
def SR.seq (r : SR) (h : DS) : SR := match r with
  | .nx ρ' μ' => h ρ' μ'
  | r => r
@[simp] theorem sSeq_ap {f h : DS} : sSeq f h ρ μ = SR.seq (f ρ μ) h := rfl
@[simp] theorem seq_nx {h : DS} : SR.seq (.nx ρ μ) h = h ρ μ := rfl
@[simp] theorem seq_rt {h : DS} : SR.seq (.rt d μ) h = .rt d μ := rfl
@[simp] theorem seq_bk {h : DS} : SR.seq (.bk ρ μ) h = .bk ρ μ := rfl
@[simp] theorem seq_ct {h : DS} : SR.seq (.ct ρ μ) h = .ct ρ μ := rfl
@[simp] theorem seq_ex {h : DS} {c : Nat} {ns : List Str} {xs : List DV} : SR.seq (.ex c ns xs ρ μ) h = .ex c ns xs ρ μ := rfl
def R.ret (r : R DV) (ρ : En) : SR := r.toS ρ fun d μ1 => .rt d μ1
def R.xpr (r : R DV) (ρ : En) : SR := r.toS ρ fun _ μ1 => .nx ρ μ1
def R.sif (r : R Bool) (f h : DS) (ρ : En) : SR := r.toS ρ fun k μ1 => if k = true then f ρ μ1 else h ρ μ1
def R.asg (r : R DV) (t : DG) (ρ : En) : SR := r.toS ρ fun d μ1 => match t d ρ μ1 with
  | some ρ' => .nx ρ' μ1
  | none => .stuck
def R.par (i j : Nat) (r : R (List DV)) (ρ : En) : SR := r.toS ρ fun ds μ1 => match ds with
  | [d, e] => .nx ((ρ.set i (some d)).set j (some e)) μ1
  | _ => .stuck
@[simp] theorem sRet_ap {a : DE} : sRet a ρ μ = R.ret (a ρ μ) ρ := rfl
@[simp] theorem ret_ok : R.ret (.ok d μ) ρ = .rt d μ := rfl
@[simp] theorem ret_ex {c : Nat} {ns : List Str} {xs : List DV} : R.ret (.ex c ns xs μ) ρ = .ex c ns xs ρ μ := rfl
@[simp] theorem sExpr_ap {a : DE} : sExpr a ρ μ = R.xpr (a ρ μ) ρ := rfl
@[simp] theorem xpr_ok : R.xpr (.ok d μ) ρ = .nx ρ μ := rfl
@[simp] theorem sIf_ap {t : DT} {f h : DS} : sIf t f h ρ μ = R.sif (t ρ μ) f h ρ := rfl
@[simp] theorem sif_t {f h : DS} : R.sif (.ok true μ) f h ρ = f ρ μ := rfl
@[simp] theorem sif_f {f h : DS} : R.sif (.ok false μ) f h ρ = h ρ μ := rfl
@[simp] theorem sAsg_ap {a : DE} {t : DG} : sAsg a t ρ μ = R.asg (a ρ μ) t ρ := rfl
@[simp] theorem asg_ok {t : DG} : R.asg (.ok d μ) t ρ = match t d ρ μ with
  | some ρ' => .nx ρ' μ
  | none => .stuck := rfl
@[simp] theorem sPar_ap {i j : Nat} {r : DA} : sPar i j r ρ μ = R.par i j (r ρ μ) ρ := rfl
@[simp] theorem par_ok {i j : Nat} {d e : DV} : R.par i j (.ok [d, e] μ) ρ = .nx ((ρ.set i (some d)).set j (some e)) μ := rfl
def R.par3 (i j l : Nat) (r : R (List DV)) (ρ : En) : SR := r.toS ρ fun ds μ1 => match ds with
  | [d, e, f] => .nx (((ρ.set i (some d)).set j (some e)).set l (some f)) μ1
  | _ => .stuck
@[simp] theorem sPar3_ap {i j l : Nat} {r : DA} : sPar3 i j l r ρ μ = R.par3 i j l (r ρ μ) ρ := rfl
@[simp] theorem par3_ok {i j l : Nat} {d e f : DV} : R.par3 i j l (.ok [d, e, f] μ) ρ = .nx (((ρ.set i (some d)).set j (some e)).set l (some f)) μ := rfl
@[simp] theorem gUnl_ap {f : DGs} {n : Nat} {xs : List DV} : gUnl' f n (.lst xs) ρ μ = if xs.length = n then f xs ρ μ else none := rfl
@[simp] theorem gN_ap {i : Nat} : gN i d ρ μ = some (ρ.set i (some d)) := rfl
@[simp] theorem gNil_ap : gNil' [] ρ μ = some ρ := rfl
@[simp] theorem gCons_ap {f : DG} {fs : DGs} {ds : List DV} : gCons' f fs (d :: ds) ρ μ = (f d ρ μ).bind fun ρ' => fs ds ρ' μ := rfl
@[simp] theorem gTup_ap {f : DGs} {n : Nat} {xs : List DV} : gTup' f n (.tup xs) ρ μ = if xs.length = n then f xs ρ μ else none := rfl
def R.st1 (r : R DV) (o i : DE) (ρ : En) : SR := r.toS ρ fun y μ1 => (o ρ μ1).toS ρ fun d μ2 => (i ρ μ2).toS ρ fun k μ3 => match d, k with
  | .cell c, .int k => match μ3[c]? with
    | some (.lst xs) => match ixN xs.length k with
      | some j => .nx ρ (μ3.set c (.lst (xs.set j y)))
      | none => .stuck
    | _ => .stuck
  | _, _ => .stuck
def R.st2 (y : DV) (r : R DV) (i : DE) (ρ : En) : SR := r.toS ρ fun d μ2 => (i ρ μ2).toS ρ fun k μ3 => match d, k with
  | .cell c, .int k => match μ3[c]? with
    | some (.lst xs) => match ixN xs.length k with
      | some j => .nx ρ (μ3.set c (.lst (xs.set j y)))
      | none => .stuck
    | _ => .stuck
  | _, _ => .stuck
def setAt (c : Nat) (k : Int) (y : DV) (ρ : En) (μ3 : Sto) : SR := match μ3[c]? with
    | some (.lst xs) => match ixN xs.length k with
      | some j => .nx ρ (μ3.set c (.lst (xs.set j y)))
      | none => .stuck
    | _ => .stuck
def R.st3 (y d : DV) (r : R DV) (ρ : En) : SR := r.toS ρ fun k μ3 => match d, k with
  | .cell c, .int k => setAt c k y ρ μ3
  | _, _ => .stuck
@[simp] theorem sSetIx_ap {e o i : DE} : sSetIx e o i ρ μ = R.st1 (e ρ μ) o i ρ := rfl
@[simp] theorem st1_ok {y : DV} {o i : DE} : R.st1 (.ok y μ) o i ρ = R.st2 y (o ρ μ) i ρ := rfl
@[simp] theorem st2_ok {y : DV} {i : DE} : R.st2 y (.ok d μ) i ρ = R.st3 y d (i ρ μ) ρ := rfl
@[simp] theorem st3_ok {y : DV} {c : Nat} {k : Int} : R.st3 y (.cell c) (.ok (.int k) μ) ρ = setAt c k y ρ μ := rfl

theorem finF_same : finF μ.length d μ = .ok d μ := if_pos rfl
@[simp] theorem fin_same : fin .fz μ.length d μ = .ok d μ := finF_same
def SR.fin (md : Md) (n : Nat) (r : SR) : R DV := match r with
  | .nx _ μ' => SD.fin md n .non μ'
  | .rt d μ' => SD.fin md n d μ'
  | .ex c ns xs _ μ' => finX n c ns xs μ'
  | _ => .stuck
theorem runF_ap {md : Md} {np n : Nat} {b : DS} {ds : List DV} (h : ds.length = np) : runF md np n b ds μ = SR.fin md μ.length (b (ds.map some ++ List.replicate (n - ds.length) none) μ) := by
  unfold runF SR.fin
  rw [if_pos h]
  try (cases b (ds.map some ++ List.replicate (n - ds.length) none) μ <;> rfl)
@[simp] theorem sfin_rt {md : Md} {n : Nat} : SR.fin md n (.rt d μ) = fin md n d μ := rfl
@[simp] theorem sfin_nx {md : Md} {n : Nat} : SR.fin md n (.nx ρ μ) = fin md n .non μ := rfl
theorem fin_len {n : Nat} (h : μ.length = n) : fin .fz n d μ = .ok d μ := by subst h; exact finF_same

def loopD (t : DG) (f : DS) : List DV → DS
  | [] => fun ρ μ => .nx ρ μ
  | d :: ds => fun ρ μ => match t d ρ μ with
    | none => .stuck
    | some ρ1 => match f ρ1 μ with
      | .nx ρ' μ' => loopD t f ds ρ' μ'
      | .ct ρ' μ' => loopD t f ds ρ' μ'
      | .bk ρ' μ' => .nx ρ' μ'
      | r => r
theorem loopF_fix {t : DG} {f : DS} : ∀ (n k : Nat) (ds : List DV) (ρ : En) (μ : Sto), ds.length + 1 = n + k → k ≤ ds.length → loopF (.fix ds) t f n k ρ μ = loopD t f (ds.drop k) ρ μ
  | 0, k, ds, ρ, μ, h, hk => by omega
  | n + 1, k, ds, ρ, μ, h, hk => by
    unfold loopF
    show (match (some ds[k]? : Option (Option DV)) with
      | none => SR.stuck
      | some none => .nx ρ μ
      | some (some d) => match t d ρ μ with
        | none => .stuck
        | some ρ1 => match f ρ1 μ with
          | .nx ρ' μ' => loopF (.fix ds) t f n (k + 1) ρ' μ'
          | .ct ρ' μ' => loopF (.fix ds) t f n (k + 1) ρ' μ'
          | .bk ρ' μ' => .nx ρ' μ'
          | r => r) = _
    by_cases hl : k < ds.length
    · have e : ds[k]? = some ds[k] := List.getElem?_eq_getElem hl
      rw [List.drop_eq_getElem_cons hl, e]
      unfold loopD
      simp only
      cases t ds[k] ρ μ with
      | none => rfl
      | some ρ1 =>
        simp only
        cases f ρ1 μ with
        | nx ρ' μ' => exact loopF_fix n (k + 1) ds ρ' μ' (by omega) hl
        | ct ρ' μ' => exact loopF_fix n (k + 1) ds ρ' μ' (by omega) hl
        | _ => rfl
    · have e : ds[k]? = none := List.getElem?_eq_none_iff.mpr (by omega)
      rw [e, List.drop_eq_nil_of_le (by omega)]
      rfl
def R.for1 (r : R Wk) (t : DG) (f : DS) (ρ : En) : SR := r.toS ρ fun w μ1 => loopF w t f (wkLen w μ1 + 1) 0 ρ μ1
@[simp] theorem sFor_ap {it : DI} {t : DG} {f : DS} : sFor it t f ρ μ = R.for1 (it ρ μ) t f ρ := rfl
@[simp] theorem for1_fix {t : DG} {f : DS} {ds : List DV} : R.for1 (.ok (.fix ds) μ) t f ρ = loopD t f ds ρ μ := by
  show loopF (.fix ds) t f (ds.length + 1) 0 ρ μ = _
  rw [loopF_fix (ds.length + 1) 0 ds ρ μ rfl (Nat.zero_le _), List.drop_zero]
def R.seqi (r : R DV) : R Wk := r.bind fun d μ1 => R.of (wkOf d μ1) μ1
@[simp] theorem iSeq_ap {a : DE} : iSeq a ρ μ = R.seqi (a ρ μ) := rfl
@[simp] theorem seqi_ok : R.seqi (.ok d μ) = R.of (wkOf d μ) μ := rfl
def R.rg1 (r : R (List DV)) : R Wk := r.bind fun ds μ1 => R.of (rngOf1 ds) μ1
def R.rg2 (r : R (List DV)) : R Wk := r.bind fun ds μ1 => R.of (rngOf2 ds) μ1
@[simp] theorem iRng1_ap {r : DA} : iRng1' r ρ μ = R.rg1 (r ρ μ) := rfl
@[simp] theorem iRng2_ap {r : DA} : iRng2' r ρ μ = R.rg2 (r ρ μ) := rfl
@[simp] theorem rg1_ok {ds : List DV} : R.rg1 (.ok ds μ) = R.of (rngOf1 ds) μ := rfl
@[simp] theorem rg2_ok {ds : List DV} : R.rg2 (.ok ds μ) = R.of (rngOf2 ds) μ := rfl
/-- turn by turn, an invariant -/
theorem loopD_inv {t : DG} {f : DS} (I : En → Sto → Prop) : ∀ (ds : List DV) (ρ : En) (μ : Sto), I ρ μ → (∀ d ∈ ds, ∀ ρ μ, I ρ μ → ∃ ρ1, t d ρ μ = some ρ1 ∧ ∃ ρ' μ', (f ρ1 μ = .nx ρ' μ' ∨ f ρ1 μ = .ct ρ' μ') ∧ I ρ' μ') →
    ∃ ρ' μ', loopD t f ds ρ μ = .nx ρ' μ' ∧ I ρ' μ'
  | [], ρ, μ, h, _ => ⟨ρ, μ, rfl, h⟩
  | d :: ds, ρ, μ, h, ht => by
    obtain ⟨ρ1, e1, ρ', μ', e2, h2⟩ := ht d (by simp) ρ μ h
    obtain ⟨ρ2, μ2, e3, h3⟩ := loopD_inv I ds ρ' μ' h2 fun d hd => ht d (List.mem_cons_of_mem _ hd)
    refine ⟨ρ2, μ2, ?_, h3⟩
    unfold loopD
    rw [e1]
    simp only
    rcases e2 with e2 | e2 <;> rw [e2] <;> exact e3

def compD (t : DG) (tt : DT) (te : DE) (ρ : En) : List DV → Sto → R (List DV)
  | [], μ => .ok [] μ
  | d :: ds, μ => match t d ρ μ with
    | none => .stuck
    | some ρ1 => (tt ρ1 μ).nox.bind fun b μ1 => if b = true then (te ρ1 μ1).nox.bind fun y μ2 => (compD t tt te ρ ds μ2).bind fun ys μ3 => .ok (y :: ys) μ3 else compD t tt te ρ ds μ1
theorem loopL_fix {t : DG} {tt : DT} {te : DE} {ρ : En} : ∀ (n k : Nat) (ds : List DV) (μ : Sto), ds.length + 1 = n + k → k ≤ ds.length → loopL (.fix ds) t tt te ρ n k μ = compD t tt te ρ (ds.drop k) μ
  | 0, k, ds, μ, h, hk => by omega
  | n + 1, k, ds, μ, h, hk => by
    unfold loopL
    show (match (some ds[k]? : Option (Option DV)) with
      | none => R.stuck
      | some none => .ok [] μ
      | some (some d) => match t d ρ μ with
        | none => .stuck
        | some ρ1 => (tt ρ1 μ).nox.bind fun b μ1 => if b = true then (te ρ1 μ1).nox.bind fun y μ2 => (loopL (.fix ds) t tt te ρ n (k + 1) μ2).bind fun ys μ3 => .ok (y :: ys) μ3 else loopL (.fix ds) t tt te ρ n (k + 1) μ1) = _
    by_cases hl : k < ds.length
    · have e : ds[k]? = some ds[k] := List.getElem?_eq_getElem hl
      rw [List.drop_eq_getElem_cons hl, e]
      unfold compD
      simp only
      have ih : ∀ μ, loopL (.fix ds) t tt te ρ n (k + 1) μ = compD t tt te ρ (ds.drop (k + 1)) μ := fun μ => loopL_fix n (k + 1) ds μ (by omega) hl
      simp only [ih]
    · have e : ds[k]? = none := List.getElem?_eq_none_iff.mpr (by omega)
      rw [e, List.drop_eq_nil_of_le (by omega)]
      rfl
def R.lc1 (r : R Wk) (t : DG) (tt : DT) (te : DE) (ρ : En) : R (List DV) := r.bind fun w μ1 => if okLen (wkLen w μ1 + 1) = true then loopL w t tt te ρ (wkLen w μ1 + 1) 0 μ1 else .stuck
@[simp] theorem eLc_ap {it : DI} {t : DG} {tt : DT} {te : DE} {vs : List Nat} : eLc it t tt te vs ρ μ = R.mk (fun ys μ1 => .ok (.lst ys) μ1) (R.lc1 (it ρ μ) t tt te (wipeE ρ vs)) := rfl
@[simp] theorem eLcC_ap {it : DI} {t : DG} {tt : DT} {te : DE} {vs : List Nat} : eLcC it t tt te vs ρ μ = R.mk (fun ys μ1 => .ok (.cell μ1.length) (μ1 ++ [.lst ys])) (R.lc1 (it ρ μ) t tt te (wipeE ρ vs)) := rfl
theorem lc1_fix {t : DG} {tt : DT} {te : DE} {ds : List DV} (h : ds.length < 16777216) : R.lc1 (.ok (.fix ds) μ) t tt te ρ = compD t tt te ρ ds μ := by
  show (if okLen (ds.length + 1) = true then loopL (.fix ds) t tt te ρ (ds.length + 1) 0 μ else .stuck) = _
  rw [if_pos (okLen_small h), loopL_fix (ds.length + 1) 0 ds μ rfl (Nat.zero_le _), List.drop_zero]
@[simp] theorem tYes_ap : tYes' ρ μ = .ok true μ := rfl
end
end SD

set_option Elab.async false
set_option linter.all false
set_option maxRecDepth 100000
set_option maxHeartbeats 4000000
namespace Lw
abbrev Dr2 := Int × Int
def crs (a b : Dr2) : Int := a.1 * b.2 - a.2 * b.1
/-- in the first half of the round -/
def up (d : Dr2) : Bool := decide (0 < d.2) || (decide (d.2 = 0) && decide (0 < d.1))
def hlf (d : Dr2) : Int := if up d = true then 0 else 1
def ahd (a b : Dr2) : Bool := decide (hlf a < hlf b) || (decide (hlf a = hlf b) && decide (0 < crs a b))
/-- told in least numbers -/
def Prm (d : Dr2) : Prop := Int.gcd d.1 d.2 = 1
theorem up_iff {d : Dr2} : up d = true ↔ 0 < d.2 ∨ (d.2 = 0 ∧ 0 < d.1) := by unfold up; simp
theorem hlf_up {d : Dr2} (h : up d = true) : hlf d = 0 := if_pos h
theorem hlf_dn {d : Dr2} (h : ¬ up d = true) : hlf d = 1 := if_neg h
theorem ahd_iff {a b : Dr2} : ahd a b = true ↔ hlf a < hlf b ∨ (hlf a = hlf b ∧ 0 < crs a b) := by unfold ahd; simp
theorem crs_self {a : Dr2} : crs a a = 0 := by unfold crs; rw [Int.mul_comm a.2 a.1]; omega
theorem crs_anti {a b : Dr2} : crs b a = - crs a b := by unfold crs; grind
theorem ahd_irr {a : Dr2} : ahd a a = false := by
  cases h : ahd a a with
  | false => rfl
  | true =>
    rcases ahd_iff.mp h with h | h
    · omega
    · rw [crs_self] at h; omega
theorem ahd_anti {a b : Dr2} (h : ahd a b = true) : ahd b a = false := by
  cases h' : ahd b a with
  | false => rfl
  | true =>
    rcases ahd_iff.mp h with h | h <;> rcases ahd_iff.mp h' with h' | h'
    · omega
    · omega
    · omega
    · have := @crs_anti a b; omega
/-- those of one half, of a cross that is not above 0 either way, are told alike -/
theorem prm_nz {d : Dr2} (h : Prm d) : d ≠ (0, 0) := by
  rintro rfl
  unfold Prm at h
  simp at h
theorem cop {x y z : Int} (h : x ∣ y * z) (g : Int.gcd x y = 1) : x ∣ z := by
  have h1 : x.natAbs ∣ y.natAbs * z.natAbs := by rw [← Int.natAbs_mul]; exact Int.natAbs_dvd_natAbs.mpr h
  exact Int.natAbs_dvd_natAbs.mp (Nat.Coprime.dvd_of_dvd_mul_left (show Nat.Coprime x.natAbs y.natAbs from g) h1)
theorem par_eq {a b : Dr2} (ha : Prm a) (hb : Prm b) (hh : hlf a = hlf b) (hc : crs a b = 0) : a = b := by
  have ha' : Int.gcd a.1 a.2 = 1 := ha
  have hb' : Int.gcd b.1 b.2 = 1 := hb
  have e : a.1 * b.2 = a.2 * b.1 := by unfold crs at hc; omega
  have d1 : a.1 ∣ b.1 := by
    have : a.1 ∣ a.2 * b.1 := ⟨b.2, e.symm⟩
    exact cop this ha'
  have d2 : b.1 ∣ a.1 := by
    have : b.1 ∣ b.2 * a.1 := ⟨a.2, by rw [Int.mul_comm b.2 a.1, e, Int.mul_comm]⟩
    exact cop this hb'
  have d3 : a.2 ∣ b.2 := by
    have : a.2 ∣ a.1 * b.2 := ⟨b.1, e⟩
    exact cop this (by rw [Int.gcd_comm]; exact ha')
  have d4 : b.2 ∣ a.2 := by
    have : b.2 ∣ b.1 * a.2 := ⟨a.1, by rw [Int.mul_comm b.1 a.2, ← e, Int.mul_comm]⟩
    exact cop this (by rw [Int.gcd_comm]; exact hb')
  have n1 : a.1.natAbs = b.1.natAbs := Nat.dvd_antisymm (Int.natAbs_dvd_natAbs.mpr d1) (Int.natAbs_dvd_natAbs.mpr d2)
  have n2 : a.2.natAbs = b.2.natAbs := Nat.dvd_antisymm (Int.natAbs_dvd_natAbs.mpr d3) (Int.natAbs_dvd_natAbs.mpr d4)
  have za := prm_nz ha
  have sgn : (up a = true ↔ up b = true) := by
    constructor <;> intro h
    · cases hb : up b with
      | true => rfl
      | false => rw [hlf_up h, hlf_dn (by rw [hb]; decide)] at hh; omega
    · cases hb : up a with
      | true => rfl
      | false => rw [hlf_up h, hlf_dn (by rw [hb]; decide)] at hh; omega
  rw [up_iff, up_iff] at sgn
  have z : a.1 ≠ 0 ∨ a.2 ≠ 0 := by
    by_cases h : a.1 = 0
    · exact .inr fun h2 => za (Prod.ext h h2)
    · exact .inl h
  rcases Int.natAbs_eq_natAbs_iff.mp n1 with c1 | c1 <;> rcases Int.natAbs_eq_natAbs_iff.mp n2 with c2 | c2
  · exact Prod.ext c1 c2
  · by_cases h2 : b.2 = 0
    · exact Prod.ext c1 (by rw [c2, h2]; rfl)
    · by_cases h1 : b.1 = 0
      · rw [h1] at c1
        exfalso
        omega
      · exfalso
        rw [c1, c2] at e
        have : b.1 * b.2 = 0 := by
          have e2 : -(b.1 * b.2) = b.1 * b.2 := by have := e; grind
          omega
        rcases Int.mul_eq_zero.mp this with h | h
        · exact h1 h
        · exact h2 h
  · by_cases h1 : b.1 = 0
    · exact Prod.ext (by rw [c1, h1]; rfl) c2
    · by_cases h2 : b.2 = 0
      · exfalso
        omega
      · exfalso
        rw [c1, c2] at e
        have : b.1 * b.2 = 0 := by
          have e2 : -(b.1 * b.2) = b.1 * b.2 := by have := e; grind
          omega
        rcases Int.mul_eq_zero.mp this with h | h
        · exact h1 h
        · exact h2 h
  · exfalso
    omega
theorem ahd_tot {a b : Dr2} (ha : Prm a) (hb : Prm b) (hne : a ≠ b) (h : ahd a b = false) : ahd b a = true := by
  rw [ahd_iff]
  have n : ¬ (hlf a < hlf b ∨ (hlf a = hlf b ∧ 0 < crs a b)) := fun z => by rw [ahd_iff.mpr z] at h; cases h
  by_cases e : hlf a = hlf b
  · refine .inr ⟨e.symm, ?_⟩
    have c := @crs_anti a b
    have : crs a b ≠ 0 := fun z => hne (par_eq ha hb e z)
    omega
  · left; omega
theorem crs_id (a b c : Dr2) : crs a c * b.2 = crs a b * c.2 + crs b c * a.2 := by unfold crs; grind
theorem crs_trans {a b c : Dr2} (h1 : hlf a = hlf b) (h2 : hlf b = hlf c) (p : 0 < crs a b) (q : 0 < crs b c) : 0 < crs a c := by
  have pos : ∀ {x y : Int}, 0 < x → 0 ≤ y → 0 ≤ x * y := fun hx hy => Int.mul_nonneg (by omega) hy
  have up3 : ∀ {a b c : Dr2}, up a = true → up b = true → up c = true → 0 < crs a b → 0 < crs b c → 0 < crs a c := by
    intro a b c ua ub uc p q
    rw [up_iff] at ua ub uc
    have i2 := crs_id a b c
    by_cases hb : 0 < b.2
    · have hc : c.2 > 0 ∨ a.2 > 0 := by
        by_cases ha : 0 < a.2
        · exact .inr ha
        · left
          have ha0 : a.2 = 0 := by omega
          by_cases hc : 0 < c.2
          · exact hc
          · exfalso
            have hc0 : c.2 = 0 := by omega
            have : crs b c = - (b.2 * c.1) := by unfold crs; rw [hc0]; grind
            have : 0 < b.2 * c.1 := Int.mul_pos hb (by omega)
            omega
      have : 0 < crs a c * b.2 := by
        rw [i2]
        rcases hc with hc | hc
        · have := Int.mul_pos p hc
          have := pos q (show 0 ≤ a.2 by omega)
          omega
        · have := Int.mul_pos q hc
          have := pos p (show 0 ≤ c.2 by omega)
          omega
      rcases Int.lt_trichotomy (crs a c) 0 with h | h | h
      · exfalso
        have := Int.mul_neg_of_neg_of_pos h hb
        omega
      · rw [h, Int.zero_mul] at this; omega
      · exact h
    · have hb0 : b.2 = 0 := by omega
      have hb1 : 0 < b.1 := by omega
      have : crs a b = - (a.2 * b.1) := by unfold crs; rw [hb0]; grind
      have ha : 0 ≤ a.2 * b.1 := Int.mul_nonneg (by omega) (by omega)
      omega
  cases ua : up a with
  | true =>
    have ub : up b = true := by
      cases u : up b with
      | true => rfl
      | false => rw [hlf_up ua, hlf_dn (by rw [u]; decide)] at h1; omega
    have uc : up c = true := by
      cases u : up c with
      | true => rfl
      | false => rw [hlf_up ub, hlf_dn (by rw [u]; decide)] at h2; omega
    exact up3 ua ub uc p q
  | false =>
    have da : ¬ up a = true := by rw [ua]; decide
    have db : ¬ up b = true := fun u => by rw [hlf_up u, hlf_dn da] at h1; omega
    have dc : ¬ up c = true := fun u => by rw [hlf_up u, hlf_dn db] at h2; omega
    have na : a ≠ (0, 0) := by rintro rfl; unfold crs at p; simp at p
    have nb : b ≠ (0, 0) := by rintro rfl; unfold crs at q; simp at q
    have nc : c ≠ (0, 0) := by rintro rfl; unfold crs at q; simp at q
    have upn : ∀ {d : Dr2}, d ≠ (0, 0) → ¬ up d = true → up (-d.1, -d.2) = true := fun {d} hn h => by
      rw [up_iff] at h ⊢
      simp only
      have : d.1 ≠ 0 ∨ d.2 ≠ 0 := by
        by_cases h1 : d.1 = 0
        · exact .inr fun h2 => hn (Prod.ext h1 h2)
        · exact .inl h1
      omega
    have cn : ∀ x y : Dr2, crs (-x.1, -x.2) (-y.1, -y.2) = crs x y := fun x y => by unfold crs; simp only; grind
    have := up3 (upn na da) (upn nb db) (upn nc dc) (by rw [cn]; exact p) (by rw [cn]; exact q)
    rw [cn] at this
    exact this
theorem ahd_trans {a b c : Dr2} (h1 : ahd a b = true) (h2 : ahd b c = true) : ahd a c = true := by
  rw [ahd_iff] at *
  rcases h1 with h1 | ⟨e1, p⟩ <;> rcases h2 with h2 | ⟨e2, q⟩
  · left; omega
  · left; omega
  · left; omega
  · exact .inr ⟨e1.trans e2, crs_trans e1 e2 p q⟩
abbrev Srt (l : List Dr2) : Prop := l.Pairwise fun a b => ahd a b = true
/-- the law's: each put behind those that are ahead of it -/
def ins (l : List Dr2) (d : Dr2) : List Dr2 := if d ∈ l then l else l.take (l.filter fun e => ahd e d).length ++ d :: l.drop (l.filter fun e => ahd e d).length
theorem filter_take {d : Dr2} : ∀ {l : List Dr2}, Srt l → (∀ e ∈ l, Prm e) → Prm d → d ∉ l → (∀ e ∈ l.take (l.filter fun e => ahd e d).length, ahd e d = true) ∧ ∀ e ∈ l.drop (l.filter fun e => ahd e d).length, ahd d e = true
  | [], _, _, _, _ => by simp
  | z :: l, hs, hp, pd, hn => by
    obtain ⟨s1, s2⟩ := List.pairwise_cons.mp hs
    by_cases h : ahd z d = true
    · rw [List.filter_cons_of_pos (p := fun e => ahd e d) h, List.length_cons, List.take_succ_cons, List.drop_succ_cons]
      obtain ⟨i1, i2⟩ := filter_take s2 (fun e he => hp e (List.mem_cons_of_mem _ he)) pd fun w => hn (List.mem_cons_of_mem _ w)
      refine ⟨fun e he => ?_, i2⟩
      rcases List.mem_cons.mp he with c | c
      · rw [c]; exact h
      · exact i1 e c
    · have hz : ahd d z = true := ahd_tot (hp z List.mem_cons_self) pd (fun e => hn (by rw [e]; exact List.mem_cons_self)) (by simpa using h)
      have hall : ∀ e ∈ z :: l, ahd d e = true := fun e he => by
        rcases List.mem_cons.mp he with c | c
        · rw [c]; exact hz
        · exact ahd_trans hz (s1 e c)
      have hf : (z :: l).filter (fun e => ahd e d) = [] := List.filter_eq_nil_iff.mpr fun e he hc => by
        rw [ahd_anti (hall e he)] at hc; cases hc
      rw [hf]
      exact ⟨fun e he => by simp at he, fun e he => hall e (by simpa using he)⟩
theorem ins_srt {l : List Dr2} {d : Dr2} (hs : Srt l) (hp : ∀ e ∈ l, Prm e) (pd : Prm d) : Srt (ins l d) := by
  unfold ins
  split
  · exact hs
  · rename_i hn
    obtain ⟨h1, h2⟩ := filter_take hs hp pd hn
    refine List.pairwise_append.mpr ⟨hs.sublist (List.take_sublist _ _), List.pairwise_cons.mpr ⟨h2, hs.sublist (List.drop_sublist _ _)⟩, fun a ha b hb => ?_⟩
    rcases List.mem_cons.mp hb with e | e
    · rw [e]; exact h1 a ha
    · exact ahd_trans (h1 a ha) (h2 b e)
theorem mem_ins {l : List Dr2} {d x : Dr2} : x ∈ ins l d ↔ x ∈ l ∨ x = d := by
  unfold ins
  split
  · rename_i h
    exact ⟨.inl, fun z => z.elim id fun e => e ▸ h⟩
  · rw [List.mem_append, List.mem_cons]
    constructor
    · rintro (h | h | h)
      · exact .inl (List.mem_of_mem_take h)
      · exact .inr h
      · exact .inl (List.mem_of_mem_drop h)
    · rintro (h | h)
      · rw [← List.take_append_drop (l.filter fun e => ahd e d).length l] at h
        rcases List.mem_append.mp h with h | h
        · exact .inl h
        · exact .inr (.inr h)
      · exact .inr (.inl h)
def rounded (ds : List Dr2) : List Dr2 := ds.foldl ins []
theorem rounded_ok : ∀ {ds l : List Dr2}, Srt l → (∀ e ∈ l, Prm e) → (∀ e ∈ ds, Prm e) → Srt (ds.foldl ins l) ∧ (∀ x, x ∈ ds.foldl ins l ↔ x ∈ l ∨ x ∈ ds)
  | [], l, h, _, _ => ⟨h, fun x => by simp⟩
  | d :: ds, l, h, hl, hd => by
    obtain ⟨i1, i2⟩ := rounded_ok (ds := ds) (ins_srt h hl (hd d List.mem_cons_self)) (fun e he => by
      rcases mem_ins.mp he with c | c
      · exact hl e c
      · rw [c]; exact hd d List.mem_cons_self) fun e he => hd e (List.mem_cons_of_mem _ he)
    refine ⟨i1, fun x => ?_⟩
    rw [List.foldl_cons, i2, mem_ins, List.mem_cons]
    constructor
    · rintro ((h | h) | h)
      · exact .inl h
      · exact .inr (.inl h)
      · exact .inr (.inr h)
    · rintro (h | h | h)
      · exact .inl (.inl h)
      · exact .inl (.inr h)
      · exact .inr h
theorem srt_nodup {l : List Dr2} (h : Srt l) : l.Nodup := h.imp fun {a b} z e => by
  subst e
  rw [ahd_irr] at z; cases z
end Lw

set_option Elab.async false
set_option linter.all false
set_option maxRecDepth 100000
set_option maxHeartbeats 4000000
namespace Lw
open PySem PySem.Spec PyProof.Rows L2 SD
section
variable {μ : Sto} {a b : Int}
@[simp] theorem vAdd_i : vAdd (.int a) (.int b) μ = some (.int (a + b)) := rfl
@[simp] theorem vSub_i : vSub (.int a) (.int b) μ = some (.int (a - b)) := rfl
@[simp] theorem vNeg_i : vNeg (.int a) μ = some (.int (-a)) := rfl
theorem vMul_r (h : b.natAbs < 18446744073709551616) : vMul (.int a) (.int b) μ = some (.int (a * b)) := by
  have : mulOk a b = true := by unfold mulOk; simp [h]
  show (if mulOk a b = true then some (DV.int (a * b)) else none) = _
  rw [if_pos this]
theorem vMul_l (h : a.natAbs < 18446744073709551616) : vMul (.int a) (.int b) μ = some (.int (a * b)) := by
  have : mulOk a b = true := by unfold mulOk; simp [h]
  show (if mulOk a b = true then some (DV.int (a * b)) else none) = _
  rw [if_pos this]
theorem vMod_i (h : 0 < b) : vMod (.int a) (.int b) μ = some (.int (a % b)) := by
  show (if decide (0 < b) = true then some (DV.int (a % b)) else none) = _
  rw [if_pos (decide_eq_true h)]
theorem vDiv_i (h : 0 < b) (h' : b < 1073741824) : vDiv (.int a) (.int b) μ = some (.int (a / b)) := by
  unfold vDiv
  simp [h, h']
theorem vPow_i {n : Nat} (h : n ≤ 1000000) (h' : a.natAbs < 18446744073709551616) : vPow (.int a) (.int (n : Int)) μ = some (.int (a ^ n)) := by
  show (if (decide ((0 : Int) ≤ n) && decide ((n : Int) ≤ 1000000) && decide (a.natAbs < 2 ^ 64)) = true then some (DV.int (a ^ (n : Int).toNat)) else none) = _
  rw [if_pos (by simp [h']; omega)]
  rfl
@[simp] theorem vEq_i : vEq (.int a) (.int b) μ = some (.bl (decide (a = b))) := by
  show some (DV.bl (PyData.eqv (.int a) (.int b))) = _
  simp [PyData.eqv]; rfl
@[simp] theorem vNe_i : vNe (.int a) (.int b) μ = some (.bl (!decide (a = b))) := by
  show some (DV.bl (!PyData.eqv (.int a) (.int b))) = _
  simp [PyData.eqv]; rfl
@[simp] theorem vLt_i : vLt (.int a) (.int b) μ = some (.bl (decide (a < b))) := rfl
@[simp] theorem vLe_i : vLe (.int a) (.int b) μ = some (.bl (decide (a ≤ b))) := rfl
@[simp] theorem vGt_i : vGt (.int a) (.int b) μ = some (.bl (decide (b < a))) := rfl
@[simp] theorem vGe_i : vGe (.int a) (.int b) μ = some (.bl (decide (b ≤ a))) := rfl
@[simp] theorem vInt_i : vInt [.int a] μ = some (.int a) := rfl
@[simp] theorem vAbs_i : vAbs [.int a] μ = some (.int (if a < 0 then -a else a)) := rfl
@[simp] theorem vLen_l {xs : List DV} : vLen [.lst xs] μ = some (.int xs.length) := rfl
@[simp] theorem vLen_t {xs : List DV} : vLen [.tup xs] μ = some (.int xs.length) := rfl
@[simp] theorem runF0 {md : Md} {n : Nat} {b : DS} : runF md 0 n b [] μ = SR.fin md μ.length (b ([] ++ List.replicate n none) μ) := runF_ap rfl
@[simp] theorem runF1 {md : Md} {n : Nat} {b : DS} {x : DV} : runF md 1 n b [x] μ = SR.fin md μ.length (b ([some x] ++ List.replicate (n - 1) none) μ) := runF_ap rfl
@[simp] theorem runF2 {md : Md} {n : Nat} {b : DS} {x y : DV} : runF md 2 n b [x, y] μ = SR.fin md μ.length (b ([some x, some y] ++ List.replicate (n - 2) none) μ) := runF_ap rfl
@[simp] theorem runF3 {md : Md} {n : Nat} {b : DS} {x y z : DV} : runF md 3 n b [x, y, z] μ = SR.fin md μ.length (b ([some x, some y, some z] ++ List.replicate (n - 3) none) μ) := runF_ap rfl
@[simp] theorem fin_cons {d : DV} {x : CO} : fin .fz (μ.length + 1) d (x :: μ) = .ok d (x :: μ) := fin_len rfl
@[simp] theorem fin_cons1 {d : DV} {x : CO} : fin .fz 1 d [x] = .ok d [x] := fin_len rfl
theorem atI_nat {α : Type} {xs : List α} {k : Nat} (h : k < xs.length) : atI xs (k : Int) = xs[k]? := by
  unfold atI ixN
  rw [if_pos (by omega), if_pos (by omega)]
  rfl
end
section
variable {μ : Sto}
@[simp] theorem vIsi_ty {d : DV} {t : T7} : vIsi [d, .ty t] μ = (tyOf μ d).map fun a => .bl (a.sub t) := rfl
@[simp] theorem ty_non : tyOf μ .non = some .non := rfl
@[simp] theorem ty_bl {b : Bool} : tyOf μ (.bl b) = some .bl := rfl
@[simp] theorem ty_int {b : Int} : tyOf μ (.int b) = some .int := rfl
@[simp] theorem ty_str {b : Str} : tyOf μ (.str b) = some .str := rfl
@[simp] theorem ty_tup {b : List DV} : tyOf μ (.tup b) = some .tup := rfl
@[simp] theorem ty_lst {b : List DV} : tyOf μ (.lst b) = some .lst := rfl
@[simp] theorem ty_dct {b : List Key} {c : List DV} : tyOf μ (.dct b c) = some .dct := rfl
@[simp] theorem tup0 {xs : List DV} {x : DV} : vIx (.tup (x :: xs)) (.int 0) μ = some x := by
  show atI (x :: xs) ((0 : Nat) : Int) = _
  rw [atI_nat (by simp)] <;> rfl
@[simp] theorem tup1 {xs : List DV} {x y : DV} : vIx (.tup (x :: y :: xs)) (.int 1) μ = some y := by
  show atI (x :: y :: xs) ((1 : Nat) : Int) = _
  rw [atI_nat (by simp)] <;> rfl
theorem vAll_map {α : Type} (l : List α) (p : α → Bool) : vAll [.lst (l.map fun x => .bl (p x))] μ = some (.bl (l.all p)) := by
  have : ∀ l : List α, asBs (l.map fun x => .bl (p x)) = some (l.map p) := by
    intro l
    induction l with
    | nil => rfl
    | cons a l ih => simp [asBs, ih]
  show (asBs (l.map fun x => .bl (p x))).map (fun bs => DV.bl (bs.all id)) = _
  rw [this]
  simp
theorem gcd_step (x y : Int) (hx : 0 ≤ x) (hy : 0 < y) : Int.gcd x y = Int.gcd y (x % y) := by
  obtain ⟨a, rfl⟩ := Int.eq_ofNat_of_zero_le hx
  obtain ⟨b, rfl⟩ := Int.eq_ofNat_of_zero_le (by omega : 0 ≤ y)
  have : ((a : Int) % (b : Int)) = ((a % b : Nat) : Int) := by simp
  rw [this]
  simp only [Int.gcd_natCast_natCast]
  rw [Nat.gcd_comm, Nat.gcd_rec, Nat.gcd_comm]
theorem abs_eq (a : Int) : (if a < 0 then -a else a) = (a.natAbs : Int) := by split <;> omega
@[simp] theorem vIsi_lt {d : DV} : vIsi [d, .tup [.ty .lst, .ty .tup]] μ = (tyOf μ d).map fun a => .bl (a.sub .lst || a.sub .tup) := by
  show (match tyOf μ d, asTys [.ty .lst, .ty .tup] with
    | some a, some ts => some (DV.bl (ts.any fun t => a.sub t))
    | _, _ => none) = _
  have : asTys [.ty .lst, .ty .tup] = some [.lst, .tup] := rfl
  rw [this]
  cases tyOf μ d with
  | none => rfl
  | some a => simp
@[simp] theorem vEq_b {a b : Bool} : vEq (.bl a) (.bl b) μ = some (.bl (a == b)) := rfl
@[simp] theorem vNe_b {a b : Bool} : vNe (.bl a) (.bl b) μ = some (.bl (!(a == b))) := rfl
@[simp] theorem lst0 {xs : List DV} {x : DV} : vIx (.lst (x :: xs)) (.int 0) μ = some x := by
  show atI (x :: xs) ((0 : Nat) : Int) = _
  rw [atI_nat (by simp)] <;> rfl
@[simp] theorem lst1 {xs : List DV} {x y : DV} : vIx (.lst (x :: y :: xs)) (.int 1) μ = some y := by
  show atI (x :: y :: xs) ((1 : Nat) : Int) = _
  rw [atI_nat (by simp)] <;> rfl
theorem rng_n {n : Nat} (h : n ≤ 1000) : rngOf1 [.int (n : Int)] = some (.fix ((List.range n).map fun (i : Nat) => DV.int (i : Int))) := by
  have hb : inB (n : Int) = true := by
    exact Nat.ble_eq_true_of_le (by show n ≤ _; omega)
  simp only [rngOf1, hb, if_true, Int.toNat_natCast, Int.zero_add]
theorem lc_rng {n : Nat} (h : n ≤ 1000) {t : DG} {tt : DT} {te : DE} {ρ : En} : R.lc1 (.ok (.fix ((List.range n).map fun (i : Nat) => DV.int (i : Int))) μ) t tt te ρ = compD t tt te ρ ((List.range n).map fun (i : Nat) => DV.int (i : Int)) μ := lc1_fix (by rw [List.length_map, List.length_range]; omega)
end
end Lw

set_option Elab.async false
set_option linter.all false
set_option maxRecDepth 100000
set_option maxHeartbeats 4000000
namespace Lw
open PySem PySem.Spec PyProof.Rows L2 SD
abbrev Pt := Dr2
def ptD (p : Pt) : DV := .tup [.int p.1, .int p.2]
section
variable {μ : Sto} {ρ : En} {α : Type}
@[simp] theorem pt0 {p : Pt} : vIx (ptD p) (.int 0) μ = some (.int p.1) := tup0
@[simp] theorem pt1 {p : Pt} : vIx (ptD p) (.int 1) μ = some (.int p.2) := tup1
theorem compD_mapL {t : DG} {te : DE} (h g : α → DV) : ∀ (l : List α), (∀ x ∈ l, ∃ ρ1, t (h x) ρ μ = some ρ1 ∧ te ρ1 μ = .ok (g x) μ) → compD t tYes' te ρ (l.map h) μ = .ok (l.map g) μ
  | [], _ => rfl
  | d :: ds, hh => by
    obtain ⟨ρ1, e1, e2⟩ := hh d (by simp)
    rw [List.map_cons, List.map_cons]
    unfold compD
    rw [e1]
    show (te ρ1 μ).nox.bind _ = _
    rw [e2]
    show (compD t tYes' te ρ (ds.map h) μ).bind _ = _
    rw [compD_mapL h g ds fun d hd => hh d (List.mem_cons_of_mem _ hd)]
    rfl
theorem wk_tup {xs : List DV} : wkOf (.tup xs) μ = some (.fix xs) := rfl
end
section
variable {μ : Sto} {ρ : En} {α : Type}
def p0 : DV → Bool
  | .str _ | .non | .bl _ | .int _ | .tup _ | .lst _ | .dct _ _ => true
  | _ => false
def p1 : DV → Bool
  | .tup xs => xs.all p0
  | d => p0 d
def wholeB : DV → Bool
  | .int _ => true
  | _ => false
def numB (lo hi : Int) : DV → Bool
  | .int i => decide (lo ≤ i) && decide (i ≤ hi)
  | _ => false
def pairB (m : Int) : DV → Bool
  | .tup [x, y] => numB (-m) m x && numB (-m) m y
  | _ => false
theorem whole1 {d : DV} (h : p0 d = true) : f_is_whole [d] μ = .ok (.bl (wholeB d)) μ := by
  unfold f_is_whole
  rw [runF1]
  unfold b_is_whole
  cases d <;> first | (simp [p0] at h; done) | simp [T7.sub, wholeB]
theorem numb1 {d : DV} {lo hi : Int} (h : p0 d = true) : f_is_number [d, .int lo, .int hi] μ = .ok (.bl (numB lo hi d)) μ := by
  unfold f_is_number
  rw [runF3]
  unfold b_is_number
  cases d with
  | int i => by_cases h1 : lo ≤ i <;> simp [whole1 h, wholeB, numB, h1]
  | _ => simp [whole1 h, wholeB, numB]
theorem all_two {xs : List DV} {p : DV → Bool} (h : xs.all p = true) (hl : xs.length = 2) : ∃ x y, xs = [x, y] ∧ p x = true ∧ p y = true := by
  match xs, hl with
  | [x, y], _ => exact ⟨x, y, rfl, by simp at h; exact h.1, by simp at h; exact h.2⟩
theorem pairB_len {m : Int} {xs : List DV} (h : xs.length ≠ 2) : pairB m (.tup xs) = false := by
  match xs with
  | [] => rfl
  | [_] => rfl
  | [_, _] => exact absurd rfl h
  | _ :: _ :: _ :: _ => rfl
theorem pair1 {d : DV} {m : Int} (h : p1 d = true) : f_is_pair [d, .int m] μ = .ok (.bl (pairB m d)) μ := by
  unfold f_is_pair
  rw [runF2]
  unfold b_is_pair
  cases d with
  | tup xs =>
    by_cases hl : xs.length = 2
    · obtain ⟨x, y, rfl, hx, hy⟩ := all_two (p := p0) h hl
      by_cases hn : numB (-m) m x = true <;> simp [T7.sub, numb1, hx, hy, pairB, hn]
    · have : ¬ (xs.length : Int) = 2 := by omega
      simp [T7.sub, pairB_len hl, this]
  | _ => first | (simp [p1, p0] at h; done) | simp [T7.sub, pairB]
theorem lc_l {xs : List DV} (h : xs.length ≤ 1000000) {t : DG} {tt : DT} {te : DE} : R.lc1 (.ok (.fix xs) μ) t tt te ρ = compD t tt te ρ xs μ := lc1_fix (by omega)
theorem vAdd_l {xs ys : List DV} (h : xs.length + ys.length ≤ 16777216) : vAdd (.lst xs) (.lst ys) μ = some (.lst (xs ++ ys)) := by
  show (if okLen (xs.length + ys.length) = true then some (DV.lst (xs ++ ys)) else none) = _
  rw [if_pos (okLen_small h)]
theorem compD_filterL {t : DG} {tt : DT} {te : DE} (h g : α → DV) (p : α → Bool) : ∀ (l : List α), (∀ x ∈ l, ∃ ρ1, t (h x) ρ μ = some ρ1 ∧ tt ρ1 μ = .ok (p x) μ ∧ (p x = true → te ρ1 μ = .ok (g x) μ)) → compD t tt te ρ (l.map h) μ = .ok ((l.filter p).map g) μ
  | [], _ => rfl
  | d :: ds, hh => by
    obtain ⟨ρ1, e1, e2, e3⟩ := hh d (by simp)
    have ih := compD_filterL (t := t) (tt := tt) (te := te) h g p ds fun d hd => hh d (List.mem_cons_of_mem _ hd)
    rw [List.map_cons]
    unfold compD
    rw [e1]
    simp only
    rw [e2]
    cases hp : p d with
    | false =>
      rw [List.filter_cons_of_neg (by simp [hp])]
      exact ih
    | true =>
      rw [List.filter_cons_of_pos hp]
      show (te ρ1 μ).nox.bind _ = _
      rw [e3 hp]
      show (compD t tt te ρ (ds.map h) μ).bind _ = _
      rw [ih]
      rfl
end
section
variable {μ : Sto}
theorem euclid {β : Type} (S : Nat → Int → Int → β) (fin : Int → β) (h0 : ∀ n x, 0 ≤ x → S (n + 1) x 0 = fin x) (h1 : ∀ n x y, 0 ≤ x → 0 < y → S (n + 1) x y = S n y (x % y)) :
    ∀ (m n : Nat) (x y : Int), 0 ≤ x → 0 ≤ y → y.toNat < 2 ^ m → 2 * m < n → S n x y = fin (Int.gcd x y)
  | m, 0, x, y, _, _, _, h => by omega
  | 0, n + 1, x, y, hx, hy, hl, _ => by
    have : y = 0 := by simp at hl; omega
    subst this
    rw [h0 n x hx]
    congr 1
    simp; omega
  | m + 1, n + 1, x, y, hx, hy, hl, hn => by
    by_cases z : y = 0
    · subst z
      rw [h0 n x hx]
      congr 1
      simp; omega
    · have hp : 0 < y := by omega
      have e1 := Int.emod_nonneg x (b := y) z
      have e2 := Int.emod_lt_of_pos x hp
      rw [h1 n x y hx hp, gcd_step x y hx hp]
      obtain ⟨k, rfl⟩ : ∃ k, n = k + 1 := ⟨n - 1, by omega⟩
      generalize x % y = r at e1 e2 ⊢
      by_cases zr : r = 0
      · subst zr
        rw [h0 k y hy]
        congr 1
        simp; omega
      · have hr : 0 < r := by omega
        have f1 := Int.emod_nonneg y (b := r) zr
        have f2 := Int.emod_lt_of_pos y hr
        have f3 : y % r ≤ y - r := by
          have := Int.emod_emod_of_dvd y (Int.dvd_refl r)
          have hd := Int.mul_ediv_add_emod y r
          have : 1 ≤ y / r := (Int.le_ediv_iff_mul_le hr).mpr (by omega)
          have : r * 1 ≤ r * (y / r) := Int.mul_le_mul_of_nonneg_left this (by omega)
          omega
        rw [h1 k y r hy hr, gcd_step y r hy hr]
        refine euclid S fin h0 h1 m k r (y % r) e1 f1 ?_ (by omega)
        have : 2 ^ (m + 1) = 2 * 2 ^ m := by rw [Nat.pow_succ]; omega
        omega
theorem gcdP {a b : Int} (h : b.natAbs < 2 ^ 64) : f_divisor [.int a, .int b] μ = .ok (.int (Int.gcd a b)) μ := by
  unfold f_divisor
  rw [runF2]
  unfold b_divisor
  have := euclid (fun n x y => loopW (tB' (eBin vNe (eVar 1) (eC (.int 0)))) (sPar 0 1 (aCons (eVar 1) (aCons (eBin vMod (eVar 0) (eVar 1)) aNil))) n [some (.int x), some (.int y)] μ) (fun g => .nx [some (.int g), some (.int 0)] μ)
    (fun n x hx => by unfold loopW; simp [R.toS]) (fun n x y hx hy => by
      conv => lhs; unfold loopW
      have h0 : ¬ y = 0 := by omega
      simp only [tB_ap, eBin_ap, eVar_ap, eC_ap, List.getElem?_cons_succ, List.getElem?_cons_zero, bin1_ok, bin2_ok, vNe_i, of_some, tb_ok, h0, decide_false, Bool.not_false]
      show (match R.par 0 1 _ _ with
        | .nx ρ' μ' => _
        | .ct ρ' μ' => _
        | .bk ρ' μ' => _
        | r => _) = _
      simp [vMod_i hy]) 64 4096 a.natAbs b.natAbs (by omega) (by omega) (by simpa using h) (by decide)
  simp only [Int.gcd_natCast_natCast] at this
  simp [abs_eq, sWhile, this, Int.gcd]
def in9 (p : Pt) : Bool := (decide (-999 ≤ p.1) && decide (p.1 ≤ 999)) && (decide (-999 ≤ p.2) && decide (p.2 ≤ 999))
def isD (p : Pt) : Bool := in9 p && decide (Int.gcd p.1 p.2 = 1)
def dirB : DV → Bool
  | .tup [.int x, .int y] => isD (x, y)
  | _ => false
theorem pairB_int {m : Int} {d : DV} (h : pairB m d = true) : ∃ x y, d = .tup [.int x, .int y] ∧ -m ≤ x ∧ x ≤ m ∧ -m ≤ y ∧ y ≤ m := by
  unfold pairB at h
  split at h
  · rename_i a b
    rw [Bool.and_eq_true] at h
    obtain ⟨h1, h2⟩ := h
    unfold numB at h1 h2
    split at h1
    · split at h2
      · simp at h1 h2
        exact ⟨_, _, rfl, h1.1, h1.2, h2.1, h2.2⟩
      · cases h2
    · cases h1
  · cases h
theorem dirB_no {d : DV} (h : pairB 999 d = false) : dirB d = false := by
  unfold dirB
  split
  · rename_i x y
    unfold isD in9
    have h : ((decide (-999 ≤ x) && decide (x ≤ 999)) && (decide (-999 ≤ y) && decide (y ≤ 999))) = false := h
    simp only [h, Bool.false_and]
  · rfl
theorem dirB_yes {x y : Int} (h1 : -999 ≤ x) (h2 : x ≤ 999) (h3 : -999 ≤ y) (h4 : y ≤ 999) : dirB (.tup [.int x, .int y]) = decide (Int.gcd x y = 1) := by
  show (in9 (x, y) && decide (Int.gcd x y = 1)) = _
  have : in9 (x, y) = true := by unfold in9; simp [h1, h2, h3, h4]
  rw [this, Bool.true_and]
theorem dir1 {d : DV} (h : p1 d = true) : f_is_direction [d] μ = .ok (.bl (dirB d)) μ := by
  unfold f_is_direction
  rw [runF1]
  unfold b_is_direction
  cases hp : pairB 999 d with
  | false => simp [pair1 h, hp, dirB_no hp]
  | true =>
    obtain ⟨x, y, rfl, a1, a2, a3, a4⟩ := pairB_int hp
    have hg := gcdP (μ := μ) (a := x) (b := y) (by omega)
    simp [pair1 h, hp, hg, dirB_yes a1 a2 a3 a4]
    omega
end
end Lw

set_option Elab.async false
set_option linter.all false
set_option maxRecDepth 100000
set_option maxHeartbeats 4000000
namespace Lw
open PySem PySem.Spec PyProof.Rows L2 SD
section
variable {μ : Sto}
def ptY (p : Pt) : PyData := .tuple [.int p.1, .int p.2]
theorem toPy_pt {p : Pt} : toPy (ptD p) = some (ptY p) := rfl
theorem toPy_pts : ∀ {l : List Pt}, toPyL (l.map ptD) = some (l.map ptY)
  | [] => rfl
  | p :: l => by
    rw [List.map_cons, List.map_cons]
    unfold toPyL
    rw [toPy_pt, toPy_pts]
theorem shaped_pt {p : Pt} : SeqAt.shaped (ptY p) = true := rfl
theorem lay_pts : ∀ {l : List Pt}, PyData.canLayAll0 (l.map ptY) = true
  | [] => rfl
  | p :: l => by
    rw [List.map_cons]
    unfold PyData.canLayAll0
    rw [lay_pts]; rfl
theorem dep_pts : ∀ {l : List Pt}, PyData.depthAll (l.map ptY) ≤ 2
  | [] => by decide
  | p :: l => by
    rw [List.map_cons]
    unfold PyData.depthAll
    have := dep_pts (l := l)
    have h : (ptY p).depth ≤ 2 := by unfold ptY; simp [PyData.depth, PyData.depthAll]
    omega
theorem shaped_pts {l : List Pt} : SeqAt.shaped (.list (l.map ptY)) = true := by
  unfold SeqAt.shaped
  have h := dep_pts (l := l)
  rw [Bool.and_eq_true, decide_eq_true_eq]
  refine ⟨?_, ?_⟩
  · simp only [PyData.canLay0]; exact lay_pts
  · simp only [PyData.depth]; omega
theorem eqv_pt {p q : Pt} : PyData.eqv (ptY p) (ptY q) = decide (p = q) := by
  obtain ⟨a, b⟩ := p
  obtain ⟨c, d⟩ := q
  unfold ptY
  simp only [PyData.eqv, PyData.eqvAll, Prod.mk.injEq, Bool.and_true]
  rw [Bool.eq_iff_iff]
  simp
theorem vEq_pt {p q : Pt} : vEq (ptD p) (ptD q) μ = some (.bl (decide (p = q))) := by
  show (if (SeqAt.shaped (ptY p) && SeqAt.shaped (ptY q)) = true then some (PyData.eqv (ptY p) (ptY q)) else none).map DV.bl = _
  rw [shaped_pt, shaped_pt, if_pos (by rfl), eqv_pt]; rfl
theorem vNe_pt {p q : Pt} : vNe (ptD p) (ptD q) μ = some (.bl (!decide (p = q))) := by
  show (if (SeqAt.shaped (ptY p) && SeqAt.shaped (ptY q)) = true then some (PyData.eqv (ptY p) (ptY q)) else none).map (fun b => DV.bl (!b)) = _
  rw [shaped_pt, shaped_pt, if_pos (by rfl), eqv_pt]; rfl
theorem ne_nil {l : List Pt} : vNe (.lst (l.map ptD)) (.lst []) μ = some (.bl (!l.isEmpty)) := by
  have h0 : SeqAt.shaped (.list []) = true := rfl
  have e1 : toPyC μ (.lst (l.map ptD)) = some (.list (l.map ptY)) := by show toPy (.lst (l.map ptD)) = _; unfold toPy; rw [toPy_pts]; rfl
  have e2 : toPyC μ (.lst []) = some (.list []) := rfl
  show (eqP (.lst (l.map ptD)) (.lst []) μ).map (fun b => DV.bl (!b)) = _
  unfold eqP
  rw [e1, e2]
  simp only [shaped_pts, h0, Bool.and_self, if_true, Option.map_some]
  cases l with
  | nil => rfl
  | cons p l => simp [PyData.eqv, PyData.eqvAll]
theorem shaped_s {z : Str} (h : PyData.strOk z = true) : SeqAt.shaped (.str z) = true := by
  unfold SeqAt.shaped
  simp [PyData.canLay0, PyData.depth, h]
theorem vEq_s {a b : Str} (ha : PyData.strOk a = true) (hb : PyData.strOk b = true) : vEq (.str a) (.str b) μ = some (.bl (a == b)) := by
  show (if (SeqAt.shaped (.str a) && SeqAt.shaped (.str b)) = true then some (PyData.eqv (.str a) (.str b)) else none).map DV.bl = _
  rw [shaped_s ha, shaped_s hb, if_pos (by rfl)]
  simp [PyData.eqv]
theorem gcd_pos {p : Pt} (h : p ≠ (0, 0)) : 0 < (Int.gcd p.1 p.2 : Int) := by
  have : Int.gcd p.1 p.2 ≠ 0 := fun e => by
    obtain ⟨h1, h2⟩ := Int.gcd_eq_zero_iff.mp e
    exact h (Prod.ext h1 h2)
  omega
def bp (p : Pt) : Prop := p.1.natAbs < 2 ^ 62 ∧ p.2.natAbs < 2 ^ 62
theorem cross_ok {p q : Pt} (hp : bp p) : f_cross [ptD p, ptD q] μ = .ok (.int (crs p q)) μ := by
  unfold f_cross
  rw [runF2]
  unfold b_cross
  have m1 : ∀ y μ, vMul (.int p.1) (.int y) μ = some (.int (p.1 * y)) := fun y μ => vMul_l (by have := hp.1; omega)
  have m2 : ∀ y μ, vMul (.int p.2) (.int y) μ = some (.int (p.2 * y)) := fun y μ => vMul_l (by have := hp.2; omega)
  simp [m1, m2, crs]
theorem lcross_ok {p q : Pt} (hp : bp p) : f__law_cross [ptD p, ptD q] μ = .ok (.int (crs p q)) μ := by
  unfold f__law_cross
  rw [runF2]
  unfold b__law_cross
  have m1 : ∀ y μ, vMul (.int p.1) (.int y) μ = some (.int (p.1 * y)) := fun y μ => vMul_l (by have := hp.1; omega)
  have m2 : ∀ y μ, vMul (.int p.2) (.int y) μ = some (.int (p.2 * y)) := fun y μ => vMul_l (by have := hp.2; omega)
  simp [m1, m2, crs]
theorem turned_ok {p : Pt} : f_turned_half [ptD p] μ = .ok (ptD (-p.1, -p.2)) μ := by
  unfold f_turned_half
  rw [runF1]
  unfold b_turned_half
  simp
  rfl
def lowS (μ : Sto) : Prop := ∀ c ∈ μ, c.low 0 = true
theorem CO.low_mono {m n : Nat} (h : m ≤ n) : ∀ {c : CO}, c.low m = true → c.low n = true
  | .dead, _ => rfl
  | .lst xs, e => lowL_mono h e
  | .ins c ns xs, e => lowL_mono h e
  | .dct ks xs, e => lowL_mono h e
theorem lowS_all {μ : Sto} (h : lowS μ) (n : Nat) : μ.all (CO.low n) = true := List.all_eq_true.mpr fun c hc => CO.low_mono (Nat.zero_le _) (h c hc)
end
end Lw

set_option Elab.async false
set_option linter.all false
set_option maxRecDepth 100000
set_option maxHeartbeats 4000000
namespace Lw
open PySem PySem.Spec PyProof.Rows L2 SD
structure Bx where
  cs : List Int
  i : Nat
  r : Int
  m : Int
  c : Int
def enc (b : Bx) : CO := .lst [.lst (b.cs.map .int), .int b.i, .int b.r, .int (b.m % 2147483629), .int b.c]
section
variable {μ : Sto} {b : Bx} {ρ : En}
@[simp] theorem bx0 : vIx (.cell 0) (.int 0) (enc b :: μ) = some (.lst (b.cs.map .int)) := rfl
@[simp] theorem bx1 : vIx (.cell 0) (.int 1) (enc b :: μ) = some (.int b.i) := rfl
@[simp] theorem bx2 : vIx (.cell 0) (.int 2) (enc b :: μ) = some (.int b.r) := rfl
@[simp] theorem bx3 : vIx (.cell 0) (.int 3) (enc b :: μ) = some (.int (b.m % 2147483629)) := rfl
@[simp] theorem bx4 : vIx (.cell 0) (.int 4) (enc b :: μ) = some (.int b.c) := rfl
@[simp] theorem sb1 {k : Nat} : setAt 0 1 (.int ((k : Int) + 1)) ρ (enc b :: μ) = .nx ρ (enc { b with i := k + 1 } :: μ) := rfl
@[simp] theorem sb2 {k : Int} : setAt 0 2 (.int k) ρ (enc b :: μ) = .nx ρ (enc { b with r := k } :: μ) := rfl
theorem mod_in {k : Int} (h0 : 0 ≤ k) (h1 : k < 2147483629) : k % 2147483629 = k := Int.emod_eq_of_lt h0 h1
theorem sb3 {k : Int} (h0 : 0 ≤ k) (h1 : k < 2147483629) : setAt 0 3 (.int k) ρ (enc b :: μ) = .nx ρ (enc { b with m := k } :: μ) := by
  have : enc { b with m := k } = .lst [.lst (b.cs.map .int), .int b.i, .int b.r, .int k, .int b.c] := by unfold enc; rw [show ({ b with m := k } : Bx).m = k from rfl, mod_in h0 h1]
  rw [this]; rfl
@[simp] theorem sb3a {k : Int} : setAt 0 3 (.int (k % 2147483629)) ρ (enc b :: μ) = .nx ρ (enc { b with m := k % 2147483629 } :: μ) := sb3 (Int.emod_nonneg _ (by decide)) (Int.emod_lt_of_pos _ (by decide))
@[simp] theorem sb3b {k : Int} : setAt 0 3 (.int (k % 2147483587)) ρ (enc b :: μ) = .nx ρ (enc { b with m := k % 2147483587 } :: μ) := sb3 (Int.emod_nonneg _ (by decide)) (by have := Int.emod_lt_of_pos k (b := 2147483587) (by decide); omega)
@[simp] theorem sb4 {k : Int} : setAt 0 4 (.int k) ρ (enc b :: μ) = .nx ρ (enc { b with c := k } :: μ) := rfl
theorem bxAt {k : Nat} (h : k < b.cs.length) : vIx (.lst (b.cs.map .int)) (.int (k : Int)) μ = some (.int b.cs[k]) := by
  show atI (b.cs.map DV.int) (k : Int) = _
  rw [atI_nat (by simpa using h)]
  simp [h]
theorem m_pos (x : Int) : (x % 2147483629).natAbs < 18446744073709551616 := by
  have h1 := Int.emod_nonneg x (b := 2147483629) (by decide)
  have h2 := Int.emod_lt_of_pos x (b := 2147483629) (by decide)
  omega
theorem draw_ok (b : Bx) (many : Int) (h0 : 0 < many) (h1 : many < 1073741824) : ∃ n b', f__law_draw [.cell 0, .int many] (enc b :: μ) = .ok (.int n) (enc b' :: μ) ∧ 0 ≤ n ∧ n < many := by
  have pw18 : ∀ (μ : Sto), vPow (.int 10) (.int 18) μ = some (.int 1000000000000000000) := fun μ => vPow_i (n := 18) (by decide) (by decide)
  have m1 : ∀ x : Int, 0 ≤ x % many := fun x => Int.emod_nonneg x (by omega)
  have m2 : ∀ x : Int, x % many < many := fun x => Int.emod_lt_of_pos x h0
  have cut : ∃ t1 t2 t3, b__law_draw = sSeq t1 (sSeq t2 t3) ∧ (∀ b : Bx, ∃ b', t1 [some (.cell 0), some (.int many), none, none, none, none] (enc b :: μ) = .nx [some (.cell 0), some (.int many), none, none, none, none] (enc b' :: μ)) ∧
      (∀ b : Bx, ∃ ρ' b', t2 [some (.cell 0), some (.int many), none, none, none, none] (enc b :: μ) = .nx ρ' (enc b' :: μ) ∧ ∃ x, ρ' = [some (.cell 0), some (.int many), x, none, none, none]) ∧
      ∀ (b : Bx) (x : Option DV), ∃ n b', SR.fin .fz (μ.length + 1) (t3 [some (.cell 0), some (.int many), x, none, none, none] (enc b :: μ)) = .ok (.int n) (enc b' :: μ) ∧ 0 ≤ n ∧ n < many := by
    refine ⟨_, _, _, rfl, ?_, ?_, ?_⟩
    · intro b
      exact ⟨{ b with c := b.c + 1 }, by simp⟩
    · intro b
      by_cases h1 : b.r = 0
      · by_cases h2 : b.i < b.cs.length
        · by_cases h3 : 1000000000000000000 ≤ (if b.cs[b.i] < 0 then -b.cs[b.i] else b.cs[b.i])
          · exact ⟨[some (.cell 0), some (.int many), some (.int b.cs[b.i]), none, none, none], ⟨b.cs, b.i + 1, if b.cs[b.i] < 0 then -b.cs[b.i] else b.cs[b.i], b.m, b.c⟩, by simp [h1, h2, h3, bxAt, vMod_i, vMul_r, pw18], _, rfl⟩
          · exact ⟨[some (.cell 0), some (.int many), some (.int b.cs[b.i]), none, none, none], ⟨b.cs, b.i + 1, b.r, (b.m % 2147483629 * 44017 + b.cs[b.i] % 1000381 * 773 + 59) % 2147483629, b.c⟩, by simp [h1, h2, h3, bxAt, vMod_i, vMul_r, pw18], _, rfl⟩
        · exact ⟨[some (.cell 0), some (.int many), none, none, none, none], b, by simp [h1, h2], _, rfl⟩
      · exact ⟨[some (.cell 0), some (.int many), none, none, none, none], b, by simp [h1], _, rfl⟩
    · intro b x
      by_cases hr : 0 < b.r
      · refine ⟨b.r % many, { b with r := b.r / many }, ?_, m1 _, m2 _⟩
        simp [hr, vMod_i h0, vDiv_i h0 h1]
      · have ms : ∀ (y : Int) (μ : Sto), vMul (.int (b.m % 2147483629)) (.int y) μ = some (.int (b.m % 2147483629 * y)) := fun y μ => vMul_l (m_pos _)
        have e : ∀ z : Int, (z % 2147483587) % 2147483629 = z % 2147483587 := fun z => mod_in (Int.emod_nonneg _ (by decide)) (by have := Int.emod_lt_of_pos z (b := 2147483587) (by decide); omega)
        generalize hK : (b.m % 2147483629 * (b.m % 2147483629) * 29 + (b.m % 2147483629 * 50069 + b.c * 110063 + 60101)) = K
        refine ⟨(K % 2147483587 / 71 + K % 2147483587 % 8011 * 61) % many, ⟨b.cs, b.i, b.r, K % 2147483587, b.c⟩, ?_, m1 _, m2 _⟩
        simp [hr, vMod_i, vDiv_i, vMul_r, ms, h0, h1, hK, e]
  obtain ⟨t1, t2, t3, e, p1, p2, p3⟩ := cut
  obtain ⟨b1, q1⟩ := p1 b
  obtain ⟨ρ', b2, q2, x, q3⟩ := p2 b1
  subst q3
  obtain ⟨n, b', q5, q6⟩ := p3 b2 x
  refine ⟨n, b', ?_, q6⟩
  unfold f__law_draw
  rw [runF2, e, sSeq_ap]
  show SR.fin .fz (μ.length + 1) (SR.seq (t1 [some (.cell 0), some (.int many), none, none, none, none] (enc b :: μ)) _) = _
  rw [q1, seq_nx, sSeq_ap, q2]
  exact q5
theorem of_ok (b : Bx) (xs : List DV) (h0 : 0 < xs.length) (h1 : xs.length < 1073741824) : ∃ d b', f__law_of [.cell 0, .lst xs] (enc b :: μ) = .ok d (enc b' :: μ) ∧ d ∈ xs := by
  obtain ⟨n, b', e, p0, p1⟩ := draw_ok (μ := μ) b xs.length (by omega) (by omega)
  obtain ⟨k, rfl⟩ := Int.eq_ofNat_of_zero_le p0
  have hk : k < xs.length := by omega
  refine ⟨xs[k], b', ?_, List.getElem_mem hk⟩
  have hx : vIx (.lst xs) (.int (k : Int)) (enc b' :: μ) = some xs[k] := by
    show atI xs (k : Int) = _
    rw [atI_nat hk, List.getElem?_eq_getElem hk]
  unfold f__law_of
  rw [runF2]
  unfold b__law_of
  simp [e, hx]
theorem low_ints : ∀ (ns : List Int), lowL 0 (ns.map .int) = true
  | [] => rfl
  | n :: ns => by simp [lowL, DV.low, low_ints ns]
theorem cut_ints {ns : List Int} {lo hi : Option Int} : ∃ ms : List Int, SD.cutD (ns.map .int) lo hi = ms.map .int := by
  unfold SD.cutD
  rw [← List.map_drop, ← List.map_take]
  exact ⟨_, rfl⟩
theorem low1 {b : Bx} : lowS [enc b] := fun c hc => by
  have : c = enc b := by simpa using hc
  rw [this]
  have h : ∀ ns : List Int, lowL 0 (ns.map .int) = true := low_ints
  unfold enc CO.low
  simp [lowL, DV.low, h]
theorem noE_enc {b : Bx} : CO.noE (enc b) = true := by
  have : ∀ l : List Int, noEL (l.map .int) = true := fun l => by
    induction l with
    | nil => rfl
    | cons a l ih => simp [noEL, DV.noE, ih]
  unfold enc CO.noE
  simp [noEL, DV.noE, this]
theorem open_ok (ns : List Int) : ∃ b, f__law_open [.scr (ns.map .int)] [] = .ok (.cell 0) [enc b] := by
  obtain ⟨ms, hm⟩ := cut_ints (ns := ns) (lo := none) (hi := some 63)
  have hs : vSlc (.scr (ns.map .int)) none (some 63) [] = some (.lst (ms.map .int)) := by
    show some (DV.lst (SD.cutD (ns.map .int) none (some 63))) = _
    rw [hm]
  have lp : ∃ m x, 0 ≤ m ∧ m < 2147483629 ∧ loopD (gN 2) (sAsg (eBin vMod (eFn vInt (aCons (eBin vAdd (eBin vAdd (eBin vMul (eVar 1) (eC (.int 50777))) (eBin vMul (eBin vMod (eFn vInt (aCons (eVar 2) aNil)) (eC (.int 1000381))) (eC (.int 919)))) (eC (.int 43))) aNil)) (eC (.int 2147483587))) (gN 1)) (ms.map .int) [some (.scr (ns.map .int)), some (.int 1203221), none] [] = .nx [some (.scr (ns.map .int)), some (.int m), x] [] := by
    obtain ⟨ρ', μ', e, ⟨m, x, h0, h1, h2⟩, h3⟩ := loopD_inv (t := gN 2) (f := sAsg (eBin vMod (eFn vInt (aCons (eBin vAdd (eBin vAdd (eBin vMul (eVar 1) (eC (.int 50777))) (eBin vMul (eBin vMod (eFn vInt (aCons (eVar 2) aNil)) (eC (.int 1000381))) (eC (.int 919)))) (eC (.int 43))) aNil)) (eC (.int 2147483587))) (gN 1))
      (fun ρ μ => (∃ m x, 0 ≤ m ∧ m < 2147483629 ∧ ρ = [some (.scr (ns.map .int)), some (.int m), x]) ∧ μ = []) (ms.map .int) [some (.scr (ns.map .int)), some (.int 1203221), none] [] ⟨⟨1203221, none, by decide, by decide, rfl⟩, rfl⟩ (by
        rintro d hd ρ μ ⟨⟨m, x, z1, z2, rfl⟩, rfl⟩
        obtain ⟨n, hn, rfl⟩ := List.mem_map.mp hd
        exact ⟨[some (.scr (ns.map .int)), some (.int m), some (.int n)], rfl, [some (.scr (ns.map .int)), some (.int ((m * 50777 + n % 1000381 * 919 + 43) % 2147483587)), some (.int n)], [], .inl (by simp [vMod_i, vMul_r]), ⟨_, _, Int.emod_nonneg _ (by decide), by have := Int.emod_lt_of_pos (m * 50777 + n % 1000381 * 919 + 43) (b := 2147483587) (by decide); omega, rfl⟩, rfl⟩)
    subst h2 h3
    exact ⟨m, x, h0, h1, e⟩
  obtain ⟨m, x, g0, g1, e⟩ := lp
  refine ⟨⟨ms, 0, 0, m, 0⟩, ?_⟩
  unfold f__law_open
  rw [runF1]
  unfold b__law_open
  have hw : wkOf (.lst (ms.map DV.int)) [] = some (.fix (ms.map DV.int)) := rfl
  have h5 : ∀ (x1 x2 x3 x4 x5 : DV), mkC [x1, x2, x3, x4, x5] [] = .ok (.cell 0) [.lst [x1, x2, x3, x4, x5]] := fun _ _ _ _ _ => mkC_small (by show 5 ≤ _; decide)
  have hv : vList [.lst (ms.map .int)] [] = some (.lst (ms.map .int)) := rfl
  have hf : fin .cl 0 (.cell 0) [CO.lst [.lst (ms.map .int), .int 0, .int 0, .int m, .int 0]] = .ok (.cell 0) [enc ⟨ms, 0, 0, m, 0⟩] := by
    have : enc ⟨ms, 0, 0, m, 0⟩ = CO.lst [.lst (ms.map .int), .int 0, .int 0, .int m, .int 0] := by unfold enc; rw [mod_in g0 g1]; rfl
    rw [this]
    unfold fin finC
    simp [lowL, DV.low, low_ints]
  simp [hs, hw, e, h5, hv]
  exact hf
end
end Lw

set_option Elab.async false
set_option linter.all false
set_option maxRecDepth 100000
set_option maxHeartbeats 4000000
namespace Lw
def nrm (d : Dr2) : Dr2 := if up d = true then d else (-d.1, -d.2)
theorem up_neg {d : Dr2} (hn : d ≠ (0, 0)) (h : ¬ up d = true) : up (-d.1, -d.2) = true := by
  rw [up_iff] at h ⊢
  simp only
  have : d.1 ≠ 0 ∨ d.2 ≠ 0 := by
    by_cases h1 : d.1 = 0
    · exact .inr fun h2 => hn (Prod.ext h1 h2)
    · exact .inl h1
  omega
theorem up_nrm {d : Dr2} (h : Prm d) : up (nrm d) = true := by
  unfold nrm
  split
  · assumption
  · exact up_neg (prm_nz h) ‹_›
theorem prm_neg {d : Dr2} (h : Prm d) : Prm (-d.1, -d.2) := by
  unfold Prm at *
  simpa [Int.gcd_neg, Int.neg_gcd] using h
theorem prm_nrm {d : Dr2} (h : Prm d) : Prm (nrm d) := by
  unfold nrm
  split
  · exact h
  · exact prm_neg h
theorem crs_n1 {a b : Dr2} : crs (-a.1, -a.2) b = - crs a b := by unfold crs; simp only; grind
theorem crs_n2 {a b : Dr2} : crs a (-b.1, -b.2) = - crs a b := by unfold crs; simp only; grind
theorem crs_nrm {a b : Dr2} : crs a b = if up a = up b then crs (nrm a) (nrm b) else - crs (nrm a) (nrm b) := by
  unfold nrm
  cases ha : up a <;> cases hb : up b <;> simp [crs_n1, crs_n2]
theorem hlf_lt {a b : Dr2} : hlf a < hlf b ↔ up a = true ∧ up b = false := by
  unfold hlf
  cases up a <;> cases up b <;> simp
theorem hlf_eq {a b : Dr2} : hlf a = hlf b ↔ up a = up b := by
  unfold hlf
  cases up a <;> cases up b <;> simp
theorem ahd_nrm {a b : Dr2} : ahd a b = if up a = up b then decide (0 < crs (nrm a) (nrm b)) else up a := by
  unfold ahd
  rw [crs_nrm]
  simp only [hlf_lt, hlf_eq]
  cases up a <;> cases up b <;> simp
theorem eq_nrm {a b : Dr2} (ha : Prm a) (hb : Prm b) : a = b ↔ up a = up b ∧ crs (nrm a) (nrm b) = 0 := by
  constructor
  · rintro rfl
    exact ⟨rfl, crs_self⟩
  · rintro ⟨e, z⟩
    exact par_eq ha hb (hlf_eq.mpr e) (by rw [crs_nrm, if_pos e, z])
/-- in the upper half crosses are transitive -/
theorem tr_u {a b c : Dr2} (ha : Prm a) (hb : Prm b) (hc : Prm c) (ua : up a = true) (ub : up b = true) (uc : up c = true) : (0 < crs a b → 0 ≤ crs b c → 0 < crs a c) ∧ (0 ≤ crs a b → 0 < crs b c → 0 < crs a c) ∧ (0 ≤ crs a b → 0 ≤ crs b c → 0 ≤ crs a c) := by
  have e1 : hlf a = hlf b := hlf_eq.mpr (ua.trans ub.symm)
  have e2 : hlf b = hlf c := hlf_eq.mpr (ub.trans uc.symm)
  have s1 : 0 < crs a b → 0 ≤ crs b c → 0 < crs a c := fun p q => by
    rcases Int.lt_or_eq_of_le q with q | q
    · exact crs_trans e1 e2 p q
    · rw [← par_eq hb hc e2 q.symm]; exact p
  have s2 : 0 ≤ crs a b → 0 < crs b c → 0 < crs a c := fun p q => by
    rcases Int.lt_or_eq_of_le p with p | p
    · exact crs_trans e1 e2 p q
    · rw [par_eq ha hb e1 p.symm]; exact q
  refine ⟨s1, s2, fun p q => ?_⟩
  rcases Int.lt_or_eq_of_le p with p' | p'
  · exact Int.le_of_lt (s1 p' q)
  · rw [par_eq ha hb e1 p'.symm]; exact q
/-- d is met on the way round to the left from s to t, without both -/
def btw (s t d : Dr2) : Bool := if s = t then decide (d ≠ s) else if ahd s t = true then ahd s d && ahd d t else ahd s d || ahd d t
/-- the program's -/
def lies (s t d : Dr2) : Bool := if 0 < crs s t then decide (0 < crs s d) && decide (0 < crs d t) else if crs s t < 0 then decide (crs t d < 0) || decide (crs d s < 0) else decide (0 < crs s d)
/-- the law's -/
def ang (s d : Dr2) : Int := if crs s d = 0 then (if s = d then 0 else 2) else if 0 < crs s d then 1 else 3
def wthn (s t d : Dr2) : Bool := if (s = t ∨ d = s ∨ d = t) then decide (s = t ∧ d ≠ s) else decide (ang s d < ang s t) || (decide (ang s d = ang s t) && decide (0 < crs d t))
/-- three directions, told by halves and signs -/
theorem three {s t d : Dr2} (hs : Prm s) (ht : Prm t) (hd : Prm d) : ∃ p q r : Int, (crs (nrm s) (nrm t) = p ∧ crs (nrm t) (nrm d) = q ∧ crs (nrm s) (nrm d) = r ∧ crs (nrm t) (nrm s) = -p ∧ crs (nrm d) (nrm t) = -q ∧ crs (nrm d) (nrm s) = -r) ∧
    (0 < p → 0 ≤ q → 0 < r) ∧ (0 ≤ p → 0 < q → 0 < r) ∧ (0 ≤ p → 0 ≤ q → 0 ≤ r) ∧ (p < 0 → q ≤ 0 → r < 0) ∧ (p ≤ 0 → q < 0 → r < 0) ∧ (p ≤ 0 → q ≤ 0 → r ≤ 0) := by
  refine ⟨_, _, _, ⟨rfl, rfl, rfl, crs_anti, crs_anti, crs_anti⟩, ?_⟩
  obtain ⟨a1, a2, a3⟩ := tr_u (prm_nrm hs) (prm_nrm ht) (prm_nrm hd) (up_nrm hs) (up_nrm ht) (up_nrm hd)
  obtain ⟨b1, b2, b3⟩ := tr_u (prm_nrm hd) (prm_nrm ht) (prm_nrm hs) (up_nrm hd) (up_nrm ht) (up_nrm hs)
  have c1 := @crs_anti (nrm s) (nrm t)
  have c2 := @crs_anti (nrm t) (nrm d)
  have c3 := @crs_anti (nrm s) (nrm d)
  refine ⟨a1, a2, a3, fun x y => ?_, fun x y => ?_, fun x y => ?_⟩
  · have := b2 (by omega) (by omega); omega
  · have := b1 (by omega) (by omega); omega
  · have := b3 (by omega) (by omega); omega
theorem lies_btw {s t d : Dr2} (hs : Prm s) (ht : Prm t) (hd : Prm d) (h : s ≠ t) : lies s t d = btw s t d := by
  obtain ⟨p, q, r, ⟨e1, e2, e3, e4, e5, e6⟩, t1, t2, t3, t4, t5, t6⟩ := three hs ht hd
  have hne : ¬ (up s = up t ∧ p = 0) := fun z => h ((eq_nrm hs ht).mpr (by rw [e1]; exact z))
  unfold lies btw
  rw [if_neg h]
  simp only [ahd_nrm, crs_nrm (a := s), crs_nrm (a := t), crs_nrm (a := d), e1, e2, e3, e4, e5, e6]
  clear e1 e2 e3 e4 e5 e6
  cases hus : up s <;> cases hut : up t <;> cases hud : up d <;> simp only [hus, hut] at hne <;> refine Bool.eq_iff_iff.mpr ?_ <;> simp at hne ⊢ <;> (repeat' split) <;> (try simp) <;> omega
theorem wthn_btw {s t d : Dr2} (hs : Prm s) (ht : Prm t) (hd : Prm d) : wthn s t d = btw s t d := by
  obtain ⟨p, q, r, ⟨e1, e2, e3, e4, e5, e6⟩, t1, t2, t3, t4, t5, t6⟩ := three hs ht hd
  unfold wthn btw ang
  simp only [ahd_nrm, crs_nrm (a := s), crs_nrm (a := t), crs_nrm (a := d), eq_nrm hs ht, eq_nrm hd hs, eq_nrm hd ht, eq_nrm hs hd, ne_eq, e1, e2, e3, e4, e5, e6]
  clear e1 e2 e3 e4 e5 e6
  cases hus : up s <;> cases hut : up t <;> cases hud : up d <;> refine Bool.eq_iff_iff.mpr ?_ <;> simp <;> (repeat' split) <;> (try simp) <;> omega
end Lw

set_option Elab.async false
set_option linter.all false
set_option maxRecDepth 100000
set_option maxHeartbeats 4000000
namespace Lw
open PySem PySem.Spec PyProof.Rows L2 SD
def red (p : Pt) : Pt := (p.1 / (Int.gcd p.1 p.2 : Int), p.2 / (Int.gcd p.1 p.2 : Int))
/-- small enough -/
def s17 (p : Pt) : Prop := p.1.natAbs < 100000 ∧ p.2.natAbs < 100000
theorem s17.bp {p : Pt} (h : s17 p) : bp p := ⟨by have := h.1; omega, by have := h.2; omega⟩
theorem gcd_s17 {p : Pt} (h : s17 p) : (Int.gcd p.1 p.2 : Int) < 1073741824 := by
  have h1 := h.1
  have h2 := h.2
  by_cases z : p.1 = 0
  · rw [z]; simp; omega
  · have : Int.gcd p.1 p.2 ≤ p.1.natAbs := Nat.le_of_dvd (by omega) (Int.gcd_dvd_natAbs_left _ _)
    omega
section
variable {μ : Sto}
theorem lred_ok {p : Pt} (hn : p ≠ (0, 0)) (hb : s17 p) : f__law_reduced [ptD p] μ = .ok (ptD (red p)) μ := by
  have h64 : p.2.natAbs < 2 ^ 64 := Nat.lt_trans hb.2 (by decide)
  have cut : ∃ t1 t2 t3, b__law_reduced = sSeq t1 (sSeq t2 t3) ∧ t1 [some (ptD p), none, none] μ = .nx [some (ptD p), some (.int p.1.natAbs), some (.int p.2.natAbs)] μ ∧
      t2 [some (ptD p), some (.int p.1.natAbs), some (.int p.2.natAbs)] μ = .nx [some (ptD p), some (.int (Int.gcd p.1 p.2 : Int)), some (.int 0)] μ ∧
      t3 [some (ptD p), some (.int (Int.gcd p.1 p.2 : Int)), some (.int 0)] μ = .rt (ptD (red p)) μ := by
    refine ⟨_, _, _, rfl, ?_, ?_, ?_⟩
    · simp [abs_eq]
    · have := euclid (fun n x y => loopW (tB' (eBin vNe (eVar 2) (eC (.int 0)))) (sPar 1 2 (aCons (eVar 2) (aCons (eBin vMod (eFn vInt (aCons (eVar 1) aNil)) (eVar 2)) aNil))) n [some (ptD p), some (.int x), some (.int y)] μ) (fun g => .nx [some (ptD p), some (.int g), some (.int 0)] μ)
        (fun n x hx => by unfold loopW; simp [R.toS]) (fun n x y hx hy => by
          conv => lhs; unfold loopW
          have h0 : ¬ y = 0 := by omega
          simp only [tB_ap, eBin_ap, eVar_ap, eC_ap, List.getElem?_cons_succ, List.getElem?_cons_zero, bin1_ok, bin2_ok, vNe_i, of_some, tb_ok, h0, decide_false, Bool.not_false]
          show (match R.par 1 2 _ _ with
            | .nx ρ' μ' => _
            | .ct ρ' μ' => _
            | .bk ρ' μ' => _
            | r => _) = _
          simp [vMod_i hy]) 64 4096 p.1.natAbs p.2.natAbs (by omega) (by omega) (by simpa using h64) (by decide)
      exact this
    · have g0 := gcd_pos hn
      have g1 := gcd_s17 hb
      have dv : ∀ (x : Int) (μ : Sto), vDiv (.int x) (.int (Int.gcd p.1 p.2 : Int)) μ = some (.int (x / (Int.gcd p.1 p.2 : Int))) := fun x μ => vDiv_i g0 g1
      show _ = SR.rt (DV.tup [.int (p.1 / (Int.gcd p.1 p.2 : Int)), .int (p.2 / (Int.gcd p.1 p.2 : Int))]) μ
      clear g0 g1
      generalize (Int.gcd p.1 p.2 : Int) = g at dv ⊢
      generalize vDiv = vD at dv ⊢
      simp only [sRet_ap, eTup_ap, aCons_ap, eBin_ap, eVar_ap, eC_ap, List.getElem?_cons_zero, List.getElem?_cons_succ, bin1_ok, pt0, pt1, of_some, bin2_ok, dv, ac1_ok, aNil_ap, ac2_ok, mk_ok, mkT2, ret_ok]
  obtain ⟨t1, t2, t3, e, p1, p2, p3⟩ := cut
  unfold f__law_reduced
  rw [runF1, e, sSeq_ap]
  show SR.fin .fz μ.length (SR.seq (t1 [some (ptD p), none, none] μ) _) = _
  rw [p1, seq_nx, sSeq_ap, p2, seq_nx, p3]
  exact fin_same
theorem lhalf_ok {p : Pt} : f__law_half [ptD p] μ = .ok (ptD (-p.1, -p.2)) μ := by
  unfold f__law_half
  rw [runF1]
  unfold b__law_half
  simp
  rfl
theorem low_iff {p : Pt} (h : p ≠ (0, 0)) : (p.2 < 0 ∨ p.2 = 0 ∧ p.1 < 0) ↔ ¬ up p = true := by
  rw [up_iff]
  have : p.1 ≠ 0 ∨ p.2 ≠ 0 := by
    by_cases h1 : p.1 = 0
    · exact .inr fun h2 => h (Prod.ext h1 h2)
    · exact .inl h1
  omega
theorem low_e {i : Nat} {ρ : En} {p : Pt} (hn : p ≠ (0, 0)) (hi : ρ[i]? = some (some (ptD p))) : eFn vInt (aCons (eOr (eBin vLt (eBin vIx (eVar i) (eC (.int 1))) (eC (.int 0))) (eAnd (eBin vEq (eBin vIx (eVar i) (eC (.int 1))) (eC (.int 0))) (eBin vLt (eBin vIx (eVar i) (eC (.int 0))) (eC (.int 0))))) aNil) ρ μ = .ok (.int (hlf p)) μ := by
  have li := low_iff hn
  have vb : ∀ b : Bool, vInt [.bl b] μ = some (.int (if b = true then 1 else 0)) := fun b => rfl
  unfold hlf
  by_cases h1 : p.2 < 0
  · have := li.mp (.inl h1)
    simp [hi, h1, vb, this]
  · by_cases h2 : p.2 = 0
    · by_cases h3 : p.1 < 0
      · have := li.mp (.inr ⟨h2, h3⟩)
        simp [hi, h2, h3, vb, this]
      · have : up p = true := by
          cases hu : up p with
          | true => rfl
          | false => exact absurd (li.mpr (by rw [hu]; decide)) (by rintro (z | z); exact h1 z; exact h3 z.2)
        simp [hi, h2, h3, vb, this]
    · have : up p = true := by
        cases hu : up p with
        | true => rfl
        | false => exact absurd (li.mpr (by rw [hu]; decide)) (by rintro (z | z); exact h1 z; exact h2 z.1)
      simp [hi, h1, h2, vb, this]
theorem lahead_ok {p q : Pt} (hp : bp p) (np : p ≠ (0, 0)) (nq : q ≠ (0, 0)) : f__law_ahead [ptD p, ptD q] μ = .ok (.bl (ahd p q)) μ := by
  unfold f__law_ahead
  rw [runF2]
  unfold b__law_ahead ahd
  have e1 := low_e (μ := μ) (i := 0) (ρ := [some (ptD p), some (ptD q), none, none]) np rfl
  have e2 := low_e (μ := μ) (i := 1) (ρ := [some (ptD p), some (ptD q), none, none]) nq rfl
  rw [sSeq_ap, sPar_ap, aCons_ap, show ([some (ptD p), some (ptD q)] ++ List.replicate (4 - 2) none : En) = [some (ptD p), some (ptD q), none, none] from rfl, e1, ac1_ok, aCons_ap, e2]
  by_cases h1 : hlf p < hlf q
  · simp [h1]
  · by_cases h2 : hlf p = hlf q <;> simp [h1, h2, lcross_ok hp]
end
def insR (l : List Pt) (d : Pt) : List Pt := if (l.filter fun e => ahd e d).length = l.length ∨ l[(l.filter fun e => ahd e d).length]? ≠ some d then l.take (l.filter fun e => ahd e d).length ++ d :: l.drop (l.filter fun e => ahd e d).length else l
theorem at_mem {d : Pt} : ∀ {l : List Pt}, Srt l → d ∈ l → l[(l.filter fun e => ahd e d).length]? = some d
  | [], _, h => by cases h
  | z :: l, hs, h => by
    obtain ⟨s1, s2⟩ := List.pairwise_cons.mp hs
    by_cases hz : ahd z d = true
    · rw [List.filter_cons_of_pos (p := fun e => ahd e d) hz, List.length_cons, List.getElem?_cons_succ]
      rcases List.mem_cons.mp h with e | e
      · rw [e, ahd_irr] at hz; cases hz
      · exact at_mem s2 e
    · have e : d = z := by
        rcases List.mem_cons.mp h with e | e
        · exact e
        · exact absurd (s1 d e) hz
      subst e
      have : (d :: l).filter (fun e => ahd e d) = [] := List.filter_eq_nil_iff.mpr fun e he hc => by
        rcases List.mem_cons.mp he with c | c
        · rw [c, ahd_irr] at hc; cases hc
        · rw [ahd_anti (s1 e c)] at hc; cases hc
      rw [this]; rfl
theorem insR_eq {l : List Pt} {d : Pt} (h : Srt l) : insR l d = ins l d := by
  unfold insR ins
  by_cases hd : d ∈ l
  · have e := at_mem h hd
    have lt : (l.filter fun e => ahd e d).length < l.length := (List.getElem?_eq_some_iff.mp e).1
    rw [if_neg (by rintro (z | z); omega; exact z e), if_pos hd]
  · rw [if_neg hd, if_pos (.inr fun e => hd (List.mem_of_getElem? e))]
theorem roundL : ∀ {ds l : List Pt}, Srt l → (∀ e ∈ l, Prm e) → (∀ e ∈ ds, Prm e) → ds.foldl insR l = ds.foldl ins l
  | [], l, _, _, _ => rfl
  | d :: ds, l, h, hl, hd => by
    rw [List.foldl_cons, List.foldl_cons, insR_eq h]
    exact roundL (ins_srt h hl (hd d List.mem_cons_self)) (fun e he => by
      rcases mem_ins.mp he with c | c
      · exact hl e c
      · rw [c]; exact hd d List.mem_cons_self) fun e he => hd e (List.mem_cons_of_mem _ he)
/-- what the list holds -/
def P9 (p : Pt) : Prop := Prm p ∧ s17 p
theorem P9.nz {p : Pt} (h : P9 p) : p ≠ (0, 0) := prm_nz h.1
section
variable {μ : Sto}
theorem wk_pts {l : List Pt} : wkOf (.lst (l.map ptD)) μ = some (.fix (l.map ptD)) := rfl
theorem slc_to {l : List Pt} {k : Nat} (hk : k ≤ l.length) : vSlc (.lst (l.map ptD)) none (some (k : Int)) μ = some (.lst ((l.take k).map ptD)) := by
  show some (DV.lst (SD.cutD (l.map ptD) none (some (k : Int)))) = _
  congr 2
  unfold SD.cutD
  have e1 : HT.sIx (l.map ptD).length 0 none = 0 := rfl
  have e2 : HT.sIx (l.map ptD).length (l.map ptD).length (some (k : Int)) = k := by
    show (if (k : Int) < 0 then ((k : Int) + ((l.map ptD).length : Int)).toNat else min (k : Int).toNat (l.map ptD).length) = k
    rw [if_neg (by omega), List.length_map]
    simp; omega
  rw [e1, e2]
  simp [List.map_take]
theorem slc_from {l : List Pt} {k : Nat} (hk : k ≤ l.length) : vSlc (.lst (l.map ptD)) (some (k : Int)) none μ = some (.lst ((l.drop k).map ptD)) := by
  show some (DV.lst (SD.cutD (l.map ptD) (some (k : Int)) none)) = _
  congr 2
  unfold SD.cutD
  have e1 : HT.sIx (l.map ptD).length (l.map ptD).length none = (l.map ptD).length := rfl
  have e2 : HT.sIx (l.map ptD).length 0 (some (k : Int)) = k := by
    show (if (k : Int) < 0 then ((k : Int) + ((l.map ptD).length : Int)).toNat else min (k : Int).toNat (l.map ptD).length) = k
    rw [if_neg (by omega), List.length_map]
    simp; omega
  rw [e1, e2, List.take_of_length_le (by simp)]
  simp [List.map_drop]
theorem ixpts {l : List Pt} {k : Nat} {p : Pt} (h : l[k]? = some p) : vIx (.lst (l.map ptD)) (.int (k : Int)) μ = some (ptD p) := by
  have hk : k < l.length := (List.getElem?_eq_some_iff.mp h).1
  show atI (l.map ptD) (k : Int) = _
  rw [atI_nat (by rw [List.length_map]; exact hk), List.getElem?_map, h]
  rfl
abbrev rB : DS := sSeq (sAsg (eFn vLen (aCons (eLc (iSeq (eVar 1)) (gN 4) (tB' (eCall f__law_ahead (aCons (eVar 4) (aCons (eVar 2) aNil)))) (eVar 4) [4]) aNil)) (gN 3))
    (sIf (tOr' (tB' (eBin vEq (eVar 3) (eFn vLen (aCons (eVar 1) aNil)))) (tB' (eBin vNe (eBin vIx (eVar 1) (eVar 3)) (eVar 2)))) (sAsg (eBin vAdd (eBin vAdd (eSl vSlc (eVar 1) oNone (oSome (eVar 3))) (eLst (aCons (eVar 2) aNil))) (eSl vSlc (eVar 1) (oSome (eVar 3)) oNone)) (gN 1)) sNop)
theorem round_step {a : Option DV} {l : List Pt} {d : Pt} {y : Option DV} (hl : ∀ e ∈ l, P9 e) (hd : P9 d) (hn : l.length ≤ 1000) : ∃ y', rB [a, some (.lst (l.map ptD)), some (ptD d), y, none] μ = .nx [a, some (.lst ((insR l d).map ptD)), some (ptD d), y', none] μ := by
  have wp : ∀ y : Option DV, wipeE [a, some (.lst (l.map ptD)), some (ptD d), y, none] [4] = [a, some (.lst (l.map ptD)), some (ptD d), y, none] := fun _ => rfl
  have hc : compD (gN 4) (tB' (eCall f__law_ahead (aCons (eVar 4) (aCons (eVar 2) aNil)))) (eVar 4) [a, some (.lst (l.map ptD)), some (ptD d), y, none] (l.map ptD) μ = .ok ((l.filter fun e => ahd e d).map ptD) μ :=
    compD_filterL ptD ptD (fun e => ahd e d) l fun e he => ⟨_, rfl, by simp [lahead_ok (hl e he).2.bp (hl e he).nz hd.nz], fun _ => by simp⟩
  generalize hk : (l.filter fun e => ahd e d).length = k at *
  have hkl : k ≤ l.length := by rw [← hk]; exact List.length_filter_le _ _
  have hL : (l.map ptD).length ≤ 1000000 := by rw [List.length_map]; omega
  have e1 : vLen [.lst ((l.filter fun e => ahd e d).map ptD)] μ = some (.int (k : Int)) := by rw [vLen_l, List.length_map, hk]
  have e2 : vLen [.lst (l.map ptD)] μ = some (.int (l.length : Int)) := by rw [vLen_l, List.length_map]
  refine ⟨some (.int k), ?_⟩
  unfold insR
  rw [hk]
  have add : eBin vAdd (eBin vAdd (eSl vSlc (eVar 1) oNone (oSome (eVar 3))) (eLst (aCons (eVar 2) aNil))) (eSl vSlc (eVar 1) (oSome (eVar 3)) oNone) [a, some (.lst (l.map ptD)), some (ptD d), some (.int (k : Int)), none] μ = .ok (.lst ((l.take k ++ d :: l.drop k).map ptD)) μ := by
    have a1 : vAdd (.lst ((l.take k).map ptD)) (.lst [ptD d]) μ = some (.lst ((l.take k).map ptD ++ [ptD d])) := vAdd_l (by rw [List.length_map, List.length_take]; show min k l.length + 1 ≤ _; omega)
    have a2 : vAdd (.lst ((l.take k).map ptD ++ [ptD d])) (.lst ((l.drop k).map ptD)) μ = some (.lst ((l.take k).map ptD ++ [ptD d] ++ (l.drop k).map ptD)) := vAdd_l (by rw [List.length_append, List.length_map, List.length_map, List.length_take, List.length_drop]; show min k l.length + 1 + _ ≤ _; omega)
    simp only [eBin_ap, eSl_ap, eVar_ap, List.getElem?_cons_succ, List.getElem?_cons_zero, sl1_ok, oNone_ap, oSome_ap, sl2_ok, o1_ok, sl3_ok, slc_to hkl, slc_from hkl, of_some, bin1_ok, eLst_ap, aCons_ap, aNil_ap, ac1_ok, ac2_ok, mk_ok, mkL1, bin2_ok, a1, a2]
    simp
  by_cases h1 : k = l.length
  · rw [if_pos (.inl h1)]
    simp only [rB, sSeq_ap, sAsg_ap, eFn_ap, aCons_ap, eLc_ap, wp, iSeq_ap, eVar_ap, List.getElem?_cons_succ, List.getElem?_cons_zero, seqi_ok, wk_pts, of_some, lc_l hL, hc, mk_ok, ac1_ok, aNil_ap, ac2_ok, e1, asg_ok, gN_ap, seq_nx, List.set_cons_succ, List.set_cons_zero, sIf_ap, tOr_ap, tB_ap, eBin_ap, bin1_ok, e2, bin2_ok, vEq_i, tb_ok]
    have : decide ((k : Int) = (l.length : Int)) = true := by rw [h1]; exact decide_eq_true rfl
    rw [this, tor_t, sif_t, sAsg_ap, add, asg_ok]
    rfl
  · have hlt : k < l.length := by omega
    have g := List.getElem?_eq_getElem hlt
    have ix := ixpts (μ := μ) g
    simp only [rB, sSeq_ap, sAsg_ap, eFn_ap, aCons_ap, eLc_ap, wp, iSeq_ap, eVar_ap, List.getElem?_cons_succ, List.getElem?_cons_zero, seqi_ok, wk_pts, of_some, lc_l hL, hc, mk_ok, ac1_ok, aNil_ap, ac2_ok, e1, asg_ok, gN_ap, seq_nx, List.set_cons_succ, List.set_cons_zero, sIf_ap, tOr_ap, tB_ap, eBin_ap, bin1_ok, e2, bin2_ok, vEq_i, tb_ok]
    have : decide ((k : Int) = (l.length : Int)) = false := decide_eq_false (by omega)
    rw [this, tor_f]
    simp only [tB_ap, eBin_ap, eVar_ap, List.getElem?_cons_succ, List.getElem?_cons_zero, bin1_ok, ix, of_some, bin2_ok, vNe_pt, tb_ok]
    by_cases h2 : l[k] = d
    · rw [if_neg (by rintro (z | z); exact h1 z; exact z (by rw [g, h2]))]
      simp [h2]
    · rw [if_pos (.inr (by rw [g]; simpa using h2))]
      simp only [h2, decide_false, Bool.not_false, sif_t, sAsg_ap, add, asg_ok]
      rfl
theorem len_insR {l : List Pt} {d : Pt} : (insR l d).length ≤ l.length + 1 := by
  unfold insR
  split
  · simp; omega
  · omega
theorem mem_insR {l : List Pt} {d x : Pt} (h : x ∈ insR l d) : x ∈ l ∨ x = d := by
  unfold insR at h
  split at h
  · rcases List.mem_append.mp h with h | h
    · exact .inl (List.mem_of_mem_take h)
    · rcases List.mem_cons.mp h with h | h
      · exact .inr h
      · exact .inl (List.mem_of_mem_drop h)
  · exact .inl h
theorem round_loop {a : Option DV} : ∀ (ds l : List Pt) (x y : Option DV), (∀ e ∈ l, P9 e) → (∀ e ∈ ds, P9 e) → l.length + ds.length ≤ 1000 → ∃ x' y', loopD (gN 2) rB (ds.map ptD) [a, some (.lst (l.map ptD)), x, y, none] μ = .nx [a, some (.lst ((ds.foldl insR l).map ptD)), x', y', none] μ
  | [], l, x, y, _, _, _ => ⟨x, y, rfl⟩
  | d :: ds, l, x, y, hl, hd, hn => by
    obtain ⟨y1, e1⟩ := round_step (μ := μ) (a := a) (y := y) hl (hd d List.mem_cons_self) (by simp at hn; omega)
    obtain ⟨x2, y2, e2⟩ := round_loop ds (insR l d) (some (ptD d)) y1 (fun e he => by
      rcases mem_insR he with c | c
      · exact hl e c
      · rw [c]; exact hd d List.mem_cons_self) (fun e he => hd e (List.mem_cons_of_mem _ he)) (by have := @len_insR l d; simp at hn; omega)
    refine ⟨x2, y2, ?_⟩
    rw [List.map_cons, List.foldl_cons, ← e2]
    conv => lhs; unfold loopD
    rw [gN_ap]
    simp only [List.set_cons_succ, List.set_cons_zero, e1]
theorem lround_ok {ds : List Pt} (h : ∀ e ∈ ds, P9 e) (hn : ds.length ≤ 1000) : f__law_round [.lst (ds.map ptD)] μ = .ok (.lst ((rounded ds).map ptD)) μ := by
  obtain ⟨x, y, e⟩ := round_loop (μ := μ) (a := some (.lst (ds.map ptD))) ds [] none none (fun e he => by cases he) h (by simpa using hn)
  unfold rounded
  rw [← roundL List.Pairwise.nil (fun e he => by cases he) fun e he => (h e he).1]
  unfold f__law_round
  rw [runF1]
  unfold b__law_round
  simp only [List.map_nil] at e
  simp [wk_pts, e]
end
end Lw

set_option Elab.async false
set_option linter.all false
set_option maxRecDepth 100000
set_option maxHeartbeats 4000000
namespace Lw
def rdc (p : Dr2) : Dr2 := (p.1 / (Int.gcd p.1 p.2 : Int), p.2 / (Int.gcd p.1 p.2 : Int))
theorem gcd_pos' {p : Dr2} (h : p ≠ (0, 0)) : 0 < (Int.gcd p.1 p.2 : Int) := by
  have : Int.gcd p.1 p.2 ≠ 0 := fun z => by
    obtain ⟨a, b⟩ := Int.gcd_eq_zero_iff.mp z
    exact h (Prod.ext a b)
  omega
theorem rdc_mul (p : Dr2) : p.1 = (Int.gcd p.1 p.2 : Int) * (rdc p).1 ∧ p.2 = (Int.gcd p.1 p.2 : Int) * (rdc p).2 :=
  ⟨(Int.mul_ediv_cancel' (Int.gcd_dvd_left ..)).symm, (Int.mul_ediv_cancel' (Int.gcd_dvd_right ..)).symm⟩
theorem rdc_prm {p : Dr2} (h : p ≠ (0, 0)) : Prm (rdc p) := by
  have g := gcd_pos' h
  unfold Prm
  have := Int.gcd_ediv (a := p.1) (b := p.2) (c := (Int.gcd p.1 p.2 : Int)) (Int.gcd_dvd_left ..) (Int.gcd_dvd_right ..)
  show Int.gcd (p.1 / (Int.gcd p.1 p.2 : Int)) (p.2 / (Int.gcd p.1 p.2 : Int)) = 1
  rw [this]
  simp
  exact Nat.div_self (by omega)
theorem crs_r2 {p q : Dr2} (h : q ≠ (0, 0)) : (0 < crs p (rdc q) ↔ 0 < crs p q) ∧ (crs p (rdc q) < 0 ↔ crs p q < 0) := by
  obtain ⟨e1, e2⟩ := rdc_mul q
  have g := gcd_pos' h
  generalize (Int.gcd q.1 q.2 : Int) = k at *
  have e : crs p q = k * crs p (rdc q) := by unfold crs; rw [e1, e2]; grind
  rw [e]
  generalize crs p (rdc q) = z
  constructor
  · exact ⟨fun h => Int.mul_pos g h, fun h => Int.pos_of_mul_pos_right h g⟩
  · constructor
    · exact fun h => Int.mul_neg_of_pos_of_neg g h
    · intro h
      rcases Int.lt_trichotomy z 0 with q | q | q
      · exact q
      · rw [q] at h; simp at h
      · have := Int.mul_pos g q; omega
theorem crs_r1 {p q : Dr2} (h : p ≠ (0, 0)) : (0 < crs (rdc p) q ↔ 0 < crs p q) ∧ (crs (rdc p) q < 0 ↔ crs p q < 0) := by
  have := @crs_r2 q p h
  rw [@crs_anti q p, @crs_anti q (rdc p)]
  omega
def midP (p q : Dr2) : Dr2 := if 0 < crs p q then rdc (p.1 + q.1, p.2 + q.2) else if crs p q < 0 then rdc (0 - p.1 - q.1, 0 - p.2 - q.2) else if p = q then (-p.1, -p.2) else (0 - p.2, p.1)
theorem sum_nz {p q : Dr2} (h : crs p q ≠ 0) : (p.1 + q.1, p.2 + q.2) ≠ ((0, 0) : Dr2) ∧ (0 - p.1 - q.1, 0 - p.2 - q.2) ≠ ((0, 0) : Dr2) := by
  constructor <;> intro e <;> simp only [Prod.mk.injEq] at e <;> refine h ?_ <;> unfold crs
  · rw [show q.2 = -p.2 by omega, show q.1 = -p.1 by omega]; grind
  · rw [show q.2 = -p.2 by omega, show q.1 = -p.1 by omega]; grind
theorem mid_prm {p q : Dr2} (hp : Prm p) : Prm (midP p q) := by
  unfold midP
  split
  · exact rdc_prm (sum_nz (by omega)).1
  split
  · exact rdc_prm (sum_nz (by omega)).2
  split
  · exact prm_neg hp
  · unfold Prm at *
    show Int.gcd (0 - p.2) p.1 = 1
    rw [Int.zero_sub, Int.neg_gcd, Int.gcd_comm]; exact hp
theorem sq_pos {p : Dr2} (h : p ≠ (0, 0)) : 0 < p.1 * p.1 + p.2 * p.2 := by
  have a : 0 ≤ p.1 * p.1 := by have := Int.mul_self_le_mul_self (a := 0) (b := p.1); rcases Int.le_total 0 p.1 with z | z; exact Int.mul_nonneg z z; exact Int.mul_nonneg_of_nonpos_of_nonpos z z
  have b : 0 ≤ p.2 * p.2 := by rcases Int.le_total 0 p.2 with z | z; exact Int.mul_nonneg z z; exact Int.mul_nonneg_of_nonpos_of_nonpos z z
  by_cases h1 : p.1 = 0
  · have h2 : p.2 ≠ 0 := fun z => h (Prod.ext h1 z)
    have : p.2 * p.2 ≠ 0 := fun z => by rcases Int.mul_eq_zero.mp z with z | z <;> exact h2 z
    omega
  · have : p.1 * p.1 ≠ 0 := fun z => by rcases Int.mul_eq_zero.mp z with z | z <;> exact h1 z
    omega
theorem mid_btw {p q : Dr2} (hp : Prm p) (hq : Prm q) : btw p q (midP p q) = true := by
  by_cases e : p = q
  · subst e
    unfold btw
    rw [if_pos rfl]
    unfold midP
    rw [if_neg (by rw [crs_self]; omega), if_neg (by rw [crs_self]; omega), if_pos rfl]
    refine decide_eq_true fun z => prm_nz hp ?_
    have z1 : -p.1 = p.1 := congrArg Prod.fst z
    have z2 : -p.2 = p.2 := congrArg Prod.snd z
    exact Prod.ext (by show p.1 = 0; omega) (by show p.2 = 0; omega)
  · rw [← lies_btw hp hq (mid_prm hp) e]
    unfold lies midP
    rcases Int.lt_trichotomy (crs p q) 0 with h | h | h
    · obtain ⟨_, n2⟩ := sum_nz (p := p) (q := q) (by omega)
      rw [if_neg (by omega), if_pos h, if_neg (by omega), if_pos h]
      rw [Bool.or_eq_true]
      left
      refine decide_eq_true ((crs_r2 n2).2.mpr ?_)
      have : crs q (0 - p.1 - q.1, 0 - p.2 - q.2) = crs p q := by unfold crs; simp only; grind
      omega
    · rw [if_neg (by omega), if_neg (by omega), if_neg (by omega), if_neg (by omega), if_neg e]
      refine decide_eq_true ?_
      have : crs p (0 - p.2, p.1) = p.1 * p.1 + p.2 * p.2 := by unfold crs; simp only; grind
      rw [this]
      exact sq_pos (prm_nz hp)
    · obtain ⟨n1, _⟩ := sum_nz (p := p) (q := q) (by omega)
      rw [if_pos h, if_pos h, Bool.and_eq_true]
      refine ⟨decide_eq_true ((crs_r2 n1).1.mpr ?_), decide_eq_true ((crs_r1 n1).1.mpr ?_)⟩
      · have : crs p (p.1 + q.1, p.2 + q.2) = crs p q := by unfold crs; simp only; grind
        omega
      · have : crs (p.1 + q.1, p.2 + q.2) q = crs p q := by unfold crs; simp only; grind
        omega
def ixB (a b c : Nat) : Bool := if a = b then decide (c ≠ a) else if a < b then decide (a < c) && decide (c < b) else decide (a < c) || decide (c < b)
def ixM (a b c : Nat) : Bool := if a = b then true else if a < b then decide (a ≤ c) && decide (c < b) else decide (a ≤ c) || decide (c < b)
/-- n marks in round order -/
structure Mk (n : Nat) (m : Nat → Dr2) : Prop where
  p : ∀ i, i < n → Prm (m i)
  lt : ∀ i j, i < n → j < n → i < j → ahd (m i) (m j) = true
section
variable {n : Nat} {m : Nat → Dr2}
theorem Mk.ah (h : Mk n m) {i j : Nat} (hi : i < n) (hj : j < n) : ahd (m i) (m j) = decide (i < j) := by
  rcases Nat.lt_trichotomy i j with e | e | e
  · rw [h.lt i j hi hj e]; exact (decide_eq_true e).symm
  · subst e; rw [ahd_irr]; exact (decide_eq_false (Nat.lt_irrefl _)).symm
  · rw [ahd_anti (h.lt j i hj hi e)]; exact (decide_eq_false (by omega)).symm
theorem Mk.inj (h : Mk n m) {i j : Nat} (hi : i < n) (hj : j < n) : m i = m j ↔ i = j := by
  constructor
  · intro e
    rcases Nat.lt_trichotomy i j with c | c | c
    · have := h.lt i j hi hj c; rw [e, ahd_irr] at this; cases this
    · exact c
    · have := h.lt j i hj hi c; rw [e, ahd_irr] at this; cases this
  · rintro rfl; rfl
theorem Mk.B (h : Mk n m) {a b c : Nat} (ha : a < n) (hb : b < n) (hc : c < n) : btw (m a) (m b) (m c) = ixB a b c := by
  unfold btw ixB
  simp only [h.inj ha hb, h.ah ha hb, h.ah ha hc, h.ah hc hb, ne_eq, h.inj hc ha]
  by_cases e : a = b
  · simp [e]
  · by_cases l : a < b <;> simp [e, l]
/-- .. and between neighbours -/
theorem Mk.M (h : Mk n m) {a b c : Nat} (ha : a < n) (hb : b < n) (hc : c < n) {x : Dr2} (hx : Prm x) (hm : btw (m c) (m ((c + 1) % n)) x = true) : btw (m a) (m b) x = ixM a b c := by
  by_cases hl : c + 1 < n
  · rw [Nat.mod_eq_of_lt hl] at hm
    have l : ahd (m c) (m (c + 1)) = true := h.lt _ _ hc hl (by omega)
    have ne : m c ≠ m (c + 1) := fun e => by rw [e, ahd_irr] at l; cases l
    unfold btw at hm
    rw [if_neg ne, if_pos l, Bool.and_eq_true] at hm
    obtain ⟨m1, m2⟩ := hm
    have A : ∀ {i : Nat}, i < n → ahd (m i) x = decide (i ≤ c) := fun {i} hi => by
      by_cases q : i ≤ c
      · rw [decide_eq_true q]
        rcases Nat.lt_or_eq_of_le q with q | q
        · exact ahd_trans (h.lt i c hi hc q) m1
        · rw [q]; exact m1
      · rw [decide_eq_false q]
        refine ahd_anti ?_
        rcases Nat.lt_or_eq_of_le (show c + 1 ≤ i by omega) with q | q
        · exact ahd_trans m2 (h.lt _ i hl hi q)
        · rw [← q]; exact m2
    have B : ∀ {i : Nat}, i < n → ahd x (m i) = decide (c < i) := fun {i} hi => by
      by_cases q : c < i
      · rw [decide_eq_true q]
        rcases Nat.lt_or_eq_of_le (show c + 1 ≤ i by omega) with q | q
        · exact ahd_trans m2 (h.lt _ i hl hi q)
        · rw [← q]; exact m2
      · rw [decide_eq_false q]
        refine ahd_anti ?_
        rw [A hi]; exact decide_eq_true (by omega)
    have N : x ≠ m a := fun e => by
      have z1 := A ha
      have z2 := B ha
      rw [e, ahd_irr] at z1 z2
      have y1 := of_decide_eq_false z1.symm
      have y2 := of_decide_eq_false z2.symm
      omega
    unfold btw ixM
    simp only [h.inj ha hb, h.ah ha hb, A ha, B hb, ne_eq, N, not_false_eq_true, decide_true]
    by_cases e : a = b
    · simp [e]
    · by_cases l : a < b <;> simp [e, l]
  · have e1 : c + 1 = n := by omega
    rw [e1, Nat.mod_self] at hm
    by_cases one : c = 0
    · have z : a = 0 ∧ b = 0 := by omega
      obtain ⟨rfl, rfl⟩ := z
      rw [one] at hm
      rw [hm]
      simp [ixM]
    · have h0 : 0 < n := by omega
      have ne : m c ≠ m 0 := fun e => one ((h.inj hc h0).mp e)
      have nl : ahd (m c) (m 0) = false := by rw [h.ah hc h0]; exact decide_eq_false (by omega)
      unfold btw at hm
      rw [if_neg ne, if_neg (by rw [nl]; decide), Bool.or_eq_true] at hm
      have key : (∀ i, i < n → ahd (m i) x = true ∧ ahd x (m i) = false) ∨ (∀ i, i < n → ahd (m i) x = false ∧ ahd x (m i) = true) := by
        rcases hm with q | q
        · left
          intro i hi
          have : ahd (m i) x = true := by
            rcases Nat.lt_or_eq_of_le (show i ≤ c by omega) with z | z
            · exact ahd_trans (h.lt i c hi hc z) q
            · rw [z]; exact q
          exact ⟨this, ahd_anti this⟩
        · right
          intro i hi
          have : ahd x (m i) = true := by
            rcases Nat.lt_or_eq_of_le (show 0 ≤ i by omega) with z | z
            · exact ahd_trans q (h.lt 0 i h0 hi z)
            · rw [← z]; exact q
          exact ⟨ahd_anti this, this⟩
      have N : x ≠ m a := fun e => by
        rcases key with k | k <;> have z := k a ha <;> rw [e, ahd_irr] at z <;> simp at z
      unfold btw ixM
      simp only [h.inj ha hb, h.ah ha hb, ne_eq, N, not_false_eq_true, decide_true]
      rcases key with k | k <;> simp only [(k a ha).1, (k b hb).2] <;>
      · by_cases e : a = b
        · simp [e]
        · by_cases l : a < b
          · simp [e, l]; try omega
          · simp [e, l]; try omega
end
section
variable {α : Type} [DecidableEq α] (inn : Option (α × α) → α → Bool)
def covG (x y : Option (α × α)) : Bool := match x with
  | none => true
  | some (a, b) => match y with
    | none => false
    | some (c, d) => if (inn y a || inn y b) = true then false else (decide (c = a) || inn x c)
def meetG (x y : Option (α × α)) : Bool := match x, y with
  | some (a, b), some (c, d) => decide (a = c) || (inn y a || inn x c)
  | _, _ => true
def uniG (x y : Option (α × α)) : Option (α × α) := if covG inn x y = true then x else if covG inn y x = true then y else match x, y with
  | some (a, b), some (c, d) => if (inn y a && inn x c) = true then none else if inn x c = true then some (a, d) else some (c, b)
  | _, _ => none
end
def mpO {α β : Type} (f : α → β) : Option (α × α) → Option (β × β)
  | none => none
  | some (a, b) => some (f a, f b)
def onO {α : Type} (S : α → Prop) : Option (α × α) → Prop
  | none => True
  | some (a, b) => S a ∧ S b
section
variable {α β : Type} [DecidableEq α] [DecidableEq β] {f : α → β} {S : α → Prop} {i1 : Option (α × α) → α → Bool} {i2 : Option (β × β) → β → Bool}
structure Hm (f : α → β) (S : α → Prop) (i1 : Option (α × α) → α → Bool) (i2 : Option (β × β) → β → Bool) : Prop where
  inj : ∀ a b, S a → S b → (f a = f b ↔ a = b)
  inn : ∀ x d, onO S x → S d → i2 (mpO f x) (f d) = i1 x d
theorem Hm.cov (h : Hm f S i1 i2) {x y : Option (α × α)} (hx : onO S x) (hy : onO S y) : covG i2 (mpO f x) (mpO f y) = covG i1 x y := by
  match x, y, hx, hy with
  | none, _, _, _ => rfl
  | some (a, b), none, _, _ => rfl
  | some (a, b), some (c, d), hx, hy =>
    show (if (i2 (mpO f (some (c, d))) (f a) || i2 (mpO f (some (c, d))) (f b)) = true then false else (decide (f c = f a) || i2 (mpO f (some (a, b))) (f c))) = _
    rw [h.inn _ _ hy hx.1, h.inn _ _ hy hx.2, h.inn _ _ hx hy.1]
    simp only [h.inj _ _ hy.1 hx.1]
    rfl
theorem Hm.meet (h : Hm f S i1 i2) {x y : Option (α × α)} (hx : onO S x) (hy : onO S y) : meetG i2 (mpO f x) (mpO f y) = meetG i1 x y := by
  match x, y, hx, hy with
  | none, none, _, _ => rfl
  | none, some _, _, _ => rfl
  | some (a, b), none, _, _ => rfl
  | some (a, b), some (c, d), hx, hy =>
    show (decide (f a = f c) || (i2 (mpO f (some (c, d))) (f a) || i2 (mpO f (some (a, b))) (f c))) = _
    rw [h.inn _ _ hy hx.1, h.inn _ _ hx hy.1]
    simp only [h.inj _ _ hx.1 hy.1]
    rfl
theorem uni_on {x y : Option (α × α)} (hx : onO S x) (hy : onO S y) : onO S (uniG i1 x y) := by
  unfold uniG
  split
  · exact hx
  split
  · exact hy
  match x, y, hx, hy with
  | none, _, _, _ => trivial
  | some (a, b), none, _, _ => trivial
  | some (a, b), some (c, d), hx, hy =>
    simp only
    split
    · trivial
    split
    · exact ⟨hx.1, hy.2⟩
    · exact ⟨hy.1, hx.2⟩
theorem Hm.uni (h : Hm f S i1 i2) {x y : Option (α × α)} (hx : onO S x) (hy : onO S y) : uniG i2 (mpO f x) (mpO f y) = mpO f (uniG i1 x y) := by
  unfold uniG
  rw [h.cov hx hy, h.cov hy hx]
  split
  · rfl
  split
  · rfl
  match x, y, hx, hy with
  | none, none, _, _ => rfl
  | none, some _, _, _ => rfl
  | some (a, b), none, _, _ => rfl
  | some (a, b), some (c, d), hx, hy =>
    show (if (i2 (mpO f (some (c, d))) (f a) && i2 (mpO f (some (a, b))) (f c)) = true then none else if i2 (mpO f (some (a, b))) (f c) = true then some (f a, f d) else some (f c, f b)) = _
    rw [h.inn _ _ hy hx.1, h.inn _ _ hx hy.1]
    simp only
    split
    · rfl
    split <;> rfl
end
def tW (x : Option (Nat × Nat)) (t : Bool × Nat) : Bool := match x with
  | none => true
  | some (a, b) => if t.1 = true then ixM a b t.2 else ixB a b t.2
def inX (x : Option (Nat × Nat)) (c : Nat) : Bool := tW x (false, c)
def tsts (n : Nat) : List (Bool × Nat) := (List.range n).map (fun c => (false, c)) ++ (List.range n).map (fun c => (true, c))
def chk (n : Nat) (x y : Option (Nat × Nat)) : Bool :=
  (((tsts n).any fun t => tW x t && tW y t) == meetG inX x y) && ((!meetG inX x y || ((tsts n).all fun t => tW (uniG inX x y) t == (tW x t || tW y t))) && ((covG inX x y == (tsts n).all fun t => tW x t || !tW y t) && covG inX x x))
def arcsX (n : Nat) : List (Option (Nat × Nat)) := none :: (List.range n).flatMap fun a => (List.range n).map fun b => some (a, b)
theorem chk_all : (List.range 4).all (fun n => (arcsX (n + 1)).all fun x => (arcsX (n + 1)).all fun y => chk (n + 1) x y) = true := by decide +kernel
theorem chk_ok {n : Nat} {x y : Option (Nat × Nat)} (h1 : 0 < n) (h4 : n ≤ 4) (hx : onO (· < n) x) (hy : onO (· < n) y) : chk n x y = true := by
  have m : ∀ z, onO (· < n) z → z ∈ arcsX n := fun z hz => by
    match z, hz with
    | none, _ => exact List.mem_cons_self
    | some (a, b), hz => exact List.mem_cons_of_mem _ (List.mem_flatMap.mpr ⟨a, List.mem_range.mpr hz.1, List.mem_map.mpr ⟨b, List.mem_range.mpr hz.2, rfl⟩⟩)
  obtain ⟨k, rfl⟩ : ∃ k, n = k + 1 := ⟨n - 1, by omega⟩
  exact List.all_eq_true.mp (List.all_eq_true.mp (List.all_eq_true.mp chk_all k (List.mem_range.mpr (by omega))) x (m x hx)) y (m y hy)
end Lw

set_option Elab.async false
set_option linter.all false
set_option maxRecDepth 100000
set_option maxHeartbeats 4000000
namespace Lw
open PySem PySem.Spec PyProof.Rows L2 SD
/-- within the bounds of a mark -/
def s4 (p : Pt) : Prop := p.1.natAbs ≤ 2000 ∧ p.2.natAbs ≤ 2000
theorem s4.s17 {p : Pt} (h : s4 p) : s17 p := ⟨by have := h.1; omega, by have := h.2; omega⟩
theorem s4.bp {p : Pt} (h : s4 p) : bp p := h.s17.bp
section
variable {μ : Sto}
theorem lmid_ok {p q : Pt} (hp : s4 p) (hq : s4 q) : f__law_mid [ptD p, ptD q] μ = .ok (ptD (midP p q)) μ := by
  unfold f__law_mid
  rw [runF2]
  unfold b__law_mid
  have c := lcross_ok (μ := μ) (q := q) hp.bp
  have r1 : 0 < crs p q → f__law_reduced [.tup [.int (p.1 + q.1), .int (p.2 + q.2)]] μ = .ok (ptD (red (p.1 + q.1, p.2 + q.2))) μ := fun h => lred_ok (p := (p.1 + q.1, p.2 + q.2)) (sum_nz (by omega)).1 ⟨by have := hp.1; have := hq.1; simp only; omega, by have := hp.2; have := hq.2; simp only; omega⟩
  have r2 : crs p q < 0 → f__law_reduced [.tup [.int (0 - p.1 - q.1), .int (0 - p.2 - q.2)]] μ = .ok (ptD (red (0 - p.1 - q.1, 0 - p.2 - q.2))) μ := fun h => lred_ok (p := (0 - p.1 - q.1, 0 - p.2 - q.2)) (sum_nz (by omega)).2 ⟨by have := hp.1; have := hq.1; simp only; omega, by have := hp.2; have := hq.2; simp only; omega⟩
  unfold midP
  rcases Int.lt_trichotomy (crs p q) 0 with h | h | h
  · rw [if_neg (by omega), if_pos h]
    have n : ¬ 0 < crs p q := by omega
    have r2 := r2 h
    simp only [Int.zero_sub] at r2 ⊢
    simp [c, h, n, r2]
    rfl
  · rw [if_neg (by omega), if_neg (by omega)]
    by_cases e : p = q
    · rw [if_pos e]
      subst e
      simp [c, h, vEq_pt, lhalf_ok]
    · rw [if_neg e]
      simp [c, h, vEq_pt, e]
      simp [ptD]
  · rw [if_pos h]
    simp [c, h, r1 h]
    rfl
theorem s4_rdc {p : Pt} (h : p.1.natAbs ≤ 2000 ∧ p.2.natAbs ≤ 2000) : s4 (rdc p) := ⟨Nat.le_trans (Int.natAbs_ediv_le_natAbs _ _) h.1, Nat.le_trans (Int.natAbs_ediv_le_natAbs _ _) h.2⟩
theorem mid_s4 {p q : Pt} (hp : in9 p = true) (hq : in9 q = true) : s4 (midP p q) := by
  unfold in9 at hp hq
  simp at hp hq
  unfold midP
  split
  · exact s4_rdc ⟨by simp only; omega, by simp only; omega⟩
  split
  · exact s4_rdc ⟨by simp only; omega, by simp only; omega⟩
  split
  · exact ⟨by simp only; omega, by simp only; omega⟩
  · exact ⟨by simp only; omega, by simp only; omega⟩
/-- the directions between neighbours -/
def midsP (ms : List Pt) : List Pt := (List.range ms.length).map fun k => midP (ms.getD k (1, 0)) (ms.getD ((k + 1) % ms.length) (1, 0))
theorem ixd {l : List Pt} {k : Nat} (h : k < l.length) : vIx (.lst (l.map ptD)) (.int (k : Int)) μ = some (ptD (l.getD k (1, 0))) := ixpts (by rw [List.getD_eq_getElem?_getD, List.getElem?_eq_getElem h]; rfl)
theorem getD_mem {l : List Pt} {k : Nat} (h : k < l.length) : l.getD k (1, 0) ∈ l := by
  rw [List.getD_eq_getElem?_getD, List.getElem?_eq_getElem h]
  exact List.getElem_mem h
theorem lmids_ok {ms : List Pt} (h : ∀ p ∈ ms, s4 p) (hn : ms.length ≤ 1000) : f__law_mids [.lst (ms.map ptD)] μ = .ok (.lst ((midsP ms).map ptD)) μ := by
  unfold f__law_mids
  rw [runF1]
  unfold b__law_mids
  have wp : wipeE [some (.lst (ms.map ptD)), none] [1] = [some (.lst (ms.map ptD)), none] := rfl
  have hc : compD (gN 1) tYes' (eCall f__law_mid (aCons (eBin vIx (eVar 0) (eVar 1)) (aCons (eBin vIx (eVar 0) (eBin vMod (eFn vInt (aCons (eBin vAdd (eVar 1) (eC (.int 1))) aNil)) (eFn vLen (aCons (eVar 0) aNil)))) aNil))) [some (.lst (ms.map ptD)), none] ((List.range ms.length).map fun (i : Nat) => DV.int (i : Int)) μ = .ok ((List.range ms.length).map fun k => ptD (midP (ms.getD k (1, 0)) (ms.getD ((k + 1) % ms.length) (1, 0)))) μ :=
    compD_mapL (fun (i : Nat) => DV.int (i : Int)) (fun k => ptD (midP (ms.getD k (1, 0)) (ms.getD ((k + 1) % ms.length) (1, 0)))) (List.range ms.length) fun k hk => ⟨_, rfl, by
      have hk : k < ms.length := List.mem_range.mp hk
      have hk2 : (k + 1) % ms.length < ms.length := Nat.mod_lt _ (by omega)
      have e : ((k : Int) + 1) % (ms.length : Int) = (((k + 1) % ms.length : Nat) : Int) := by rw [Int.natCast_emod]; rfl
      have i1 := ixd (μ := μ) hk
      have i2 := ixd (μ := μ) hk2
      have l := lmid_ok (μ := μ) (h _ (getD_mem hk)) (h _ (getD_mem hk2))
      have ln : vLen [.lst (ms.map ptD)] μ = some (.int (ms.length : Int)) := by rw [vLen_l, List.length_map]
      have hm : vMod (.int ((k : Int) + 1)) (.int (ms.length : Int)) μ = some (.int (((k + 1) % ms.length : Nat) : Int)) := by rw [vMod_i (by omega), e]
      simp only [eCall_ap, aCons_ap, eBin_ap, eVar_ap, eFn_ap, eC_ap, aNil_ap, List.set_cons_succ, List.set_cons_zero, List.getElem?_cons_succ, List.getElem?_cons_zero, bin1_ok, bin2_ok, i1, of_some, ac1_ok, vAdd_i, ac2_ok, mk_ok, vInt_i, ln, hm, i2, l]⟩
  have hr : rngOf1 [.int (ms.length : Int)] = some (.fix ((List.range ms.length).map fun (i : Nat) => DV.int (i : Int))) := rng_n hn
  have ln : vLen [.lst (ms.map ptD)] μ = some (.int (ms.length : Int)) := by rw [vLen_l, List.length_map]
  have e : (midsP ms).map ptD = (List.range ms.length).map fun k => ptD (midP (ms.getD k (1, 0)) (ms.getD ((k + 1) % ms.length) (1, 0))) := by unfold midsP; rw [List.map_map]; rfl
  rw [e]
  show SR.fin .fz μ.length (sRet _ [some (.lst (ms.map ptD)), none] μ) = _
  simp only [sRet_ap, eLc_ap, wp, iRng1_ap, aCons_ap, eFn_ap, eVar_ap, aNil_ap, List.getElem?_cons_zero, ac1_ok, ac2_ok, mk_ok, ln, of_some, rg1_ok, hr, lc_rng hn, hc, ret_ok, sfin_rt]
  exact fin_same
theorem langle_ok {s d : Pt} (hs : bp s) : f__law_angle [ptD s, ptD d] μ = .ok (.int (ang s d)) μ := by
  unfold f__law_angle
  rw [runF2]
  unfold b__law_angle ang
  have c := lcross_ok (μ := μ) (q := d) hs
  by_cases h : crs s d = 0
  · by_cases e : s = d
    · subst e; simp [c, h, vEq_pt]
    · simp [c, h, vEq_pt, e]
  · by_cases l : 0 < crs s d <;> simp [c, h, l]
def endsD : Option (Pt × Pt) → DV
  | none => .non
  | some (s, t) => .tup [ptD s, ptD t]
def W (o : Option (Pt × Pt)) (d : Pt) : Bool := match o with
  | none => true
  | some (s, t) => wthn s t d
theorem vIs_pn : vIs .non .non μ = some (.bl true) := rfl
theorem vIs_tn {xs : List DV} : vIs (.tup xs) .non μ = some (.bl false) := rfl
theorem vIsNot_pn : vIsNot .non .non μ = some (.bl false) := rfl
theorem vIsNot_tn {xs : List DV} : vIsNot (.tup xs) .non μ = some (.bl true) := rfl
theorem lwithin_ok {o : Option (Pt × Pt)} {d : Pt} (ho : onO bp o) (hd : bp d) : f__law_within [endsD o, ptD d] μ = .ok (.bl (W o d)) μ := by
  unfold f__law_within
  rw [runF2]
  unfold b__law_within
  match o, ho with
  | none, _ => simp [endsD, W, vIs_pn]
  | some (s, t), ho =>
    have a1 := langle_ok (μ := μ) (d := d) ho.1
    have a2 := langle_ok (μ := μ) (d := t) ho.1
    have c := lcross_ok (μ := μ) (q := t) hd
    show _ = R.ok (DV.bl (wthn s t d)) μ
    unfold wthn endsD
    by_cases h1 : s = t
    · subst h1
      by_cases h2 : d = s <;> simp [vIs_tn, vEq_pt, vNe_pt, h2]
    · by_cases h2 : d = s
      · simp [vIs_tn, vEq_pt, vNe_pt, h1, h2]
      · by_cases h3 : d = t
        · subst h3; simp [vIs_tn, vEq_pt, vNe_pt, h1, h2]
        · by_cases h4 : ang s d < ang s t
          · simp [vIs_tn, vEq_pt, vNe_pt, h1, h2, h3, a1, a2, c, h4]
          · by_cases h5 : ang s d = ang s t <;> simp [vIs_tn, vEq_pt, vNe_pt, h1, h2, h3, a1, a2, c, h4, h5]
end
end Lw

set_option Elab.async false
set_option linter.all false
set_option maxRecDepth 100000
set_option maxHeartbeats 4000000
namespace Lw
open PySem PySem.Spec PyProof.Rows L2 SD
abbrev Ar2 := Option (Pt × Pt)
def arcD : Ar2 → DV
  | none => .obj 3 ["own_start", "own_stop"] [.non, .non]
  | some (s, t) => .obj 2 ["own_start", "own_stop"] [ptD s, ptD t]
def stD : Ar2 → DV
  | none => .non
  | some (s, _) => ptD s
def spD : Ar2 → DV
  | none => .non
  | some (_, t) => ptD t
/-- the arc's ends are directions -/
def Ok (o : Ar2) : Prop := onO (fun p => isD p = true) o
theorem isD_in {p : Pt} (h : isD p = true) : in9 p = true ∧ Prm p := by
  unfold isD at h
  rw [Bool.and_eq_true] at h
  exact ⟨h.1, (of_decide_eq_true h.2 : Int.gcd p.1 p.2 = 1)⟩
theorem isD_s4 {p : Pt} (h : isD p = true) : s4 p := by
  have := (isD_in h).1
  unfold in9 at this
  simp at this
  exact ⟨by omega, by omega⟩
theorem isD_bp {p : Pt} (h : isD p = true) : bp p := (isD_s4 h).bp
theorem isD_neg {p : Pt} : isD (-p.1, -p.2) = isD p := by
  have e : Int.gcd (-p.1) (-p.2) = Int.gcd p.1 p.2 := by rw [Int.gcd_neg, Int.neg_gcd]
  unfold isD in9
  simp only [e]
  congr 1
  rw [Bool.eq_iff_iff]
  simp
  omega
section
variable {ρ : En} {μ : Sto} {d : DV}
def R.pp (cs : List Nat) (F : Fn) (r : R DV) : R DV := r.bind fun d μ1 => if insL μ1 cs d = true then (F [d] μ1).nox else .stuck
@[simp] theorem ePropL_ap {cs : List Nat} {F : Fn} {o : DE} : ePropL cs F o ρ μ = R.pp cs F (o ρ μ) := rfl
@[simp] theorem pp_ok {cs : List Nat} {F : Fn} : R.pp cs F (.ok d μ) = if insL μ cs d = true then (F [d] μ).nox else .stuck := rfl
@[simp] theorem nox_ok {α : Type} {x : α} : (R.ok x μ).nox = .ok x μ := rfl
def R.bo1 (G : DV → DV → Sto → R DV) (r : R DV) (b : DE) (ρ : En) : R DV := r.bind fun x μ1 => (b ρ μ1).bind fun y μ2 => (G x y μ2).nox
def R.bo2 (G : DV → DV → Sto → R DV) (x : DV) (r : R DV) : R DV := r.bind fun y μ2 => (G x y μ2).nox
@[simp] theorem eBinO_ap {G : DV → DV → Sto → R DV} {a b : DE} : eBinO G a b ρ μ = R.bo1 G (a ρ μ) b ρ := rfl
@[simp] theorem bo1_ok {G : DV → DV → Sto → R DV} {x : DV} {b : DE} : R.bo1 G (.ok x μ) b ρ = R.bo2 G x (b ρ μ) := rfl
@[simp] theorem bo2_ok {G : DV → DV → Sto → R DV} {x y : DV} : R.bo2 G x (.ok y μ) = (G x y μ).nox := rfl
def R.mt1 (cs : List Nat) (m : Str) (F : Fn) (r : R DV) (a : DA) (ρ : En) : R DV := r.bind fun d μ1 => match insOf μ1 d with
  | some (c', ns, _) => if (cs.contains c' && !ns.contains m) = true then (a ρ μ1).bind fun ys μ2 => F (d :: ys) μ2 else .stuck
  | none => .stuck
def R.mt2 (F : Fn) (d : DV) (r : R (List DV)) : R DV := r.bind fun ys μ2 => F (d :: ys) μ2
@[simp] theorem eMtL_ap {cs : List Nat} {m : Str} {F : Fn} {o : DE} {a : DA} : eMtL cs m F o a ρ μ = R.mt1 cs m F (o ρ μ) a ρ := rfl
theorem mt1_arc {m : Str} {F : Fn} {a : DA} {o : Ar2} (hm : (["own_start", "own_stop"] : List Str).contains m = false) : R.mt1 [2, 3] m F (.ok (arcD o) μ) a ρ = R.mt2 F (arcD o) (a ρ μ) := by
  match o with
  | none =>
    show (if (([2, 3] : List Nat).contains 3 && !(["own_start", "own_stop"] : List Str).contains m) = true then R.mt2 F (arcD none) (a ρ μ) else .stuck) = _
    rw [hm]; rfl
  | some (s, t) =>
    show (if (([2, 3] : List Nat).contains 2 && !(["own_start", "own_stop"] : List Str).contains m) = true then R.mt2 F (arcD (some (s, t))) (a ρ μ) else .stuck) = _
    rw [hm]; rfl
@[simp] theorem mt1_cov {F : Fn} {a : DA} {o : Ar2} : R.mt1 [2, 3] "covers" F (.ok (arcD o) μ) a ρ = R.mt2 F (arcD o) (a ρ μ) := mt1_arc (by decide +kernel)
@[simp] theorem mt1_trn {F : Fn} {a : DA} {o : Ar2} : R.mt1 [2, 3] "turned" F (.ok (arcD o) μ) a ρ = R.mt2 F (arcD o) (a ρ μ) := mt1_arc (by decide +kernel)
@[simp] theorem mt1_end {F : Fn} {a : DA} {o : Ar2} : R.mt1 [2, 3] "ends" F (.ok (arcD o) μ) a ρ = R.mt2 F (arcD o) (a ρ μ) := mt1_arc (by decide +kernel)
@[simp] theorem mt2_ok {F : Fn} {ys : List DV} : R.mt2 F d (.ok ys μ) = F (d :: ys) μ := rfl
def R.mk1 (c : Nat) (F : Fn) (r : R (List DV)) : R DV := r.bind fun xs μ1 => mkR μ1.length (F (.cell μ1.length :: xs) (μ1 ++ [.ins c [] []]))
@[simp] theorem eMk_ap {c : Nat} {F : Fn} {a : DA} : eMk c F a ρ μ = R.mk1 c F (a ρ μ) := rfl
@[simp] theorem mk1_ok {c : Nat} {F : Fn} {xs : List DV} : R.mk1 c F (.ok xs μ) = mkR μ.length (F (.cell μ.length :: xs) (μ ++ [.ins c [] []])) := rfl
@[simp] theorem eCm_ap {c : Nat} {F : Fn} : eCm c F ρ μ = F [.gl c] μ := rfl
def R.or1 (cs ds : List Nat) (F : Fn) (r : R DV) (b : DE) (ρ : En) : R DV := r.bind fun x μ1 => (b ρ μ1).bind fun y μ2 => if (insL μ2 cs x && (orTy y || ds.any fun d => insC μ2 d y)) = true then F [x, y] μ2 else .stuck
def R.or2 (cs ds : List Nat) (F : Fn) (x : DV) (r : R DV) : R DV := r.bind fun y μ2 => if (insL μ2 cs x && (orTy y || ds.any fun d => insC μ2 d y)) = true then F [x, y] μ2 else .stuck
@[simp] theorem eOrAL_ap {cs ds : List Nat} {F : Fn} {a b : DE} : eOrAL cs ds F a b ρ μ = R.or1 cs ds F (a ρ μ) b ρ := rfl
@[simp] theorem or1_ok {cs ds : List Nat} {F : Fn} {x : DV} {b : DE} : R.or1 cs ds F (.ok x μ) b ρ = R.or2 cs ds F x (b ρ μ) := rfl
@[simp] theorem or2_ok {cs ds : List Nat} {F : Fn} {x y : DV} : R.or2 cs ds F x (.ok y μ) = if (insL μ cs x && (orTy y || ds.any fun d => insC μ d y)) = true then F [x, y] μ else .stuck := rfl
@[simp] theorem insL_arc {o : Ar2} : insL μ [2, 3] (arcD o) = true := by
  match o with
  | none => rfl
  | some (s, t) => rfl
@[simp] theorem any_arc {o : Ar2} : (([2, 3] : List Nat).any fun d => insC μ d (arcD o)) = true := by
  match o with
  | none => rfl
  | some (s, t) => rfl
@[simp] theorem fl_st {o : Ar2} : vFl [2, 3] "own_start" (arcD o) μ = some (stD o) := by
  match o with
  | none => rfl
  | some (s, t) => rfl
@[simp] theorem fl_sp {o : Ar2} : vFl [2, 3] "own_stop" (arcD o) μ = some (spD o) := by
  match o with
  | none => rfl
  | some (s, t) => rfl
@[simp] theorem isi_arc {o : Ar2} : vIsiS 2 [3] [arcD o, .gl 2] μ = some (.bl true) := by
  match o with
  | none => rfl
  | some (s, t) => rfl
@[simp] theorem vIs_pt {p : Pt} : vIs (ptD p) .non μ = some (.bl false) := rfl
@[simp] theorem vIs_nn : vIs .non .non μ = some (.bl true) := rfl
@[simp] theorem stD_s {s t : Pt} : stD (some (s, t)) = ptD s := rfl
@[simp] theorem spD_s {s t : Pt} : spD (some (s, t)) = ptD t := rfl
@[simp] theorem stD_n : stD none = .non := rfl
@[simp] theorem spD_n : spD none = .non := rfl
@[simp] theorem start_ok {o : Ar2} : f_Arc_start [arcD o] μ = .ok (stD o) μ := by
  unfold f_Arc_start; rw [runF1]; unfold b_Arc_start; simp
@[simp] theorem stop_ok {o : Ar2} : f_Arc_stop [arcD o] μ = .ok (spD o) μ := by
  unfold f_Arc_stop; rw [runF1]; unfold b_Arc_stop; simp
@[simp] theorem whole_ok {o : Ar2} : f_Arc_is_whole [arcD o] μ = .ok (.bl o.isNone) μ := by
  unfold f_Arc_is_whole; rw [runF1]; unfold b_Arc_is_whole
  match o with
  | none => simp
  | some (s, t) => simp
def inP (o : Ar2) (d : Pt) : Bool := match o with
  | none => true
  | some (s, t) => if s = t then decide (d ≠ s) else lies s t d
theorem lies_ok {d s t : Pt} (hs : isD s = true) (ht : isD t = true) (hd : isD d = true) : f_lies_between [ptD d, ptD s, ptD t] μ = .ok (.bl (lies s t d)) μ := by
  unfold f_lies_between
  rw [runF3]
  unfold b_lies_between lies
  have c1 := cross_ok (μ := μ) (q := t) (isD_bp hs)
  have c2 := cross_ok (μ := μ) (q := d) (isD_bp hs)
  have c3 := cross_ok (μ := μ) (q := t) (isD_bp hd)
  have c4 := cross_ok (μ := μ) (q := d) (isD_bp ht)
  have c5 := cross_ok (μ := μ) (q := s) (isD_bp hd)
  by_cases h1 : 0 < crs s t
  · by_cases h2 : 0 < crs s d <;> simp [c1, c2, c3, c4, c5, h1, h2]
  · by_cases h2 : crs s t < 0
    · by_cases h3 : crs t d < 0 <;> simp [c1, c2, c3, c4, c5, h1, h2, h3]
    · simp [c1, c2, c3, c4, c5, h1, h2]
theorem dir_pt {p : Pt} : f_is_direction [ptD p] μ = .ok (.bl (isD p)) μ := dir1 rfl
theorem in_ok {o : Ar2} {d : Pt} (ho : Ok o) (hd : isD d = true) : f_Arc___contains__ [arcD o, ptD d] μ = .ok (.bl (inP o d)) μ := by
  unfold f_Arc___contains__
  rw [runF2]
  unfold b_Arc___contains__
  match o, ho with
  | none, _ => simp [dir_pt, hd, inP]
  | some (s, t), ho =>
    have l := lies_ok (μ := μ) ho.1 ho.2 hd
    by_cases e : s = t
    · subst e; simp [dir_pt, hd, inP, vEq_pt, vNe_pt]
    · simp [dir_pt, hd, inP, vEq_pt, e, l]
@[simp] theorem tBl_b {b : Bool} : tBl (.bl b) = some (.bl b) := rfl
theorem inO_ok {o : Ar2} {d : Pt} (ho : Ok o) (hd : isD d = true) : inOL [2, 3] f_Arc___contains__ (ptD d) (arcD o) μ = .ok (.bl (inP o d)) μ := by
  unfold inOL ownR
  rw [insL_arc, if_pos rfl, in_ok ho hd]
  rfl
def evA (n : Nat) (s t : DV) (x : Option DV) : En := [some (.cell n), some s, some t, x]
theorem at_new' {c : CO} : (μ ++ [c])[μ.length]? = some c := by simp
theorem set_new {c c' : CO} : (μ ++ [c]).set μ.length c' = μ ++ [c'] := by
  rw [List.set_append_right _ _ (Nat.le_refl _)]
  simp
theorem take_new {c : CO} : (μ ++ [c]).take μ.length = μ := by simp
/-- a field set -/
theorem sfl_c {c : Nat} {f : Str} {fv : DE} {ns : List Str} {xs : List DV} {v : DV} (hv : fv ρ (μ ++ [.ins c ns xs]) = .ok v (μ ++ [.ins c ns xs])) (h0 : ρ[0]? = some (some (.cell μ.length)))
    (hc : (decide (f ∉ ns) && (decide (ns.length = xs.length) && decide (xs.length < 1000))) = true) : sFl c f fv (eVar 0) ρ (μ ++ [.ins c ns xs]) = .nx ρ (μ ++ [.ins c (ns ++ [f]) (xs ++ [v])]) := by
  have e0 : eVar 0 ρ (μ ++ [CO.ins c ns xs]) = .ok (.cell μ.length) (μ ++ [CO.ins c ns xs]) := by rw [eVar_ap, h0]
  have key := @at_new' μ (.ins c ns xs)
  have ks := @set_new μ (.ins c ns xs) (CO.ins c (ns ++ [f]) (xs ++ [v]))
  unfold sFl
  rw [hv]
  simp only [R.toS, e0, key, ks, decide_true, Bool.true_and, hc, if_true]
theorem fin_non {c c' : CO} {ρ : En} : SR.fin .fz (μ ++ [c]).length (.nx ρ (μ ++ [c'])) = .ok .non (μ ++ [c']) := by
  rw [sfin_nx]
  show finF _ _ _ = _
  unfold finF
  rw [if_pos (by simp)]
theorem mkR_obj {c : Nat} {ns : List Str} {xs : List DV} (lw : lowS μ) (hx : lowL μ.length xs = true) : mkR μ.length (.ok .non (μ ++ [.ins c ns xs])) = .ok (.obj c ns xs) μ := by
  show finF μ.length (.cell μ.length) (μ ++ [.ins c ns xs]) = _
  unfold finF
  rw [if_neg (by simp), take_new, if_pos (lowS_all lw _)]
  simp [hx]
theorem own2 {d : DV} : (decide (("own_stop" : Str) ∉ (["own_start"] : List Str)) && (decide ((["own_start"] : List Str).length = [d].length) && decide ([d].length < 1000))) = true := by
  have h : (("own_stop" : Str) ∉ (["own_start"] : List Str)) := by decide +kernel
  simp only [h, not_false_eq_true, decide_true, Bool.true_and]
  rfl
theorem mk_whole (lw : lowS μ) : mkR μ.length (f_WholeArc___init__ [.cell μ.length] (μ ++ [.ins 3 [] []])) = .ok (arcD none) μ := by
  unfold f_WholeArc___init__
  rw [runF1]
  unfold b_WholeArc___init__
  have s1 := sfl_c (μ := μ) (ρ := [some (.cell μ.length)]) (c := 3) (f := "own_start") (fv := eC .non) (ns := []) (xs := []) rfl rfl (by rfl)
  have s2 := sfl_c (μ := μ) (ρ := [some (.cell μ.length)]) (c := 3) (f := "own_stop") (fv := eC .non) (ns := ["own_start"]) (xs := [.non]) rfl rfl own2
  show mkR μ.length (SR.fin .fz _ (SR.seq (sFl 3 "own_start" (eC .non) (eVar 0) [some (.cell μ.length)] (μ ++ [.ins 3 [] []])) _)) = _
  rw [s1, seq_nx]
  show mkR μ.length (SR.fin .fz _ (sFl 3 "own_stop" (eC .non) (eVar 0) [some (.cell μ.length)] (μ ++ [.ins 3 ["own_start"] [.non]]))) = _
  rw [s2, fin_non]
  exact mkR_obj lw rfl
theorem arc_head {s t : Pt} {ν : Sto} (hs : isD s = true) (ht : isD t = true) : loopD (gN 3) (sIf (tNot' (tB' (eCall f_is_direction (aCons (eVar 3) aNil)))) (sRaise 0 ["value"] "InvalidDirection" (aCons (eVar 3) aNil)) sNop) [ptD s, ptD t] (evA μ.length (ptD s) (ptD t) none) ν = .nx (evA μ.length (ptD s) (ptD t) (some (ptD t))) ν := by
  have one : ∀ (p : Pt) (x : Option DV), isD p = true → sIf (tNot' (tB' (eCall f_is_direction (aCons (eVar 3) aNil)))) (sRaise 0 ["value"] "InvalidDirection" (aCons (eVar 3) aNil)) sNop (evA μ.length (ptD s) (ptD t) (some (ptD p))) ν = .nx (evA μ.length (ptD s) (ptD t) (some (ptD p))) ν := fun p x h => by simp [evA, dir_pt, h]
  unfold loopD
  rw [gN_ap]
  show (match sIf _ _ _ (evA μ.length (ptD s) (ptD t) (some (ptD s))) ν with
    | .nx ρ' μ' => _ | .ct ρ' μ' => _ | .bk ρ' μ' => _ | r => r) = _
  rw [one s none hs]
  show loopD _ _ [ptD t] _ _ = _
  unfold loopD
  rw [gN_ap]
  show (match sIf _ _ _ (evA μ.length (ptD s) (ptD t) (some (ptD t))) ν with
    | .nx ρ' μ' => _ | .ct ρ' μ' => _ | .bk ρ' μ' => _ | r => r) = _
  rw [one t none ht]
  rfl
theorem mk_arc {s t : Pt} (lw : lowS μ) (hs : isD s = true) (ht : isD t = true) : mkR μ.length (f_Arc___init__ [.cell μ.length, ptD s, ptD t] (μ ++ [.ins 2 [] []])) = .ok (arcD (some (s, t))) μ := by
  unfold f_Arc___init__
  rw [runF3]
  unfold b_Arc___init__
  have hh := arc_head (μ := μ) (ν := μ ++ [.ins 2 [] []]) hs ht
  have s1 := sfl_c (μ := μ) (ρ := evA μ.length (ptD s) (ptD t) (some (ptD t))) (c := 2) (f := "own_start") (fv := eVar 1) (ns := []) (xs := []) rfl rfl (by rfl)
  have s2 := sfl_c (μ := μ) (ρ := evA μ.length (ptD s) (ptD t) (some (ptD t))) (c := 2) (f := "own_stop") (fv := eVar 2) (ns := ["own_start"]) (xs := [ptD s]) rfl rfl own2
  have hf : sFor (iSeq (eTup (aCons (eVar 1) (aCons (eVar 2) aNil)))) (gN 3) (sIf (tNot' (tB' (eCall f_is_direction (aCons (eVar 3) aNil)))) (sRaise 0 ["value"] "InvalidDirection" (aCons (eVar 3) aNil)) sNop) (evA μ.length (ptD s) (ptD t) none) (μ ++ [.ins 2 [] []]) = .nx (evA μ.length (ptD s) (ptD t) (some (ptD t))) (μ ++ [.ins 2 [] []]) := by
    rw [sFor_ap, iSeq_ap, eTup_ap]
    simp only [aCons_ap, eVar_ap, evA, List.getElem?_cons_succ, List.getElem?_cons_zero, ac1_ok, aNil_ap, ac2_ok, mk_ok, mkT2, seqi_ok, wk_tup, of_some, for1_fix]
    exact hh
  show mkR μ.length (SR.fin .fz _ (SR.seq (sFor _ _ _ (evA μ.length (ptD s) (ptD t) none) (μ ++ [.ins 2 [] []])) _)) = _
  rw [hf, seq_nx, sSeq_ap, s1, seq_nx]
  show mkR μ.length (SR.fin .fz _ (sFl 2 "own_stop" (eVar 2) (eVar 0) (evA μ.length (ptD s) (ptD t) (some (ptD t))) (μ ++ [.ins 2 ["own_start"] [ptD s]]))) = _
  rw [s2, fin_non]
  exact mkR_obj lw rfl
theorem cm_whole (lw : lowS μ) {d : DV} : f_Arc_whole [d] μ = .ok (arcD none) μ := by
  unfold f_Arc_whole
  rw [runF1]
  unfold b_Arc_whole
  have := mk_whole lw
  simp [this]
theorem cov_ok {x y : Ar2} (hx : Ok x) (hy : Ok y) : f_Arc_covers [arcD x, arcD y] μ = .ok (.bl (covG inP x y)) μ := by
  unfold f_Arc_covers
  rw [runF2]
  unfold b_Arc_covers
  match x, y, hx, hy with
  | none, _, _, _ => simp [covG]
  | some (a, b), none, _, _ => simp [covG]
  | some (a, b), some (c, d), hx, hy =>
    have i1 := inO_ok (μ := μ) hy hx.1
    have i2 := inO_ok (μ := μ) hy hx.2
    have i3 := inO_ok (μ := μ) hx hy.1
    show _ = R.ok (DV.bl (if (inP (some (c, d)) a || inP (some (c, d)) b) = true then false else (decide (c = a) || inP (some (a, b)) c))) μ
    cases h1 : inP (some (c, d)) a with
    | true => simp [i1, h1]
    | false => cases h2 : inP (some (c, d)) b with
      | true => simp [i1, i2, h1, h2]
      | false =>
        by_cases e : c = a
        · subst e; simp [i1, i2, h1, h2, vEq_pt]
        · simp [i1, i2, i3, h1, h2, vEq_pt, e]
theorem meet_ok {x y : Ar2} (hx : Ok x) (hy : Ok y) : f_arcs_meet [arcD x, arcD y] μ = .ok (.bl (meetG inP x y)) μ := by
  unfold f_arcs_meet
  rw [runF2]
  unfold b_arcs_meet
  match x, y, hx, hy with
  | none, none, _, _ => simp [meetG]
  | none, some (c, d), _, _ => simp [meetG]
  | some (a, b), none, _, _ => simp [meetG]
  | some (a, b), some (c, d), hx, hy =>
    have i1 := inO_ok (μ := μ) hy hx.1
    have i3 := inO_ok (μ := μ) hx hy.1
    show _ = R.ok (DV.bl (decide (a = c) || (inP (some (c, d)) a || inP (some (a, b)) c))) μ
    by_cases e : a = c
    · subst e; simp [vEq_pt]
    · cases h1 : inP (some (c, d)) a <;> simp [i1, i3, h1, vEq_pt, e]
theorem uni_ok {x y : Ar2} (lw : lowS μ) (hx : Ok x) (hy : Ok y) : f_united [arcD x, arcD y] μ = .ok (arcD (uniG inP x y)) μ := by
  unfold f_united
  rw [runF2]
  unfold b_united
  have c1 := cov_ok (μ := μ) hx hy
  have c2 := cov_ok (μ := μ) hy hx
  unfold uniG
  cases h1 : covG inP x y with
  | true => simp [c1, h1]
  | false =>
    cases h2 : covG inP y x with
    | true => simp [c1, c2, h1, h2]
    | false =>
      match x, y, hx, hy with
      | none, _, _, _ => cases h1
      | some (a, b), none, _, _ => cases h2
      | some (a, b), some (c, d), hx, hy =>
        have i1 := inO_ok (μ := μ) hy hx.1
        have i3 := inO_ok (μ := μ) hx hy.1
        have m0 := mk_whole lw
        have m1 := mk_arc lw hx.1 hy.2
        have m2 := mk_arc lw hy.1 hx.2
        cases h3 : inP (some (c, d)) a <;> cases h4 : inP (some (a, b)) c <;> simp [c1, c2, h1, h2, i1, i3, h3, h4, m0, m1, m2]
theorem or_ok {x y : Ar2} (lw : lowS μ) (hx : Ok x) (hy : Ok y) (h : meetG inP x y = true) : f_Arc___or__ [arcD x, arcD y] μ = .ok (arcD (uniG inP x y)) μ := by
  unfold f_Arc___or__
  rw [runF2]
  unfold b_Arc___or__
  simp [meet_ok hx hy, h, uni_ok lw hx hy]
theorem raiseN {ρ : En} : sRaise 1 [] "NoJoining" aNil ρ μ = .ex 1 ["code"] [.str "NoJoining"] ρ μ := rfl
theorem fin_exN {ρ : En} : SR.fin .fz μ.length (.ex 1 ["code"] [.str "NoJoining"] ρ μ) = .ex 1 ["code"] [.str "NoJoining"] μ := by
  show finX _ _ _ _ _ = _
  unfold finX
  rw [if_pos rfl]
theorem or_no {x y : Ar2} (hx : Ok x) (hy : Ok y) (h : meetG inP x y = false) : f_Arc___or__ [arcD x, arcD y] μ = .ex 1 ["code"] [.str "NoJoining"] μ := by
  unfold f_Arc___or__
  rw [runF2]
  unfold b_Arc___or__
  simp [meet_ok hx hy, h, raiseN, fin_exN]
theorem or_odd {x : Ar2} {d : DV} (h : vIsiS 2 [3] [d, .gl 2] μ = some (.bl false)) : f_Arc___or__ [arcD x, d] μ = .ex 1 ["code"] [.str "NoJoining"] μ := by
  unfold f_Arc___or__
  rw [runF2]
  unfold b_Arc___or__
  simp [h, raiseN, fin_exN]
def negO (o : Ar2) : Ar2 := mpO (fun p : Pt => (-p.1, -p.2)) o
theorem Ok.neg {o : Ar2} (h : Ok o) : Ok (negO o) := by
  match o, h with
  | none, _ => trivial
  | some (s, t), h => exact ⟨isD_neg.trans h.1, isD_neg.trans h.2⟩
theorem trn_ok {x : Ar2} (lw : lowS μ) (hx : Ok x) : f_Arc_turned [arcD x] μ = .ok (arcD (negO x)) μ := by
  unfold f_Arc_turned
  rw [runF1]
  unfold b_Arc_turned
  match x, hx with
  | none, _ => simp [negO, mpO]
  | some (a, b), hx =>
    have m := mk_arc lw (isD_neg.trans hx.1) (isD_neg.trans hx.2)
    simp [turned_ok, m, negO, mpO]
theorem eq_same {x : Ar2} : f_Arc___eq__ [arcD x, arcD x] μ = .ok (.bl true) μ := by
  unfold f_Arc___eq__
  rw [runF2]
  unfold b_Arc___eq__
  match x with
  | none =>
    have : vEq .non .non μ = some (.bl true) := rfl
    simp [this]
  | some (a, b) => simp [vEq_pt]
theorem insC_arc {x : Ar2} : (insC μ 2 (arcD x) = true ∧ okTy μ 2 (arcD x) = true) ∨ (insC μ 2 (arcD x) = false ∧ insC μ 3 (arcD x) = true ∧ okTy μ 3 (arcD x) = true) := by
  match x with
  | none => exact .inr ⟨rfl, rfl, rfl⟩
  | some (a, b) => exact .inl ⟨rfl, rfl⟩
theorem eqOL_same {x : Ar2} : eqOL 2 3 f_Arc___eq__ (arcD x) (arcD x) μ = .ok (.bl true) μ := by
  unfold eqOL eqOw ownR
  rcases @insC_arc μ x with ⟨h1, h2⟩ | ⟨h1, h2, h3⟩
  · rw [if_pos h1, if_pos h1, if_pos h2, eq_same]; rfl
  · rw [if_neg (by rw [h1]; decide), if_pos h2, if_pos h3, eq_same]; rfl
theorem neOL_same {x : Ar2} : neOL 2 3 f_Arc___eq__ (arcD x) (arcD x) μ = .ok (.bl false) μ := by
  unfold neOL neOw ownR
  rcases @insC_arc μ x with ⟨h1, h2⟩ | ⟨h1, h2, h3⟩
  · rw [if_pos h1, if_pos h1, if_pos h2, eq_same]; rfl
  · rw [if_neg (by rw [h1]; decide), if_pos h2, if_pos h3, eq_same]; rfl
end
end Lw

set_option Elab.async false
set_option linter.all false
set_option maxRecDepth 100000
set_option maxHeartbeats 4000000
namespace Lw
open PySem PySem.Spec PyProof.Rows L2 SD
section
variable {μ : Sto} {ρ : En}
def R.z2 (r : R (List DV)) : R Wk := r.bind fun ds μ1 => R.of (wkZip ds) μ1
@[simp] theorem iZip2_ap {r : DA} : iZip2 r ρ μ = R.z2 (r ρ μ) := rfl
@[simp] theorem z2_ok {ds : List DV} : R.z2 (.ok ds μ) = R.of (wkZip ds) μ := rfl
theorem zip_self {α : Type} (h : α → DV) (l : List α) : zipD (l.map h) (l.map h) = l.map fun a => .tup [h a, h a] := by
  induction l with
  | nil => rfl
  | cons a l ih => simpa [zipD] using ih
theorem zip_two {α : Type} (g h : α → DV) (l : List α) : zipD (l.map g) (l.map h) = l.map fun a => .tup [g a, h a] := by
  induction l with
  | nil => rfl
  | cons a l ih => simpa [zipD] using ih
theorem same_s1 (k : Nat) : f__law_same (k + 1) = runF .fz 2 4 (b__law_same (f__law_same k)) := rfl
theorem same_bl (k : Nat) {b : Bool} : f__law_same (k + 1) [.bl b, .bl b] μ = .ok (.bl true) μ := by
  rw [same_s1, runF2]
  unfold b__law_same
  have n1 : vIs (.bl b) .non μ = some (.bl false) := rfl
  simp [n1, T7.sub]
theorem same_st (k : Nat) {z : Str} (h : PyData.strOk z = true) : f__law_same (k + 1) [.str z, .str z] μ = .ok (.bl true) μ := by
  rw [same_s1, runF2]
  unfold b__law_same
  have n1 : vIs (.str z) .non μ = some (.bl false) := rfl
  simp [n1, T7.sub, vEq_s h h]
theorem same_sq (k : Nat) {ds : List DV} {d : DV} (hd : d = .lst ds ∨ d = .tup ds) (h : ∀ x ∈ ds, f__law_same k [x, x] μ = .ok (.bl true) μ) (hl : ds.length ≤ 1000) : f__law_same (k + 1) [d, d] μ = .ok (.bl true) μ := by
  rw [same_s1, runF2]
  unfold b__law_same
  have wp : wipeE [some d, some d, none, none] [2, 3] = [some d, some d, none, none] := rfl
  have hz : wkZip [d, d] = some (.fix (ds.map fun x => .tup [x, x])) := by
    have := zip_self id ds
    rw [List.map_id] at this
    rcases hd with rfl | rfl <;> (show some (Wk.fix (zipD ds ds)) = _; rw [this]; rfl)
  have hc : compD (gTup' (gCons' (gN 2) (gCons' (gN 3) gNil')) 2) tYes' (eCall (f__law_same k) (aCons (eVar 2) (aCons (eVar 3) aNil))) [some d, some d, none, none] (ds.map fun x => .tup [x, x]) μ = .ok (ds.map fun _ => DV.bl true) μ :=
    compD_mapL (fun x => DV.tup [x, x]) (fun _ => DV.bl true) ds fun x hx => ⟨[some d, some d, some x, some x], by simp, by simp [h x hx]⟩
  have hlc : ∀ {t : DG} {tt : DT} {te : DE} {ρ : En}, R.lc1 (.ok (.fix (ds.map fun x => .tup [x, x])) μ) t tt te ρ = compD t tt te ρ (ds.map fun x => .tup [x, x]) μ := lc1_fix (by rw [List.length_map]; omega)
  have hv : vAll [.lst (ds.map fun _ => DV.bl true)] μ = some (.bl true) := by
    rw [vAll_map (μ := μ) ds fun _ => true]; simp
  have n1 : vIs d .non μ = some (.bl false) := by rcases hd with rfl | rfl <;> rfl
  have ln : vLen [d] μ = some (.int ds.length) := by rcases hd with rfl | rfl <;> rfl
  rcases hd with rfl | rfl <;> simp [n1, T7.sub, ln, wp, hz, hlc, hc, hv]
theorem same_bls (k : Nat) {bs : List Bool} (hl : bs.length ≤ 1000) : f__law_same (k + 2) [.lst (bs.map .bl), .lst (bs.map .bl)] μ = .ok (.bl true) μ :=
  same_sq (k + 1) (.inl rfl) (fun x hx => by obtain ⟨b, _, rfl⟩ := List.mem_map.mp hx; exact same_bl k) (by rw [List.length_map]; exact hl)
abbrev noJ : DV := .tup [.str "NoJoining", .tup []]
theorem same_noJ : f__law_same 6 [noJ, noJ] μ = .ok (.bl true) μ := same_sq 5 (.inr rfl) (fun x hx => by
  simp only [List.mem_cons, List.not_mem_nil, or_false] at hx
  rcases hx with rfl | rfl
  · exact same_st 4 (by decide +kernel)
  · exact same_sq 4 (.inr rfl) (fun x hx => by cases hx) (by show 0 ≤ _; decide)) (by show 2 ≤ _; decide)
theorem got_ok {ρ : En} {fs : DS} {fl : DE} {d : DV} {w : Str} (h : fl ρ μ = .ok d μ) : eGotW w csL fs fl ρ μ = .ok (.tup [.str w, d]) μ := by
  unfold eGotW
  rw [h]
theorem got_noJ {ρ : En} {fl : DE} (hN : μ.all CO.noE = true) (h : fl ρ μ = .ex 1 ["code"] [.str "NoJoining"] μ) : eGotW "" csL fs__law_try fl ρ μ = .ok noJ μ := by
  have xc : vXf csL "code" (.exn 1 ["code"] [.str "NoJoining"]) μ = some (.str "NoJoining") := by rfl
  have i1 : vIn (.str "NoJoining") (.tup [.str "InvalidName", .str "InvalidNumber", .str "InvalidDirection"]) μ = some (.bl false) := by kernel_rfl
  have i2 : vIn (.str "NoJoining") (.tup [.str "InvalidLot", .str "InvalidRow", .str "InvalidPart", .str "InvalidWay"]) μ = some (.bl false) := by kernel_rfl
  have i3 : vIn (.str "NoJoining") (.tup [.str "PartsOverlap", .str "PiecesOverlap", .str "Barred"]) μ = some (.bl false) := by kernel_rfl
  have i4 : vIn (.str "NoJoining") (.tup [.str "DuplicateName", .str "UnknownName"]) μ = some (.bl false) := by kernel_rfl
  have i5 : vIn (.str "NoJoining") (.tup [.str "Pegged", .str "NotFast", .str "Held"]) μ = some (.bl false) := by kernel_rfl
  have mk4 : ∀ a b c d : DV, mkT [a, b, c, d] μ = .ok (.tup [a, b, c, d]) μ := fun a b c d => mkT_small (by show 4 ≤ _; decide)
  have fld : f__law_field [.exn 1 ["code"] [.str "NoJoining"]] μ = .ok (.tup []) μ := by
    unfold f__law_field
    rw [runF1]
    unfold b__law_field
    simp [xc, i1, i2, i3, i4, i5, mk4]
  have fs : fs__law_try [none, some (.exn 1 ["code"] [.str "NoJoining"])] μ = .rt noJ μ := by
    unfold fs__law_try
    have cf : eCallF f__law_field (eVar 1) [none, some (.exn 1 ["code"] [.str "NoJoining"])] μ = .ok (.tup []) μ := by
      show (R.ok (DV.exn 1 ["code"] [.str "NoJoining"]) μ).bind _ = _
      first
        | (show f__law_field [.exn 1 ["code"] [.str "NoJoining"]] μ = _; exact fld)
        | (simp only [R.bind]; simp [fld])
    simp [xc, cf]
  unfold eGotW
  rw [h]
  show (if csL.contains 1 = true then (match fs__law_try [none, some (.exn 1 ["code"] [.str "NoJoining"])] μ with
    | .rt d μ2 => if (d.noE && μ2.all CO.noE) = true then R.ok d μ2 else .stuck
    | _ => .stuck) else .stuck) = _
  rw [if_pos (by decide), fs]
  show (if (noJ.noE && μ.all CO.noE) = true then R.ok noJ μ else .stuck) = _
  rw [hN]
  rfl
end
end Lw

set_option Elab.async false
set_option linter.all false
set_option maxRecDepth 100000
set_option maxHeartbeats 4000000
namespace Lw
open PySem PySem.Spec PyProof.Rows L2 SD
/-- a direction for a place -/
def tv (n : Nat) (m : Nat → Pt) (t : Bool × Nat) : Pt := if t.1 = true then midP (m t.2) (m ((t.2 + 1) % n)) else m t.2
def mOf (ms : List Pt) (i : Nat) : Pt := ms.getD i (1, 0)
theorem ms_map (ms : List Pt) : (List.range ms.length).map (mOf ms) = ms := by
  refine List.ext_getElem (by simp) fun i h1 h2 => ?_
  rw [List.getElem_map, List.getElem_range]
  unfold mOf
  rw [List.getD_eq_getElem?_getD, List.getElem?_eq_getElem h2]
  rfl
theorem mk_of_srt {ms : List Pt} (hs : Srt ms) (hp : ∀ p ∈ ms, Prm p) : Mk ms.length (mOf ms) where
  p := fun i hi => hp _ (getD_mem hi)
  lt := fun i j hi hj hij => by
    have := List.pairwise_iff_getElem.mp hs i j hi hj hij
    unfold mOf
    rw [List.getD_eq_getElem?_getD, List.getD_eq_getElem?_getD, List.getElem?_eq_getElem hi, List.getElem?_eq_getElem hj]
    exact this
def testsP (ms : List Pt) : List Pt := ms ++ midsP ms
theorem tests_map (ms : List Pt) : testsP ms = (tsts ms.length).map (tv ms.length (mOf ms)) := by
  unfold testsP tsts midsP
  rw [List.map_append, List.map_map, List.map_map]
  conv => lhs; lhs; rw [← ms_map ms]
  rfl
section
variable {n : Nat} {m : Nat → Pt}
theorem inn_m (h : Mk n m) : Hm m (· < n) inX inP where
  inj := fun a b ha hb => h.inj ha hb
  inn := fun x d hx hd => by
    match x, hx with
    | none, _ => rfl
    | some (a, b), hx =>
      show (if m a = m b then decide (m d ≠ m a) else lies (m a) (m b) (m d)) = ixB a b d
      rw [← h.B hx.1 hx.2 hd]
      by_cases e : m a = m b
      · rw [if_pos e]; unfold btw; rw [if_pos e]
      · rw [if_neg e, lies_btw (h.p _ hx.1) (h.p _ hx.2) (h.p _ hd) e]
theorem W_m (h : Mk n m) {x : Option (Nat × Nat)} (hx : onO (· < n) x) {t : Bool × Nat} (ht : t ∈ tsts n) : W (mpO m x) (tv n m t) = tW x t := by
  match x, hx with
  | none, _ => rfl
  | some (a, b), hx =>
    obtain ⟨k, c⟩ := t
    have hc : c < n := by
      unfold tsts at ht
      rcases List.mem_append.mp ht with q | q <;> obtain ⟨c', hc, e⟩ := List.mem_map.mp q <;> cases e <;> exact List.mem_range.mp hc
    show wthn (m a) (m b) (tv n m (k, c)) = if k = true then ixM a b c else ixB a b c
    have hn : (c + 1) % n < n := Nat.mod_lt _ (by omega)
    cases k with
    | true =>
      show wthn (m a) (m b) (midP (m c) (m ((c + 1) % n))) = ixM a b c
      have hp := mid_prm (p := m c) (q := m ((c + 1) % n)) (h.p _ hc)
      rw [wthn_btw (h.p _ hx.1) (h.p _ hx.2) hp]
      exact h.M hx.1 hx.2 hc hp (mid_btw (h.p _ hc) (h.p _ hn))
    | false =>
      show wthn (m a) (m b) (m c) = ixB a b c
      rw [wthn_btw (h.p _ hx.1) (h.p _ hx.2) (h.p _ hc)]
      exact h.B hx.1 hx.2 hc
end
/-- the ends are among the marks -/
theorem ends_ix {ms : List Pt} {x : Ar2} (hx : onO (· ∈ ms) x) : ∃ x', onO (· < ms.length) x' ∧ x = mpO (mOf ms) x' := by
  have one : ∀ p ∈ ms, ∃ i, i < ms.length ∧ mOf ms i = p := fun p hp => by
    obtain ⟨i, hi, e⟩ := List.getElem_of_mem hp
    refine ⟨i, hi, ?_⟩
    unfold mOf
    rw [List.getD_eq_getElem?_getD, List.getElem?_eq_getElem hi]
    exact e
  match x, hx with
  | none, _ => exact ⟨none, trivial, rfl⟩
  | some (s, t), hx =>
    obtain ⟨i, hi, rfl⟩ := one s hx.1
    obtain ⟨j, hj, rfl⟩ := one t hx.2
    exact ⟨some (i, j), ⟨hi, hj⟩, rfl⟩
theorem any_cong {α : Type} {p q : α → Bool} : ∀ {l : List α}, (∀ t ∈ l, p t = q t) → l.any p = l.any q
  | [], _ => rfl
  | a :: l, h => by
    rw [List.any_cons, List.any_cons, h a List.mem_cons_self, any_cong fun t ht => h t (List.mem_cons_of_mem _ ht)]
theorem all_cong {α : Type} {p q : α → Bool} : ∀ {l : List α}, (∀ t ∈ l, p t = q t) → l.all p = l.all q
  | [], _ => rfl
  | a :: l, h => by
    rw [List.all_cons, List.all_cons, h a List.mem_cons_self, all_cong fun t ht => h t (List.mem_cons_of_mem _ ht)]
structure Jn (ts : List Pt) (x y : Ar2) : Prop where
  meet : (ts.any fun t => W x t && W y t) = meetG inP x y
  uni : meetG inP x y = true → ts.map (W (uniG inP x y)) = ts.map fun t => W x t || W y t
  cov : covG inP x y = ts.all fun t => W x t || !W y t
  self : covG inP x x = true
theorem jn_ok {ms : List Pt} {x y : Ar2} (hs : Srt ms) (hp : ∀ p ∈ ms, Prm p) (h0 : 0 < ms.length) (h4 : ms.length ≤ 4) (hx : onO (· ∈ ms) x) (hy : onO (· ∈ ms) y) : Jn (testsP ms) x y := by
  have M := mk_of_srt hs hp
  obtain ⟨x', hx', rfl⟩ := ends_ix hx
  obtain ⟨y', hy', rfl⟩ := ends_ix hy
  have H := inn_m M
  have c := chk_ok h0 h4 hx' hy'
  unfold chk at c
  rw [Bool.and_eq_true, Bool.and_eq_true, Bool.and_eq_true] at c
  obtain ⟨c1, c2, c3, c4⟩ := c
  have c1 := beq_iff_eq.mp c1
  have c3 := beq_iff_eq.mp c3
  have hu : onO (· < ms.length) (uniG inX x' y') := uni_on hx' hy'
  rw [tests_map]
  refine ⟨?_, fun hm => ?_, ?_, ?_⟩
  · rw [H.meet hx' hy', ← c1, List.any_map]
    exact any_cong fun t ht => by simp only [Function.comp, W_m M hx' ht, W_m M hy' ht]
  · rw [H.meet hx' hy'] at hm
    rw [hm] at c2
    simp only [Bool.not_true, Bool.false_or] at c2
    rw [H.uni hx' hy', List.map_map, List.map_map]
    refine List.map_congr_left fun t ht => ?_
    simp only [Function.comp, W_m M hx' ht, W_m M hy' ht, W_m M hu ht]
    exact beq_iff_eq.mp (List.all_eq_true.mp c2 t ht)
  · rw [H.cov hx' hy', c3, List.all_map]
    exact all_cong fun t ht => by simp only [Function.comp, W_m M hx' ht, W_m M hy' ht]
  · rw [H.cov hx' hx']; exact c4
theorem jn_none {ts : List Pt} (h : ts ≠ []) : Jn ts none none := by
  refine ⟨?_, fun _ => rfl, ?_, rfl⟩
  · show (ts.any fun t => true && true) = true
    match ts, h with
    | t :: ts, _ => rfl
  · show true = ts.all fun t => true || !true
    exact (List.all_eq_true.mpr fun _ _ => rfl).symm
theorem Jn.swap {ts : List Pt} {x y : Ar2} (h : Jn ts x y) (h2 : Jn ts y x) : meetG inP y x = meetG inP x y := by
  rw [← h.meet, ← h2.meet]
  congr 1
  funext t
  exact Bool.and_comm ..
theorem crs_nn {a b : Pt} : crs (-a.1, -a.2) (-b.1, -b.2) = crs a b := by rw [crs_n1, crs_n2]; omega
theorem neg_hm : Hm (fun p : Pt => ((-p.1, -p.2) : Pt)) (fun _ => True) inP inP where
  inj := fun a b _ _ => by
    constructor
    · intro e
      simp only [Prod.mk.injEq] at e
      exact Prod.ext (by omega) (by omega)
    · rintro rfl; rfl
  inn := fun x d _ _ => by
    match x with
    | none => rfl
    | some (s, t) =>
      have e1 : ∀ a b : Pt, ((-a.1, -a.2) : Pt) = (-b.1, -b.2) ↔ a = b := fun a b => by
        constructor
        · intro e
          simp only [Prod.mk.injEq] at e
          exact Prod.ext (by omega) (by omega)
        · rintro rfl; rfl
      show (if ((-s.1, -s.2) : Pt) = (-t.1, -t.2) then decide (((-d.1, -d.2) : Pt) ≠ (-s.1, -s.2)) else lies (-s.1, -s.2) (-t.1, -t.2) (-d.1, -d.2)) = if s = t then decide (d ≠ s) else lies s t d
      unfold lies
      simp only [crs_nn, e1, ne_eq]
theorem on_true {x : Ar2} : onO (fun _ : Pt => True) x := by
  match x with
  | none => trivial
  | some (a, b) => exact ⟨trivial, trivial⟩
theorem neg_meet {x y : Ar2} : meetG inP (negO x) (negO y) = meetG inP x y := neg_hm.meet on_true on_true
theorem neg_uni {x y : Ar2} : uniG inP (negO x) (negO y) = negO (uniG inP x y) := neg_hm.uni on_true on_true
theorem in_W {o : Ar2} {d : Pt} (ho : Ok o) (hd : Prm d) : inP o d = W o d := by
  match o, ho with
  | none, _ => rfl
  | some (s, t), ho =>
    show (if s = t then decide (d ≠ s) else lies s t d) = wthn s t d
    have ps := (isD_in ho.1).2
    have pt := (isD_in ho.2).2
    rw [wthn_btw ps pt hd]
    by_cases e : s = t
    · rw [if_pos e]; unfold btw; rw [if_pos e]
    · rw [if_neg e, lies_btw ps pt hd e]
end Lw

set_option Elab.async false
set_option linter.all false
set_option maxRecDepth 100000
set_option maxHeartbeats 4000000
namespace Lw
open PySem PySem.Spec PyProof.Rows L2 SD
def simpleL : List Pt := [(1, 0), (0, 1), (-1, 0), (0, -1), (1, 1), (-1, 1), (-1, -1), (1, -1), (2, 1), (-1, 2), (1, -3), (-3, -2)]
theorem simple_ok : ∀ p ∈ simpleL ++ [((999, -998) : Pt), (-1, 999), (1, 0)], isD p = true := by decide
theorem rdc_isD {p : Pt} (hn : p ≠ (0, 0)) (h1 : p.1.natAbs ≤ 999) (h2 : p.2.natAbs ≤ 999) : isD (rdc p) = true := by
  unfold isD
  have g : Int.gcd (rdc p).1 (rdc p).2 = 1 := rdc_prm hn
  rw [g]
  have a : (rdc p).1.natAbs ≤ 999 := Nat.le_trans (Int.natAbs_ediv_le_natAbs _ _) h1
  have b : (rdc p).2.natAbs ≤ 999 := Nat.le_trans (Int.natAbs_ediv_le_natAbs _ _) h2
  unfold in9
  generalize (rdc p).1 = x at a ⊢
  generalize (rdc p).2 = y at b ⊢
  simp
  omega
section
variable {μ : Sto}
theorem ofp_ok (b : Bx) (l : List Pt) (h0 : 0 < l.length) (h1 : l.length < 1000) : ∃ p b', f__law_of [.cell 0, .lst (l.map ptD)] (enc b :: μ) = .ok (ptD p) (enc b' :: μ) ∧ p ∈ l := by
  obtain ⟨d, b', e, hd⟩ := of_ok (μ := μ) b (l.map ptD) (by rw [List.length_map]; exact h0) (by rw [List.length_map]; omega)
  obtain ⟨p, hp, rfl⟩ := List.mem_map.mp hd
  exact ⟨p, b', e, hp⟩
theorem add_pts {l m : List Pt} (h : l.length + m.length ≤ 1000) : vAdd (.lst (l.map ptD)) (.lst (m.map ptD)) μ = some (.lst ((l ++ m).map ptD)) := by
  rw [vAdd_l (by rw [List.length_map, List.length_map]; omega), List.map_append]
theorem ldir_ok (b : Bx) : ∃ p b', f__law_dir [.cell 0] (enc b :: μ) = .ok (ptD p) (enc b' :: μ) ∧ isD p = true := by
  obtain ⟨n1, b1, e1, l1, u1⟩ := draw_ok (μ := μ) b 1999 (by decide) (by decide)
  obtain ⟨n2, b2, e2, l2, u2⟩ := draw_ok (μ := μ) b1 1999 (by decide) (by decide)
  have cut : ∃ t1 t2 t3, b__law_dir = sSeq t1 (sSeq t2 t3) ∧ t1 [some (.cell 0), none, none] (enc b :: μ) = .nx [some (.cell 0), some (ptD (n1 - 999, n2 - 999)), none] (enc b2 :: μ) ∧
      t2 [some (.cell 0), some (ptD (n1 - 999, n2 - 999)), none] (enc b2 :: μ) = .nx [some (.cell 0), some (ptD (n1 - 999, n2 - 999)), some (.lst (simpleL.map ptD))] (enc b2 :: μ) ∧
      ∃ p b', t3 [some (.cell 0), some (ptD (n1 - 999, n2 - 999)), some (.lst (simpleL.map ptD))] (enc b2 :: μ) = .rt (ptD p) (enc b' :: μ) ∧ isD p = true := by
    refine ⟨_, _, _, rfl, ?_, ?_, ?_⟩
    · simp [e1, e2]
      rfl
    · have m12 : ∀ a1 a2 a3 a4 a5 a6 a7 a8 a9 a10 a11 a12 : DV, mkL [a1, a2, a3, a4, a5, a6, a7, a8, a9, a10, a11, a12] (enc b2 :: μ) = .ok (.lst [a1, a2, a3, a4, a5, a6, a7, a8, a9, a10, a11, a12]) (enc b2 :: μ) := fun _ _ _ _ _ _ _ _ _ _ _ _ => mkL_small (by show 12 ≤ _; decide)
      simp [m12]
      rfl
    · have key : ∀ r : Pt, isD r = true → ∃ p b', f__law_of [.cell 0, .lst ((simpleL ++ [r, (999, -998), (-1, 999)]).map ptD)] (enc b2 :: μ) = .ok (ptD p) (enc b' :: μ) ∧ isD p = true := fun r hr => by
        obtain ⟨p, b', e, hp⟩ := ofp_ok (μ := μ) b2 (simpleL ++ [r, (999, -998), (-1, 999)]) (by show 0 < 15; decide) (by show 15 < _; decide)
        refine ⟨p, b', e, ?_⟩
        rcases List.mem_append.mp hp with q | q
        · exact simple_ok p (List.mem_append_left _ q)
        · simp only [List.mem_cons, List.not_mem_nil, or_false] at q
          rcases q with rfl | rfl | rfl
          · exact hr
          · exact simple_ok _ (by decide)
          · exact simple_ok _ (by decide)
      have ad : ∀ r : Pt, vAdd (.lst (simpleL.map ptD)) (.lst [ptD r, .tup [.int 999, .int (-998)], .tup [.int (-1), .int 999]]) (enc b2 :: μ) = some (.lst ((simpleL ++ [r, (999, -998), (-1, 999)]).map ptD)) := fun r => add_pts (m := [r, (999, -998), (-1, 999)]) (by show 12 + 3 ≤ _; decide)
      have z : (DV.tup [.int 0, .int 0]) = ptD (0, 0) := rfl
      by_cases hz : ((n1 - 999, n2 - 999) : Pt) = (0, 0)
      · obtain ⟨p, b', e, hp⟩ := key (1, 0) (by decide)
        refine ⟨p, b', ?_, hp⟩
        have ne : vNe (ptD (n1 - 999, n2 - 999)) (.tup [.int 0, .int 0]) (enc b2 :: μ) = some (.bl false) := by rw [z, vNe_pt, hz]; rfl
        have a2 := ad (1, 0)
        generalize (simpleL ++ [((1, 0) : Pt), (999, -998), (-1, 999)]).map ptD = L at e a2
        generalize simpleL.map ptD = S at a2 ⊢
        have a2 : vAdd (.lst S) (.lst [.tup [.int 1, .int 0], .tup [.int 999, .int (-998)], .tup [.int (-1), .int 999]]) (enc b2 :: μ) = some (.lst L) := a2
        simp [ne, a2, e]
      · obtain ⟨p, b', e, hp⟩ := key (rdc (n1 - 999, n2 - 999)) (rdc_isD hz (by simp only; omega) (by simp only; omega))
        refine ⟨p, b', ?_, hp⟩
        have ne : vNe (ptD (n1 - 999, n2 - 999)) (.tup [.int 0, .int 0]) (enc b2 :: μ) = some (.bl true) := by rw [z, vNe_pt]; simp [hz]
        have lr := lred_ok (μ := enc b2 :: μ) hz ⟨by simp only; omega, by simp only; omega⟩
        have a2 := ad (red (n1 - 999, n2 - 999))
        have e : f__law_of [.cell 0, .lst ((simpleL ++ [red (n1 - 999, n2 - 999), (999, -998), (-1, 999)]).map ptD)] (enc b2 :: μ) = .ok (ptD p) (enc b' :: μ) := e
        generalize (simpleL ++ [red (n1 - 999, n2 - 999), (999, -998), (-1, 999)]).map ptD = L at e a2
        generalize simpleL.map ptD = S at a2 ⊢
        generalize red (n1 - 999, n2 - 999) = r at lr a2
        generalize ((n1 - 999, n2 - 999) : Pt) = w at ne lr ⊢
        simp [ne, lr, a2, e]
  obtain ⟨t1, t2, t3, e, p1, p2, p, b', p3, hp⟩ := cut
  refine ⟨p, b', ?_, hp⟩
  unfold f__law_dir
  rw [runF1, e, sSeq_ap]
  show SR.fin .fz (μ.length + 1) (SR.seq (t1 [some (.cell 0), none, none] (enc b :: μ)) _) = _
  rw [p1, seq_nx, sSeq_ap, p2, seq_nx, p3]
  exact fin_len rfl
theorem larc_ok (b : Bx) {l : List Pt} (hl : ∀ p ∈ l, isD p = true) (hn : l.length ≤ 10) : ∃ x b', f__law_arc_of_two [.cell 0, .lst (l.map ptD)] (enc b :: μ) = .ok (endsD x) (enc b' :: μ) ∧ Ok x := by
  obtain ⟨d1, b1, e1, h1⟩ := ldir_ok (μ := μ) b
  obtain ⟨p, b2, e2, h2⟩ := ofp_ok (μ := μ) b1 (l ++ [d1]) (by simp) (by simp; omega)
  obtain ⟨d2, b3, e3, h3⟩ := ldir_ok (μ := μ) b2
  obtain ⟨d3, b4, e4, h4⟩ := ldir_ok (μ := μ) b3
  obtain ⟨q, b5, e5, h5⟩ := ofp_ok (μ := μ) b4 (l ++ [d2, d3]) (by simp) (by simp; omega)
  obtain ⟨n6, b6, e6, _⟩ := draw_ok (μ := μ) b5 9 (by decide) (by decide)
  obtain ⟨n7, b7, e7, _⟩ := draw_ok (μ := μ) b6 5 (by decide) (by decide)
  have hp : isD p = true := by
    rcases List.mem_append.mp h2 with z | z
    · exact hl p z
    · rw [List.mem_singleton.mp z]; exact h1
  have hq : isD q = true := by
    rcases List.mem_append.mp h5 with z | z
    · exact hl q z
    · simp only [List.mem_cons, List.not_mem_nil, or_false] at z
      rcases z with rfl | rfl
      · exact h3
      · exact h4
  have a1 : ∀ μ, vAdd (.lst (l.map ptD)) (.lst [ptD d1]) μ = some (.lst ((l ++ [d1]).map ptD)) := fun μ => add_pts (m := [d1]) (by simp; omega)
  have a2 : ∀ μ, vAdd (.lst (l.map ptD)) (.lst [ptD d2, ptD d3]) μ = some (.lst ((l ++ [d2, d3]).map ptD)) := fun μ => add_pts (m := [d2, d3]) (by simp; omega)
  unfold f__law_arc_of_two
  rw [runF2]
  unfold b__law_arc_of_two
  generalize (l ++ [d1]).map ptD = L1 at e2 a1
  generalize (l ++ [d2, d3]).map ptD = L2 at e5 a2
  by_cases z1 : n6 = 0
  · refine ⟨none, b6, ?_, trivial⟩
    simp [e1, a1, e2, e3, e4, a2, e5, e6, z1]
    rfl
  · by_cases z2 : n7 = 0
    · refine ⟨some (p, p), b7, ?_, ⟨hp, hp⟩⟩
      simp [e1, a1, e2, e3, e4, a2, e5, e6, z1, e7, z2]
      rfl
    · refine ⟨some (p, q), b7, ?_, ⟨hp, hq⟩⟩
      simp [e1, a1, e2, e3, e4, a2, e5, e6, z1, e7, z2]
      rfl
theorem lmade_ok {x : Ar2} (lw : lowS μ) (hx : Ok x) : f__law_arc_made [endsD x] μ = .ok (arcD x) μ := by
  unfold f__law_arc_made
  rw [runF1]
  unfold b__law_arc_made
  match x, hx with
  | none, _ => simp [endsD, cm_whole lw]
  | some (s, t), hx =>
    have m := mk_arc lw hx.1 hx.2
    simp [endsD, vIs_tn, m]
end
end Lw

set_option Elab.async false
set_option linter.all false
set_option maxRecDepth 100000
set_option maxHeartbeats 4000000
namespace Lw
open PySem PySem.Spec PyProof.Rows L2 SD
theorem inL_pt {p : Pt} {l : List Pt} : inL (ptD p) (l.map ptD) = some (decide (p ∈ l)) := by
  unfold inL
  rw [toPy_pt, toPy_pts]
  simp only [shaped_pt, shaped_pts, Bool.and_self, if_true]
  congr 1
  rw [List.any_map]
  rw [Bool.eq_iff_iff, List.any_eq_true, decide_eq_true_eq]
  constructor
  · rintro ⟨z, hz, e⟩
    have e : PyData.eqv (ptY z) (ptY p) = true := e
    rw [eqv_pt, decide_eq_true_eq] at e
    rw [← e]; exact hz
  · exact fun hp => ⟨p, hp, by show PyData.eqv (ptY p) (ptY p) = true; rw [eqv_pt]; simp⟩
theorem toPy_bls : ∀ {l : List Bool}, toPyL (l.map .bl) = some (l.map .bool)
  | [] => rfl
  | p :: l => by
    rw [List.map_cons, List.map_cons]
    unfold toPyL
    rw [toPy_bls]
    rfl
theorem lay_bls : ∀ {l : List Bool}, PyData.canLayAll0 (l.map .bool) = true
  | [] => rfl
  | p :: l => by
    rw [List.map_cons]
    unfold PyData.canLayAll0
    rw [lay_bls]; rfl
theorem dep_bls : ∀ {l : List Bool}, PyData.depthAll (l.map .bool) ≤ 2
  | [] => by decide
  | p :: l => by
    rw [List.map_cons]
    unfold PyData.depthAll
    have := dep_bls (l := l)
    have h : (PyData.bool p).depth ≤ 2 := by simp [PyData.depth]
    omega
theorem shaped_bls {l : List Bool} : SeqAt.shaped (.list (l.map .bool)) = true := by
  unfold SeqAt.shaped
  have h := dep_bls (l := l)
  rw [Bool.and_eq_true, decide_eq_true_eq]
  refine ⟨?_, ?_⟩
  · simp only [PyData.canLay0]; exact lay_bls
  · simp only [PyData.depth]; omega
theorem eqv_bls : ∀ {l : List Bool}, PyData.eqvAll (l.map .bool) (l.map .bool) = true
  | [] => rfl
  | p :: l => by
    rw [List.map_cons]
    unfold PyData.eqvAll
    rw [eqv_bls]
    cases p <;> rfl
section
variable {μ : Sto}
theorem vEq_bls {l : List Bool} : vEq (.lst (l.map .bl)) (.lst (l.map .bl)) μ = some (.bl true) := by
  have t : toPy (.lst (l.map .bl)) = some (.list (l.map .bool)) := by
    show (toPyL (l.map DV.bl)).map PyData.list = _
    rw [toPy_bls]; rfl
  have e : eqD (.lst (l.map .bl)) (.lst (l.map .bl)) μ = some true := by
    show (match toPy (DV.lst (l.map .bl)), toPy (DV.lst (l.map .bl)) with
      | some p, some q => if (SeqAt.shaped p && SeqAt.shaped q) = true then some (PyData.eqv p q) else none
      | _, _ => _) = _
    rw [t]
    simp only [shaped_bls, Bool.and_self, if_true]
    congr 1
    show PyData.eqvAll (l.map .bool) (l.map .bool) = true
    exact eqv_bls
  show (eqD (.lst (l.map DV.bl)) (.lst (l.map DV.bl)) μ).map DV.bl = _
  rw [e]; rfl
theorem nin_lst {p : Pt} {l : List Pt} : vNotIn (ptD p) (.lst (l.map ptD)) μ = some (.bl (!decide (p ∈ l))) := by
  show (inD (ptD p) (.lst (l.map ptD)) μ).map (fun b => DV.bl (!b)) = _
  have : inD (ptD p) (.lst (l.map ptD)) μ = inL (ptD p) (l.map ptD) := rfl
  rw [this, inL_pt]; rfl
def nearB (t : Pt) : Bool := decide (t.1.natAbs ≤ 999 ∧ t.2.natAbs ≤ 999)
theorem near_e {ρ : En} {i : Nat} {t : Pt} (hi : ρ[i]? = some (some (ptD t))) : tB' (eBin vLe (eFn vMax (aCons (eLst (aCons (eFn vAbs (aCons (eBin vIx (eVar i) (eC (.int 0))) aNil)) (aCons (eFn vAbs (aCons (eBin vIx (eVar i) (eC (.int 1))) aNil)) aNil))) aNil)) (eC (.int 999))) ρ μ = .ok (nearB t) μ := by
  have vm : ∀ a b : Int, vMax [.lst [.int a, .int b]] μ = some (.int (if b ≤ a then a else b)) := fun a b => rfl
  have e : decide ((if (t.2.natAbs : Int) ≤ (t.1.natAbs : Int) then (t.1.natAbs : Int) else (t.2.natAbs : Int)) ≤ 999) = nearB t := by
    unfold nearB
    rw [Bool.eq_iff_iff, decide_eq_true_eq, decide_eq_true_eq]
    split <;> omega
  simp only [tB_ap, eBin_ap, eFn_ap, aCons_ap, eLst_ap, eVar_ap, hi, eC_ap, aNil_ap, bin1_ok, bin2_ok, pt0, pt1, of_some, ac1_ok, ac2_ok, mk_ok, vAbs_i, abs_eq, mkL2, vm, vLe_i, tb_ok]
  rw [e]
theorem near_isD {t : Pt} (hp : Prm t) (h : nearB t = true) : isD t = true := by
  unfold nearB at h
  have h := of_decide_eq_true h
  unfold isD in9
  have hp : Int.gcd t.1 t.2 = 1 := hp
  rw [hp]
  simp
  omega
theorem ljoined_ok {u : Ar2} {ts ms : List Pt} {E : List Bool} (hu : Ok u) (hm : onO (· ∈ ms) u) (ht : ∀ t ∈ ts, Prm t ∧ s4 t) (hl : ts.length ≤ 1000) (hE : ts.map (W u) = E) :
    f__law_joined_so [arcD u, .lst (ts.map ptD), .lst (E.map .bl), .lst (ms.map ptD)] μ = .ok (.bl true) μ := by
  subst hE
  have htt := ht
  have bu : onO bp u := by
    match u, hu with
    | none, _ => trivial
    | some (s, t), hu => exact ⟨isD_bp hu.1, isD_bp hu.2⟩
  have cut : ∃ t1 t2 t3 t4, b__law_joined_so = sSeq t1 (sSeq t2 (sSeq t3 (sSeq t4 (sRet (eAnd (eBin vEq (eLc (iSeq (eVar 1)) (gN 6) tYes' (eCall f__law_within (aCons (eVar 4) (aCons (eVar 6) aNil))) [6]) (eVar 2)) (eBin vEq (eLc (iSeq (eVar 5)) (gN 6) tYes' (eBinO (inOL [2, 3] f_Arc___contains__) (eVar 6) (eVar 0)) [6]) (eLc (iSeq (eVar 5)) (gN 6) tYes' (eCall f__law_within (aCons (eVar 4) (aCons (eVar 6) aNil))) [6]))))))) ∧
      (∀ a b c, t1 [some (arcD u), a, b, c, none, none, none] μ = .nx [some (arcD u), a, b, c, none, none, none] μ) ∧
      (∀ a b c, t2 [some (arcD u), a, b, c, none, none, none] μ = .nx [some (arcD u), a, b, c, some (endsD u), none, none] μ) ∧
      (∀ a b c, t3 [a, b, c, some (.lst (ms.map ptD)), some (endsD u), none, none] μ = .nx [a, b, c, some (.lst (ms.map ptD)), some (endsD u), none, none] μ) ∧
      (∀ a b c, t4 [a, some (.lst (ts.map ptD)), b, c, some (endsD u), none, none] μ = .nx [a, some (.lst (ts.map ptD)), b, c, some (endsD u), some (.lst ((ts.filter nearB).map ptD)), none] μ) := by
    refine ⟨_, _, _, _, rfl, ?_, ?_, ?_, ?_⟩
    · intro a b c; simp
    · intro a b c
      match u with
      | none => simp [endsD]
      | some (s, t) => simp [endsD]
    · intro a b c
      match u, hm with
      | none, _ => simp [endsD, vIsNot_pn]
      | some (s, t), hm => simp [endsD, vIsNot_tn, nin_lst, hm.1, hm.2]
    · intro a b c
      have wp : wipeE [a, some (.lst (ts.map ptD)), b, c, some (endsD u), none, none] [6] = [a, some (.lst (ts.map ptD)), b, c, some (endsD u), none, none] := rfl
      have hL : (ts.map ptD).length ≤ 1000000 := by rw [List.length_map]; omega
      have hc := compD_filterL (μ := μ) (ρ := [a, some (.lst (ts.map ptD)), b, c, some (endsD u), none, none]) (t := gN 6) (tt := tB' (eBin vLe (eFn vMax (aCons (eLst (aCons (eFn vAbs (aCons (eBin vIx (eVar 6) (eC (.int 0))) aNil)) (aCons (eFn vAbs (aCons (eBin vIx (eVar 6) (eC (.int 1))) aNil)) aNil))) aNil)) (eC (.int 999)))) (te := eVar 6) ptD ptD nearB ts fun t _ => ⟨_, rfl, near_e rfl, fun _ => by simp⟩
      simp only [sAsg_ap, eLc_ap, wp, iSeq_ap, eVar_ap, List.getElem?_cons_succ, List.getElem?_cons_zero, seqi_ok, wk_pts, of_some, lc_l hL, hc, mk_ok, asg_ok, gN_ap]
      rfl
  obtain ⟨t1, t2, t3, t4, e, p1, p2, p3, p4⟩ := cut
  unfold f__law_joined_so
  have r4 : ∀ (b : DS) (x y z w : DV), runF .fz 4 7 b [x, y, z, w] μ = SR.fin .fz μ.length (b [some x, some y, some z, some w, none, none, none] μ) := fun b x y z w => runF_ap rfl
  rw [r4, e, sSeq_ap, p1, seq_nx, sSeq_ap, p2, seq_nx, sSeq_ap, p3, seq_nx, sSeq_ap, p4, seq_nx]
  generalize hρ : ([some (arcD u), some (.lst (ts.map ptD)), some (.lst ((ts.map (W u)).map .bl)), some (.lst (ms.map ptD)), some (endsD u), some (.lst ((ts.filter nearB).map ptD)), none] : En) = ρ
  have wp : wipeE ρ [6] = ρ := by subst hρ; rfl
  have h0 : ρ[0]? = some (some (arcD u)) := by subst hρ; rfl
  have h1 : ρ[1]? = some (some (.lst (ts.map ptD))) := by subst hρ; rfl
  have h2 : ρ[2]? = some (some (.lst ((ts.map (W u)).map .bl))) := by subst hρ; rfl
  have h4 : ρ[4]? = some (some (endsD u)) := by subst hρ; rfl
  have h5 : ρ[5]? = some (some (.lst ((ts.filter nearB).map ptD))) := by subst hρ; rfl
  have hlen : 6 < ρ.length := by subst hρ; show 6 < 7; decide
  clear hρ
  have s6 : ∀ d : DV, (ρ.set 6 (some d))[6]? = some (some d) := fun d => List.getElem?_set_self hlen
  have s4' : ∀ d : DV, (ρ.set 6 (some d))[4]? = some (some (endsD u)) := fun d => by rw [List.getElem?_set_ne (by decide), h4]
  have s0 : ∀ d : DV, (ρ.set 6 (some d))[0]? = some (some (arcD u)) := fun d => by rw [List.getElem?_set_ne (by decide), h0]
  have cw : ∀ l : List Pt, (∀ t ∈ l, s4 t) → compD (gN 6) tYes' (eCall f__law_within (aCons (eVar 4) (aCons (eVar 6) aNil))) ρ (l.map ptD) μ = .ok (l.map fun t => DV.bl (W u t)) μ := fun l hl =>
    compD_mapL ptD (fun t => DV.bl (W u t)) l fun t ht => ⟨_, rfl, by simp only [eCall_ap, aCons_ap, eVar_ap, s4', s6, aNil_ap, ac1_ok, ac2_ok, mk_ok, lwithin_ok bu (hl t ht).bp]⟩
  have ci : compD (gN 6) tYes' (eBinO (inOL [2, 3] f_Arc___contains__) (eVar 6) (eVar 0)) ρ ((ts.filter nearB).map ptD) μ = .ok ((ts.filter nearB).map fun t => DV.bl (W u t)) μ :=
    compD_mapL ptD (fun t => DV.bl (W u t)) (ts.filter nearB) fun t ht => ⟨_, rfl, by
      obtain ⟨m, n⟩ := List.mem_filter.mp ht
      have q := inO_ok (μ := μ) hu (near_isD (htt t m).1 n)
      simp only [eBinO_ap, eVar_ap, s6, s0, bo1_ok, bo2_ok, q, nox_ok]
      rw [in_W hu (htt t m).1]⟩
  have hL1 : (ts.map ptD).length ≤ 1000000 := by rw [List.length_map]; omega
  have hL2 : ((ts.filter nearB).map ptD).length ≤ 1000000 := by rw [List.length_map]; have := List.length_filter_le nearB ts; omega
  have k1 := cw ts fun t h => (ht t h).2
  have k2 := cw (ts.filter nearB) fun t h => (ht t (List.mem_filter.mp h).1).2
  have b1 : ∀ l : List Pt, (l.map fun t => DV.bl (W u t)) = (l.map (W u)).map .bl := fun l => by rw [List.map_map]; rfl
  rw [b1] at k1 k2 ci
  have v1 := vEq_bls (μ := μ) (l := ts.map (W u))
  have v2 := vEq_bls (μ := μ) (l := (ts.filter nearB).map (W u))
  simp only [sRet_ap, eAnd_ap, eBin_ap, eLc_ap, wp, iSeq_ap, eVar_ap, h1, h2, h5, seqi_ok, wk_pts, of_some, lc_l hL1, lc_l hL2, k1, k2, ci, mk_ok, bin1_ok, bin2_ok, v1, v2, eand_t, ret_ok, sfin_rt]
  exact fin_same
end
end Lw

set_option Elab.async false
set_option linter.all false
set_option maxRecDepth 100000
set_option maxHeartbeats 4000000
namespace Lw
open PySem PySem.Spec PyProof.Rows L2 SD
def A1 : DS := (sAsg (eCall f__law_open (aCons (eVar 0) aNil)) (gN 1))
def A2_1 : DS := (sAsg (eCall f__law_arc_of_two (aCons (eVar 1) (aCons (eLst aNil) aNil))) (gN 3))
def A2_2 : DS := (sAsg (eCall f__law_arc_of_two (aCons (eVar 1) (aCons (eIf (tAnd' (tB' (eBin vIsNot (eVar 3) (eC .non))) (tB' (eBin vEq (eCall f__law_draw (aCons (eVar 1) (aCons (eC (.int 2)) aNil))) (eC (.int 0))))) (eFn vList (aCons (eVar 3) aNil)) (eLst aNil)) aNil))) (gN 4))
def A2_3 : DS := (sAsg (eTup (aCons (eLst (aCons (eVar 3) (aCons (eVar 4) aNil))) (aCons (eLst (aCons (eCall f__law_arc_made (aCons (eVar 3) aNil)) (aCons (eCall f__law_arc_made (aCons (eVar 4) aNil)) aNil))) aNil))) (gTup' (gCons' (gN 5) (gCons' (gN 6) gNil')) 2))
def A2_4 : DS := (sAsg (eCall f__law_round (aCons (eBin vAdd (eIf (tB' (eBin vIsNot (eVar 3) (eC .non))) (eFn vList (aCons (eVar 3) aNil)) (eLst aNil)) (eIf (tB' (eBin vIsNot (eVar 4) (eC .non))) (eFn vList (aCons (eVar 4) aNil)) (eLst aNil))) aNil)) (gN 7))
def A2_5 : DS := (sAsg (eIf (tB' (eBin vNe (eVar 7) (eLst aNil))) (eBin vAdd (eVar 7) (eCall f__law_mids (aCons (eVar 7) aNil))) (eLst (aCons (eTup (aCons (eC (.int 1)) (aCons (eC (.int 0)) aNil))) (aCons (eTup (aCons (eUn vNeg (eC (.int 3))) (aCons (eC (.int 2)) aNil))) aNil)))) (gN 8))
def A2_6 : DS := (sPar 9 10 (aCons (eLc (iSeq (eVar 8)) (gN 17) tYes' (eCall f__law_within (aCons (eVar 3) (aCons (eVar 17) aNil))) [17]) (aCons (eLc (iSeq (eVar 8)) (gN 17) tYes' (eCall f__law_within (aCons (eVar 4) (aCons (eVar 17) aNil))) [17]) aNil)))
def A2_7 : DS := (sAsg (eFn vAny (aCons (eLc (iZip2 (aCons (eVar 9) (aCons (eVar 10) aNil))) (gTup' (gCons' (gN 18) (gCons' (gN 19) gNil')) 2) tYes' (eAnd (eVar 18) (eVar 19)) [18, 19]) aNil)) (gN 11))
def A2_8 : DS := (sAsg (eLc (iZip2 (aCons (eVar 9) (aCons (eVar 10) aNil))) (gTup' (gCons' (gN 18) (gCons' (gN 19) gNil')) 2) tYes' (eOr (eVar 18) (eVar 19)) [18, 19]) (gN 12))
def A2_9_1 : DS := (sAsg (eGotW "" csL fs__law_try (eOrAL [2, 3] [2, 3] f_Arc___or__ (eBin vIx (eVar 6) (eVar 13)) (eBin vIx (eVar 6) (eBin vSub (eC (.int 1)) (eVar 13))))) (gN 14))
def A2_9_2 : DS := (sIf (tAnd' (tNot' (tB' (eVar 11))) (tNot' (tB' (eCall (f__law_same 6) (aCons (eVar 14) (aCons (eTup (aCons (eC (.str "NoJoining")) (aCons (eTup aNil) aNil))) aNil)))))) (sRet (eC (.bl false))) sNop)
def A2_9_3 : DS := (sIf (tAnd' (tB' (eVar 11)) (tOr' (tB' (eBin vNe (eBin vIx (eVar 14) (eC (.int 0))) (eC (.str "")))) (tNot' (tB' (eCall f__law_joined_so (aCons (eBin vIx (eVar 14) (eC (.int 1))) (aCons (eVar 8) (aCons (eVar 12) (aCons (eVar 7) aNil))))))))) (sRet (eC (.bl false))) sNop)
def A2_9_4 : DS := (sIf (tAnd' (tB' (eVar 11)) (tB' (eBinO (neOL 2 3 f_Arc___eq__) (eOrAL [2, 3] [2, 3] f_Arc___or__ (eMtL [2, 3] "turned" f_Arc_turned (eBin vIx (eVar 6) (eVar 13)) aNil) (eMtL [2, 3] "turned" f_Arc_turned (eBin vIx (eVar 6) (eBin vSub (eC (.int 1)) (eVar 13))) aNil)) (eMtL [2, 3] "turned" f_Arc_turned (eBin vIx (eVar 14) (eC (.int 1))) aNil)))) (sRet (eC (.bl false))) sNop)
def A2_9_5 : DS := (sAsg (eIf (tB' (eBin vEq (eVar 13) (eC (.int 0)))) (eFn vAll (aCons (eLc (iZip2 (aCons (eVar 9) (aCons (eVar 10) aNil))) (gTup' (gCons' (gN 18) (gCons' (gN 19) gNil')) 2) tYes' (eOr (eVar 18) (eNot (eVar 19))) [18, 19]) aNil)) (eFn vAll (aCons (eLc (iZip2 (aCons (eVar 9) (aCons (eVar 10) aNil))) (gTup' (gCons' (gN 18) (gCons' (gN 19) gNil')) 2) tYes' (eOr (eVar 19) (eNot (eVar 18))) [18, 19]) aNil))) (gN 15))
def A2_9_6 : DS := (sIf (tNot' (tB' (eCall (f__law_same 6) (aCons (eLst (aCons (eMtL [2, 3] "covers" f_Arc_covers (eBin vIx (eVar 6) (eVar 13)) (aCons (eBin vIx (eVar 6) (eBin vSub (eC (.int 1)) (eVar 13))) aNil)) (aCons (eMtL [2, 3] "covers" (kwF f_Arc_covers [0] 1) (eBin vIx (eVar 6) (eVar 13)) (aCons (eBin vIx (eVar 6) (eVar 13)) aNil)) (aCons (eMtL [2, 3] "covers" f_Arc_covers (eCm 2 f_Arc_whole) (aCons (eBin vIx (eVar 6) (eVar 13)) aNil)) aNil)))) (aCons (eLst (aCons (eVar 15) (aCons (eC (.bl true)) (aCons (eC (.bl true)) aNil)))) aNil))))) (sRet (eC (.bl false))) sNop)
def A2_9b : DS := sSeq A2_9_1 (sSeq A2_9_2 (sSeq A2_9_3 (sSeq A2_9_4 (sSeq A2_9_5 (A2_9_6)))))
def A2_9 : DS := sFor (iRng1' (aCons (eC (.int 2)) aNil)) (gN 13) A2_9b
def A2_10 : DS := (sAsg (eCall f__law_of (aCons (eVar 1) (aCons (eLst (aCons (eC .non) (aCons (eTup (aCons (eC (.int 1)) (aCons (eC (.int 0)) aNil))) (aCons (eLst aNil) (aCons (eC (.str "whole")) (aCons (eC (.int 3)) (aCons eDct0 (aCons (eTup (aCons (eTup (aCons (eC (.int 1)) (aCons (eC (.int 0)) aNil))) (aCons (eTup (aCons (eC (.int 0)) (aCons (eC (.int 1)) aNil))) aNil))) aNil)))))))) aNil))) (gN 16))
def A2_11 : DS := (sIf (tNot' (tB' (eCall (f__law_same 6) (aCons (eGotW "" csL fs__law_try (eOrAL [2, 3] [2, 3] f_Arc___or__ (eBin vIx (eVar 6) (eC (.int 0))) (eVar 16))) (aCons (eTup (aCons (eC (.str "NoJoining")) (aCons (eTup aNil) aNil))) aNil))))) (sRet (eC (.bl false))) sNop)
def A2_12 : DS := (sIf (tNot' (tB' (eCall (f__law_same 6) (aCons (eLst (aCons (eBinO (eqOL 2 3 f_Arc___eq__) (eBin vIx (eVar 6) (eC (.int 0))) (eCall f__law_arc_made (aCons (eVar 3) aNil))) (aCons (eBinO (eqOL 2 3 f_Arc___eq__) (eBin vIx (eVar 6) (eC (.int 1))) (eCall f__law_arc_made (aCons (eVar 4) aNil))) aNil))) (aCons (eLst (aCons (eC (.bl true)) (aCons (eC (.bl true)) aNil))) aNil))))) (sRet (eC (.bl false))) sNop)
def A2b : DS := sSeq A2_1 (sSeq A2_2 (sSeq A2_3 (sSeq A2_4 (sSeq A2_5 (sSeq A2_6 (sSeq A2_7 (sSeq A2_8 (sSeq A2_9 (sSeq A2_10 (sSeq A2_11 (A2_12)))))))))))
def A2 : DS := sFor (iRng1' (aCons (eC (.int 10)) aNil)) (gN 2) A2b
def A3 : DS := (sRet (eC (.bl true)))
theorem b_law_eq : b_law = sSeq A1 (sSeq A2 (A3)) := rfl
abbrev ev (s tu fi la so ma mk te he th sh ei k to du od : Option DV) : En := [s, some (.cell 0), tu, fi, la, so, ma, mk, te, he, th, sh, ei, k, to, du, od, none, none, none]
def endsL : Ar2 → List Pt
  | none => []
  | some (s, t) => [s, t]
def ptsD (l : List Pt) : DV := .lst (l.map ptD)
def blsD (l : List Bool) : DV := .lst (l.map .bl)
/-- the tests of two arcs' marks -/
def tsOf (ms : List Pt) : List Pt := if ms = [] then [(1, 0), (-3, 2)] else testsP ms
section
variable {s tu fi la so ma mk te he th sh ei k to du od : Option DV} {x y p q : Ar2}
theorem p1_ok (b : Bx) : ∃ x b', Ok x ∧ A2_1 (ev s tu fi la so ma mk te he th sh ei k to du od) [enc b] = .nx (ev s tu (some (endsD x)) la so ma mk te he th sh ei k to du od) [enc b'] := by
  obtain ⟨x, b', e, h⟩ := larc_ok (μ := []) b (l := []) (fun p hp => by cases hp) (by decide)
  refine ⟨x, b', h, ?_⟩
  have e : f__law_arc_of_two [.cell 0, .lst []] [enc b] = .ok (endsD x) [enc b'] := e
  simp [A2_1, e]
theorem p2_ok (hx : Ok x) (b : Bx) : ∃ y b', Ok y ∧ A2_2 (ev s tu (some (endsD x)) la so ma mk te he th sh ei k to du od) [enc b] = .nx (ev s tu (some (endsD x)) (some (endsD y)) so ma mk te he th sh ei k to du od) [enc b'] := by
  have emp : ∀ b : Bx, ∃ y b', Ok y ∧ f__law_arc_of_two [.cell 0, .lst []] [enc b] = .ok (endsD y) [enc b'] := fun b => by
    obtain ⟨x, b', e, h⟩ := larc_ok (μ := []) b (l := []) (fun p hp => by cases hp) (by decide)
    exact ⟨x, b', h, e⟩
  match x, hx with
  | none, _ =>
    obtain ⟨y, b', h, e⟩ := emp b
    refine ⟨y, b', h, ?_⟩
    simp [A2_2, endsD, vIsNot_pn, e]
  | some (u, v), hx =>
    obtain ⟨n, b1, e1, _⟩ := draw_ok (μ := []) b 2 (by decide) (by decide)
    by_cases z : n = 0
    · obtain ⟨y, b', e, h⟩ := larc_ok (μ := []) b1 (l := [u, v]) (fun p hp => by
        simp only [List.mem_cons, List.not_mem_nil, or_false] at hp
        rcases hp with rfl | rfl
        · exact hx.1
        · exact hx.2) (by show 2 ≤ 10; decide)
      refine ⟨y, b', h, ?_⟩
      have e : f__law_arc_of_two [.cell 0, .lst [ptD u, ptD v]] [enc b1] = .ok (endsD y) [enc b'] := e
      have vl : ∀ μ, vList [.tup [ptD u, ptD v]] μ = some (.lst [ptD u, ptD v]) := fun _ => rfl
      simp [A2_2, endsD, vIsNot_tn, e1, z, vl, e]
    · obtain ⟨y, b', h, e⟩ := emp b1
      refine ⟨y, b', h, ?_⟩
      simp [A2_2, endsD, vIsNot_tn, e1, z, e]
theorem p3_ok (hx : Ok x) (hy : Ok y) (b : Bx) : A2_3 (ev s tu (some (endsD x)) (some (endsD y)) so ma mk te he th sh ei k to du od) [enc b] = .nx (ev s tu (some (endsD x)) (some (endsD y)) (some (.lst [endsD x, endsD y])) (some (.lst [arcD x, arcD y])) mk te he th sh ei k to du od) [enc b] := by
  simp [A2_3, lmade_ok low1 hx, lmade_ok low1 hy]
theorem ends_isD (hx : Ok x) : ∀ p ∈ endsL x, isD p = true := fun p hp => by
  match x, hx with
  | none, _ => cases hp
  | some (u, v), hx =>
    simp only [endsL, List.mem_cons, List.not_mem_nil, or_false] at hp
    rcases hp with rfl | rfl
    · exact hx.1
    · exact hx.2
theorem ends_len : (endsL x).length ≤ 2 := by
  match x with
  | none => decide
  | some (u, v) => show 2 ≤ 2; decide
theorem listE (i : Nat) {ρ : En} {μ : Sto} (hi : ρ[i]? = some (some (endsD x))) : eIf (tB' (eBin vIsNot (eVar i) (eC .non))) (eFn vList (aCons (eVar i) aNil)) (eLst aNil) ρ μ = .ok (ptsD (endsL x)) μ := by
  match x with
  | none => simp [hi, endsD, vIsNot_pn, ptsD, endsL]
  | some (u, v) =>
    have vl : ∀ μ, vList [.tup [ptD u, ptD v]] μ = some (.lst [ptD u, ptD v]) := fun _ => rfl
    simp [hi, endsD, vIsNot_tn, ptsD, endsL, vl]
def marks (x y : Ar2) : List Pt := rounded (endsL x ++ endsL y)
theorem marks_isD (hx : Ok x) (hy : Ok y) : ∀ p ∈ endsL x ++ endsL y, isD p = true := fun p hp => (List.mem_append.mp hp).elim (ends_isD hx p) (ends_isD hy p)
theorem isD_P9 {p : Pt} (h : isD p = true) : P9 p := ⟨(isD_in h).2, (isD_s4 h).s17⟩
theorem p4_ok (hx : Ok x) (hy : Ok y) (b : Bx) : A2_4 (ev s tu (some (endsD x)) (some (endsD y)) so ma mk te he th sh ei k to du od) [enc b] = .nx (ev s tu (some (endsD x)) (some (endsD y)) so ma (some (ptsD (marks x y))) te he th sh ei k to du od) [enc b] := by
  have l1 := listE (x := x) (μ := [enc b]) 3 (ρ := ev s tu (some (endsD x)) (some (endsD y)) so ma mk te he th sh ei k to du od) rfl
  have l2 := listE (x := y) (μ := [enc b]) 4 (ρ := ev s tu (some (endsD x)) (some (endsD y)) so ma mk te he th sh ei k to du od) rfl
  have ad : vAdd (ptsD (endsL x)) (ptsD (endsL y)) [enc b] = some (.lst ((endsL x ++ endsL y).map ptD)) := add_pts (by have := @ends_len x; have := @ends_len y; omega)
  have r := lround_ok (μ := [enc b]) (ds := endsL x ++ endsL y) (fun e he => isD_P9 (marks_isD hx hy e he)) (by rw [List.length_append]; have := @ends_len x; have := @ends_len y; omega)
  unfold A2_4
  rw [sAsg_ap, eCall_ap, aCons_ap, eBin_ap, l1, bin1_ok, l2, bin2_ok, ad, of_some, ac1_ok, aNil_ap, ac2_ok, mk_ok, r]
  rfl
structure Sn (x y : Ar2) (ms ts : List Pt) : Prop where
  hx : Ok x
  hy : Ok y
  mx : onO (· ∈ ms) x
  my : onO (· ∈ ms) y
  tok : ∀ t ∈ ts, Prm t ∧ s4 t
  len : ts.length ≤ 1000
  j1 : Jn ts x y
  j2 : Jn ts y x
theorem marks_srt (hx : Ok x) (hy : Ok y) : Srt (marks x y) ∧ ∀ z, z ∈ marks x y ↔ z ∈ endsL x ++ endsL y := by
  obtain ⟨a, b⟩ := rounded_ok (l := []) (ds := endsL x ++ endsL y) List.Pairwise.nil (fun e he => by cases he) fun e he => (isD_in (marks_isD hx hy e he)).2
  exact ⟨a, fun z => by rw [show marks x y = (endsL x ++ endsL y).foldl ins [] from rfl, b z]; simp⟩
theorem nodup_sub {α : Type} [DecidableEq α] : ∀ {l m : List α}, l.Nodup → (∀ x ∈ l, x ∈ m) → l.length ≤ m.length
  | [], _, _, _ => Nat.zero_le _
  | a :: l, m, nd, h => by
    rw [List.nodup_cons] at nd
    have ha := h a List.mem_cons_self
    have ih := nodup_sub (l := l) (m := m.erase a) nd.2 fun x hx => (List.mem_erase_of_ne (fun e => nd.1 (by rw [← e]; exact hx))).mpr (h x (List.mem_cons_of_mem _ hx))
    rw [List.length_erase_of_mem ha] at ih
    have := List.length_pos_of_mem ha
    rw [List.length_cons]
    omega
theorem marks_len (hx : Ok x) (hy : Ok y) : (marks x y).length ≤ 4 := by
  obtain ⟨a, b⟩ := marks_srt hx hy
  have := nodup_sub (srt_nodup a) fun z hz => (b z).mp hz
  rw [List.length_append] at this
  have := @ends_len x
  have := @ends_len y
  omega
theorem on_ends {S : Pt → Prop} : onO S x ↔ ∀ p ∈ endsL x, S p := by
  match x with
  | none => exact ⟨fun _ p hp => (by cases hp), fun _ => trivial⟩
  | some (u, v) =>
    constructor
    · intro h p hp
      simp only [endsL, List.mem_cons, List.not_mem_nil, or_false] at hp
      rcases hp with rfl | rfl
      · exact h.1
      · exact h.2
    · exact fun h => ⟨h u (by simp [endsL]), h v (by simp [endsL])⟩
theorem sn_ok (hx : Ok x) (hy : Ok y) : Sn x y (marks x y) (tsOf (marks x y)) := by
  obtain ⟨a, b⟩ := marks_srt hx hy
  have hd : ∀ p ∈ marks x y, isD p = true := fun p hp => marks_isD hx hy p ((b p).mp hp)
  have mx : onO (· ∈ marks x y) x := on_ends.mpr fun p hp => (b p).mpr (List.mem_append_left _ hp)
  have my : onO (· ∈ marks x y) y := on_ends.mpr fun p hp => (b p).mpr (List.mem_append_right _ hp)
  have l4 := marks_len hx hy
  unfold tsOf
  by_cases e : marks x y = []
  · rw [if_pos e]
    have nx : ∀ z : Ar2, onO (· ∈ marks x y) z → z = none := fun z hz => by
      match z, hz with
      | none, _ => rfl
      | some (u, v), hz => rw [e] at hz; cases hz.1
    obtain rfl := nx x mx
    obtain rfl := nx y my
    refine ⟨hx, hy, mx, my, ?_, by decide, jn_none (by decide), jn_none (by decide)⟩
    intro t ht
    simp only [List.mem_cons, List.not_mem_nil, or_false] at ht
    rcases ht with rfl | rfl
    · exact ⟨by unfold Prm; decide, by unfold s4; decide⟩
    · exact ⟨by unfold Prm; decide, by unfold s4; decide⟩
  · rw [if_neg e]
    have l0 : 0 < (marks x y).length := List.length_pos_iff.mpr e
    have hp : ∀ p ∈ marks x y, Prm p := fun p h => (isD_in (hd p h)).2
    refine ⟨hx, hy, mx, my, ?_, ?_, jn_ok a hp l0 l4 mx my, jn_ok a hp l0 l4 my mx⟩
    · intro t ht
      unfold testsP at ht
      rcases List.mem_append.mp ht with q | q
      · exact ⟨hp t q, isD_s4 (hd t q)⟩
      · unfold midsP at q
        obtain ⟨k, hk, rfl⟩ := List.mem_map.mp q
        have hk := List.mem_range.mp hk
        have m1 := getD_mem hk
        have m2 := getD_mem (l := marks x y) (k := (k + 1) % (marks x y).length) (Nat.mod_lt _ l0)
        exact ⟨mid_prm (hp _ m1), mid_s4 (isD_in (hd _ m1)).1 (isD_in (hd _ m2)).1⟩
    · unfold testsP midsP
      rw [List.length_append, List.length_map, List.length_range]
      omega
theorem p5_ok (hx : Ok x) (hy : Ok y) (b : Bx) : A2_5 (ev s tu fi la so ma (some (ptsD (marks x y))) te he th sh ei k to du od) [enc b] = .nx (ev s tu fi la so ma (some (ptsD (marks x y))) (some (ptsD (tsOf (marks x y)))) he th sh ei k to du od) [enc b] := by
  have l4 := marks_len hx hy
  have hd : ∀ p ∈ marks x y, s4 p := fun p hp => isD_s4 (marks_isD hx hy p (((marks_srt hx hy).2 p).mp hp))
  have ne := ne_nil (μ := [enc b]) (l := marks x y)
  unfold tsOf
  by_cases e : marks x y = []
  · rw [if_pos e]
    rw [e] at ne ⊢
    have ne : vNe (ptsD []) (.lst []) [enc b] = some (.bl false) := ne
    simp [A2_5, ne]
    rfl
  · rw [if_neg e]
    have md := lmids_ok (μ := [enc b]) hd (by omega)
    have e' : (marks x y).isEmpty = false := by cases h : marks x y with | nil => exact absurd h e | cons => rfl
    rw [e'] at ne
    have ad : vAdd (.lst ((marks x y).map ptD)) (.lst ((midsP (marks x y)).map ptD)) [enc b] = some (.lst ((testsP (marks x y)).map ptD)) := add_pts (by unfold midsP; rw [List.length_map, List.length_range]; omega)
    unfold ptsD
    generalize (marks x y).map ptD = M at ne md ad ⊢
    generalize (midsP (marks x y)).map ptD = D at md ad
    generalize (testsP (marks x y)).map ptD = T at ad ⊢
    simp [A2_5, ne, md, ad]
variable {ms ts : List Pt}
theorem comp_W (i : Nat) {o : Ar2} {ρ : En} {μ : Sto} (ho : Ok o) (ht : ∀ t ∈ ts, Prm t ∧ s4 t) (hl : ts.length ≤ 1000) (h8 : ρ[8]? = some (some (ptsD ts))) (hi : ρ[i]? = some (some (endsD o))) (hn : i < 17) (hw : wipeE ρ [17] = ρ) (h17 : 17 < ρ.length) :
    eLc (iSeq (eVar 8)) (gN 17) tYes' (eCall f__law_within (aCons (eVar i) (aCons (eVar 17) aNil))) [17] ρ μ = .ok (blsD (ts.map (W o))) μ := by
  have bo : onO bp o := on_ends.mpr fun p hp => isD_bp (on_ends.mp ho p hp)
  have s17' : ∀ d : DV, (ρ.set 17 (some d))[17]? = some (some d) := fun d => List.getElem?_set_self h17
  have si : ∀ d : DV, (ρ.set 17 (some d))[i]? = some (some (endsD o)) := fun d => by rw [List.getElem?_set_ne (by omega), hi]
  have hc : compD (gN 17) tYes' (eCall f__law_within (aCons (eVar i) (aCons (eVar 17) aNil))) ρ (ts.map ptD) μ = .ok (ts.map fun t => DV.bl (W o t)) μ :=
    compD_mapL ptD (fun t => DV.bl (W o t)) ts fun t h => ⟨_, rfl, by simp only [eCall_ap, aCons_ap, eVar_ap, si, s17', aNil_ap, ac1_ok, ac2_ok, mk_ok, lwithin_ok bo (ht t h).2.bp]⟩
  have hL : (ts.map ptD).length ≤ 1000000 := by rw [List.length_map]; omega
  have wk : wkOf (ptsD ts) μ = some (.fix (ts.map ptD)) := rfl
  simp only [eLc_ap, hw, iSeq_ap, eVar_ap, h8, seqi_ok, wk, of_some, lc_l hL, hc, mk_ok]
  unfold blsD
  rw [List.map_map]
  rfl
theorem p6_ok (S : Sn x y ms ts) (b : Bx) : A2_6 (ev s tu (some (endsD x)) (some (endsD y)) so ma mk (some (ptsD ts)) he th sh ei k to du od) [enc b] = .nx (ev s tu (some (endsD x)) (some (endsD y)) so ma mk (some (ptsD ts)) (some (blsD (ts.map (W x)))) (some (blsD (ts.map (W y)))) sh ei k to du od) [enc b] := by
  have c1 := comp_W (μ := [enc b]) (ρ := ev s tu (some (endsD x)) (some (endsD y)) so ma mk (some (ptsD ts)) he th sh ei k to du od) 3 S.hx S.tok S.len rfl rfl (by decide) rfl (by show 17 < 20; decide)
  have c2 := comp_W (μ := [enc b]) (ρ := ev s tu (some (endsD x)) (some (endsD y)) so ma mk (some (ptsD ts)) he th sh ei k to du od) 4 S.hy S.tok S.len rfl rfl (by decide) rfl (by show 17 < 20; decide)
  unfold A2_6
  rw [sPar_ap, aCons_ap, c1, ac1_ok, aCons_ap, c2, ac1_ok, aNil_ap, ac2_ok, ac2_ok]
  rfl
/-- a comprehension over zip(here, there) -/
theorem comp_Z {ρ : En} {μ : Sto} {te : DE} (f : Pt → Bool) (hl : ts.length ≤ 1000) (h9 : ρ[9]? = some (some (blsD (ts.map (W x))))) (h10 : ρ[10]? = some (some (blsD (ts.map (W y))))) (hw : wipeE ρ [18, 19] = ρ)
    (he : ∀ t, te ((ρ.set 18 (some (.bl (W x t)))).set 19 (some (.bl (W y t)))) μ = .ok (.bl (f t)) μ) :
    eLc (iZip2 (aCons (eVar 9) (aCons (eVar 10) aNil))) (gTup' (gCons' (gN 18) (gCons' (gN 19) gNil')) 2) tYes' te [18, 19] ρ μ = .ok (blsD (ts.map f)) μ := by
  have hz : wkZip [blsD (ts.map (W x)), blsD (ts.map (W y))] = some (.fix (ts.map fun t => .tup [.bl (W x t), .bl (W y t)])) := by
    have := zip_two (fun t => DV.bl (W x t)) (fun t => DV.bl (W y t)) ts
    show some (Wk.fix (zipD ((ts.map (W x)).map .bl) ((ts.map (W y)).map .bl))) = _
    rw [List.map_map, List.map_map]
    exact congrArg (fun z => some (Wk.fix z)) this
  have hc : compD (gTup' (gCons' (gN 18) (gCons' (gN 19) gNil')) 2) tYes' te ρ (ts.map fun t => .tup [.bl (W x t), .bl (W y t)]) μ = .ok (ts.map fun t => DV.bl (f t)) μ :=
    compD_mapL (fun t => DV.tup [.bl (W x t), .bl (W y t)]) (fun t => DV.bl (f t)) ts fun t h => ⟨_, by simp, he t⟩
  have hL : (ts.map fun t => DV.tup [.bl (W x t), .bl (W y t)]).length ≤ 1000000 := by rw [List.length_map]; omega
  simp only [eLc_ap, hw, iZip2_ap, aCons_ap, eVar_ap, h9, h10, aNil_ap, ac1_ok, ac2_ok, z2_ok, hz, of_some, lc_l hL, hc, mk_ok]
  unfold blsD
  rw [List.map_map]
  rfl
theorem any_bls {l : List Pt} {f : Pt → Bool} {μ : Sto} : vAny [blsD (l.map f)] μ = some (.bl (l.any f)) := by
  have : ∀ l : List Bool, asBs (l.map .bl) = some l := by
    intro l
    induction l with
    | nil => rfl
    | cons a l ih => simp [asBs, ih]
  show (asBs ((l.map f).map .bl)).map (fun bs => DV.bl (bs.any id)) = _
  rw [this]
  simp
theorem all_bls {l : List Pt} {f : Pt → Bool} {μ : Sto} : vAll [blsD (l.map f)] μ = some (.bl (l.all f)) := by
  have := vAll_map (μ := μ) l f
  unfold blsD
  rw [List.map_map]
  exact this
theorem p7_ok (S : Sn x y ms ts) (b : Bx) : A2_7 (ev s tu fi la so ma mk te (some (blsD (ts.map (W x)))) (some (blsD (ts.map (W y)))) sh ei k to du od) [enc b] = .nx (ev s tu fi la so ma mk te (some (blsD (ts.map (W x)))) (some (blsD (ts.map (W y)))) (some (.bl (meetG inP x y))) ei k to du od) [enc b] := by
  have c := comp_Z (x := x) (y := y) (μ := [enc b]) (ρ := ev s tu fi la so ma mk te (some (blsD (ts.map (W x)))) (some (blsD (ts.map (W y)))) sh ei k to du od) (te := eAnd (eVar 18) (eVar 19)) (fun t => W x t && W y t) S.len rfl rfl rfl (fun t => by cases h : W x t <;> simp [h])
  have a := any_bls (l := ts) (f := fun t => W x t && W y t) (μ := [enc b])
  rw [S.j1.meet] at a
  unfold A2_7
  rw [sAsg_ap, eFn_ap, aCons_ap, c, ac1_ok, aNil_ap, ac2_ok, mk_ok, a]
  rfl
theorem p8_ok (S : Sn x y ms ts) (b : Bx) : A2_8 (ev s tu fi la so ma mk te (some (blsD (ts.map (W x)))) (some (blsD (ts.map (W y)))) sh ei k to du od) [enc b] = .nx (ev s tu fi la so ma mk te (some (blsD (ts.map (W x)))) (some (blsD (ts.map (W y)))) sh (some (blsD (ts.map fun t => W x t || W y t))) k to du od) [enc b] := by
  have c := comp_Z (x := x) (y := y) (μ := [enc b]) (ρ := ev s tu fi la so ma mk te (some (blsD (ts.map (W x)))) (some (blsD (ts.map (W y)))) sh ei k to du od) (te := eOr (eVar 18) (eVar 19)) (fun t => W x t || W y t) S.len rfl rfl rfl (fun t => by cases h : W x t <;> simp [h])
  unfold A2_8
  rw [sAsg_ap, c]
  rfl
end
end Lw

set_option Elab.async false
set_option linter.all false
set_option maxRecDepth 100000
set_option maxHeartbeats 4000000
namespace Lw
open PySem PySem.Spec PyProof.Rows L2 SD
section
variable {s tu fi la so ma mk te he th sh ei k to du od : Option DV} {x y p q : Ar2} {ms ts : List Pt}
@[simp high] theorem or2_arc {F : Fn} {μ : Sto} : R.or2 [2, 3] [2, 3] F (arcD p) (.ok (arcD q) μ) = F [arcD p, arcD q] μ := by
  rw [or2_ok, insL_arc, any_arc, Bool.or_true, Bool.and_true, if_pos rfl]
def madeD (x y : Ar2) : DV := .lst [arcD x, arcD y]
/-- the two orders -/
def Or2 (x y p q : Ar2) (j : Int) : Prop := (j = 0 ∧ p = x ∧ q = y) ∨ (j = 1 ∧ p = y ∧ q = x)
theorem Or2.at1 {j : Int} (h : Or2 x y p q j) {μ : Sto} : vIx (madeD x y) (.int j) μ = some (arcD p) := by
  rcases h with ⟨rfl, rfl, rfl⟩ | ⟨rfl, rfl, rfl⟩
  · exact lst0
  · exact lst1
theorem Or2.at2 {j : Int} (h : Or2 x y p q j) {μ : Sto} : vIx (madeD x y) (.int (1 - j)) μ = some (arcD q) := by
  rcases h with ⟨rfl, rfl, rfl⟩ | ⟨rfl, rfl, rfl⟩
  · exact lst1
  · exact lst0
structure Pr (ms ts : List Pt) (x y p q : Ar2) : Prop where
  hp : Ok p
  hq : Ok q
  mp : onO (· ∈ ms) p
  mq : onO (· ∈ ms) q
  meet : meetG inP p q = meetG inP x y
  uni : meetG inP p q = true → ts.map (W (uniG inP p q)) = ts.map fun t => W x t || W y t
theorem Sn.pr {j : Int} (S : Sn x y ms ts) (h : Or2 x y p q j) : Pr ms ts x y p q := by
  rcases h with ⟨rfl, rfl, rfl⟩ | ⟨rfl, rfl, rfl⟩
  · exact ⟨S.hx, S.hy, S.mx, S.my, rfl, S.j1.uni⟩
  · refine ⟨S.hy, S.hx, S.my, S.mx, S.j1.swap S.j2, fun h => ?_⟩
    rw [S.j2.uni h]
    exact List.map_congr_left fun t _ => Bool.or_comm ..
def toD (p q : Ar2) : DV := if meetG inP p q = true then .tup [.str "", arcD (uniG inP p q)] else noJ
theorem noE1 {b : Bx} : ([enc b] : Sto).all CO.noE = true := by
  show (CO.noE (enc b) && true) = true
  rw [noE_enc]; rfl
theorem q1_ok {j : Int} (P : Pr ms ts x y p q) (h : Or2 x y p q j) (b : Bx) : A2_9_1 (ev s tu fi la so (some (madeD x y)) mk te he th sh ei (some (.int j)) to du od) [enc b] = .nx (ev s tu fi la so (some (madeD x y)) mk te he th sh ei (some (.int j)) (some (toD p q)) du od) [enc b] := by
  have i1 := fun μ => h.at1 (μ := μ)
  have i2 := fun μ => h.at2 (μ := μ)
  unfold A2_9_1 toD
  cases hm : meetG inP p q with
  | true =>
    rw [if_pos rfl]
    have g : eGotW "" csL fs__law_try (eOrAL [2, 3] [2, 3] f_Arc___or__ (eBin vIx (eVar 6) (eVar 13)) (eBin vIx (eVar 6) (eBin vSub (eC (.int 1)) (eVar 13)))) (ev s tu fi la so (some (madeD x y)) mk te he th sh ei (some (.int j)) to du od) [enc b] = .ok (.tup [.str "", arcD (uniG inP p q)]) [enc b] := got_ok (by simp [i1, i2, or_ok low1 P.hp P.hq hm])
    rw [sAsg_ap, g]
    rfl
  | false =>
    rw [if_neg Bool.false_ne_true]
    have g : eGotW "" csL fs__law_try (eOrAL [2, 3] [2, 3] f_Arc___or__ (eBin vIx (eVar 6) (eVar 13)) (eBin vIx (eVar 6) (eBin vSub (eC (.int 1)) (eVar 13)))) (ev s tu fi la so (some (madeD x y)) mk te he th sh ei (some (.int j)) to du od) [enc b] = .ok noJ [enc b] := got_noJ noE1 (by simp [i1, i2, or_no P.hp P.hq hm])
    rw [sAsg_ap, g]
    rfl
theorem q2_ok (P : Pr ms ts x y p q) (b : Bx) : A2_9_2 (ev s tu fi la so ma mk te he th (some (.bl (meetG inP x y))) ei k (some (toD p q)) du od) [enc b] = .nx (ev s tu fi la so ma mk te he th (some (.bl (meetG inP x y))) ei k (some (toD p q)) du od) [enc b] := by
  rw [← P.meet]
  unfold A2_9_2 toD
  cases hm : meetG inP p q with
  | true => simp
  | false =>
    rw [if_neg Bool.false_ne_true]
    have := same_noJ (μ := [enc b])
    simp [this]
theorem ne_emp {μ : Sto} : vNe (.str "") (.str "") μ = some (.bl false) := by kernel_rfl
theorem q3_ok (P : Pr ms ts x y p q) (ht : ∀ t ∈ ts, Prm t ∧ s4 t) (hl : ts.length ≤ 1000) (b : Bx) : A2_9_3 (ev s tu fi la so ma (some (ptsD ms)) (some (ptsD ts)) he th (some (.bl (meetG inP x y))) (some (blsD (ts.map fun t => W x t || W y t))) k (some (toD p q)) du od) [enc b] = .nx (ev s tu fi la so ma (some (ptsD ms)) (some (ptsD ts)) he th (some (.bl (meetG inP x y))) (some (blsD (ts.map fun t => W x t || W y t))) k (some (toD p q)) du od) [enc b] := by
  rw [← P.meet]
  unfold A2_9_3 toD
  cases hm : meetG inP p q with
  | false => simp
  | true =>
    rw [if_pos rfl]
    have j : f__law_joined_so [arcD (uniG inP p q), ptsD ts, blsD (ts.map fun t => W x t || W y t), ptsD ms] [enc b] = .ok (.bl true) [enc b] := ljoined_ok (uni_on P.hp P.hq) (uni_on P.mp P.mq) ht hl (P.uni hm)
    simp [ne_emp, j]
theorem q4_ok {j : Int} (P : Pr ms ts x y p q) (h : Or2 x y p q j) (b : Bx) : A2_9_4 (ev s tu fi la so (some (madeD x y)) mk te he th (some (.bl (meetG inP x y))) ei (some (.int j)) (some (toD p q)) du od) [enc b] = .nx (ev s tu fi la so (some (madeD x y)) mk te he th (some (.bl (meetG inP x y))) ei (some (.int j)) (some (toD p q)) du od) [enc b] := by
  have i1 := fun μ => h.at1 (μ := μ)
  have i2 := fun μ => h.at2 (μ := μ)
  rw [← P.meet]
  unfold A2_9_4 toD
  cases hm : meetG inP p q with
  | false => simp
  | true =>
    rw [if_pos rfl]
    have t1 := trn_ok (μ := [enc b]) low1 P.hp
    have t2 := trn_ok (μ := [enc b]) low1 P.hq
    have t3 := trn_ok (μ := [enc b]) low1 (x := uniG inP p q) (uni_on P.hp P.hq)
    have o := or_ok (μ := [enc b]) low1 P.hp.neg P.hq.neg (by rw [neg_meet]; exact hm)
    rw [neg_uni] at o
    simp [i1, i2, t1, t2, t3, o, neOL_same]
theorem q5_ok {j : Int} (S : Sn x y ms ts) (h : Or2 x y p q j) (b : Bx) : A2_9_5 (ev s tu fi la so ma mk te (some (blsD (ts.map (W x)))) (some (blsD (ts.map (W y)))) sh ei (some (.int j)) to du od) [enc b] = .nx (ev s tu fi la so ma mk te (some (blsD (ts.map (W x)))) (some (blsD (ts.map (W y)))) sh ei (some (.int j)) to (some (.bl (covG inP p q))) od) [enc b] := by
  unfold A2_9_5
  rcases h with ⟨rfl, rfl, rfl⟩ | ⟨rfl, rfl, rfl⟩
  · have c := comp_Z (x := p) (y := q) (μ := [enc b]) (ρ := ev s tu fi la so ma mk te (some (blsD (ts.map (W p)))) (some (blsD (ts.map (W q)))) sh ei (some (.int 0)) to du od) (te := eOr (eVar 18) (eNot (eVar 19))) (fun t => W p t || !W q t) S.len rfl rfl rfl (fun t => by cases h : W p t <;> simp [h])
    have a := all_bls (l := ts) (f := fun t => W p t || !W q t) (μ := [enc b])
    rw [← S.j1.cov] at a
    have t : tB' (eBin vEq (eVar 13) (eC (.int 0))) (ev s tu fi la so ma mk te (some (blsD (ts.map (W p)))) (some (blsD (ts.map (W q)))) sh ei (some (.int 0)) to du od) [enc b] = .ok true [enc b] := by simp
    rw [sAsg_ap, eIf_ap, t, eif_t, eFn_ap, aCons_ap, c, ac1_ok, aNil_ap, ac2_ok, mk_ok, a]
    rfl
  · have c := comp_Z (x := q) (y := p) (μ := [enc b]) (ρ := ev s tu fi la so ma mk te (some (blsD (ts.map (W q)))) (some (blsD (ts.map (W p)))) sh ei (some (.int 1)) to du od) (te := eOr (eVar 19) (eNot (eVar 18))) (fun t => W p t || !W q t) S.len rfl rfl rfl (fun t => by cases h : W p t <;> simp [h])
    have a := all_bls (l := ts) (f := fun t => W p t || !W q t) (μ := [enc b])
    rw [← S.j2.cov] at a
    have t : tB' (eBin vEq (eVar 13) (eC (.int 0))) (ev s tu fi la so ma mk te (some (blsD (ts.map (W q)))) (some (blsD (ts.map (W p)))) sh ei (some (.int 1)) to du od) [enc b] = .ok false [enc b] := by simp
    rw [sAsg_ap, eIf_ap, t, eif_f, eFn_ap, aCons_ap, c, ac1_ok, aNil_ap, ac2_ok, mk_ok, a]
    rfl
theorem kw1 {F : Fn} {d e : DV} {μ : Sto} : kwF F [0] 1 [d, e] μ = F [d, e] μ := rfl
theorem q6_ok {j : Int} (P : Pr ms ts x y p q) (h : Or2 x y p q j) (hself : covG inP p p = true) (b : Bx) : A2_9_6 (ev s tu fi la so (some (madeD x y)) mk te he th sh ei (some (.int j)) to (some (.bl (covG inP p q))) od) [enc b] = .nx (ev s tu fi la so (some (madeD x y)) mk te he th sh ei (some (.int j)) to (some (.bl (covG inP p q))) od) [enc b] := by
  have i1 := fun μ => h.at1 (μ := μ)
  have i2 := fun μ => h.at2 (μ := μ)
  have c1 := cov_ok (μ := [enc b]) P.hp P.hq
  have c2 := cov_ok (μ := [enc b]) P.hp P.hp
  have c3 := cov_ok (μ := [enc b]) (x := none) (y := p) trivial P.hp
  have w := cm_whole (μ := [enc b]) low1 (d := .gl 2)
  have e3 : covG inP none p = true := rfl
  rw [hself] at c2
  rw [e3] at c3
  have sm : f__law_same 6 [.lst [.bl (covG inP p q), .bl true, .bl true], .lst [.bl (covG inP p q), .bl true, .bl true]] [enc b] = .ok (.bl true) [enc b] := same_bls 4 (bs := [covG inP p q, true, true]) (by show 3 ≤ _; decide)
  unfold A2_9_6
  simp [i1, i2, c1, c2, c3, w, kw1, sm]
theorem self_cov {j : Int} (S : Sn x y ms ts) (h : Or2 x y p q j) : covG inP p p = true := by
  rcases h with ⟨rfl, rfl, rfl⟩ | ⟨rfl, rfl, rfl⟩
  · exact S.j1.self
  · exact S.j2.self
theorem q_ok {j : Int} (S : Sn x y ms ts) (h : Or2 x y p q j) (b : Bx) :
    A2_9b (ev s tu fi la so (some (madeD x y)) (some (ptsD ms)) (some (ptsD ts)) (some (blsD (ts.map (W x)))) (some (blsD (ts.map (W y)))) (some (.bl (meetG inP x y))) (some (blsD (ts.map fun t => W x t || W y t))) (some (.int j)) to du od) [enc b] =
    .nx (ev s tu fi la so (some (madeD x y)) (some (ptsD ms)) (some (ptsD ts)) (some (blsD (ts.map (W x)))) (some (blsD (ts.map (W y)))) (some (.bl (meetG inP x y))) (some (blsD (ts.map fun t => W x t || W y t))) (some (.int j)) (some (toD p q)) (some (.bl (covG inP p q))) od) [enc b] := by
  have P := S.pr h
  unfold A2_9b
  rw [sSeq_ap, q1_ok P h, seq_nx, sSeq_ap, q2_ok P, seq_nx, sSeq_ap, q3_ok P S.tok S.len, seq_nx, sSeq_ap, q4_ok P h, seq_nx, sSeq_ap, q5_ok S h, seq_nx, q6_ok P h (self_cov S h)]
theorem p9_ok (S : Sn x y ms ts) (b : Bx) : ∃ k' to' du', A2_9 (ev s tu fi la so (some (madeD x y)) (some (ptsD ms)) (some (ptsD ts)) (some (blsD (ts.map (W x)))) (some (blsD (ts.map (W y)))) (some (.bl (meetG inP x y))) (some (blsD (ts.map fun t => W x t || W y t))) k to du od) [enc b] =
    .nx (ev s tu fi la so (some (madeD x y)) (some (ptsD ms)) (some (ptsD ts)) (some (blsD (ts.map (W x)))) (some (blsD (ts.map (W y)))) (some (.bl (meetG inP x y))) (some (blsD (ts.map fun t => W x t || W y t))) k' to' du' od) [enc b] := by
  have e0 := fun to du => q_ok (s := s) (tu := tu) (fi := fi) (la := la) (so := so) (od := od) (to := to) (du := du) (p := x) (q := y) (j := 0) S (.inl ⟨rfl, rfl, rfl⟩) b
  have e1 := fun to du => q_ok (s := s) (tu := tu) (fi := fi) (la := la) (so := so) (od := od) (to := to) (du := du) (p := y) (q := x) (j := 1) S (.inr ⟨rfl, rfl, rfl⟩) b
  refine ⟨some (.int 1), some (toD y x), some (.bl (covG inP y x)), ?_⟩
  · unfold A2_9
    rw [sFor_ap]
    have r : iRng1' (aCons (eC (.int 2)) aNil) (ev s tu fi la so (some (madeD x y)) (some (ptsD ms)) (some (ptsD ts)) (some (blsD (ts.map (W x)))) (some (blsD (ts.map (W y)))) (some (.bl (meetG inP x y))) (some (blsD (ts.map fun t => W x t || W y t))) k to du od) [enc b] = .ok (.fix [.int 0, .int 1]) [enc b] := rfl
    rw [r, for1_fix]
    unfold loopD
    rw [gN_ap]
    show (match A2_9b (ev s tu fi la so (some (madeD x y)) (some (ptsD ms)) (some (ptsD ts)) (some (blsD (ts.map (W x)))) (some (blsD (ts.map (W y)))) (some (.bl (meetG inP x y))) (some (blsD (ts.map fun t => W x t || W y t))) (some (.int 0)) to du od) [enc b] with
      | .nx ρ' μ' => _ | .ct ρ' μ' => _ | .bk ρ' μ' => _ | r => r) = _
    rw [e0]
    show loopD _ _ [.int 1] _ _ = _
    unfold loopD
    rw [gN_ap]
    show (match A2_9b (ev s tu fi la so (some (madeD x y)) (some (ptsD ms)) (some (ptsD ts)) (some (blsD (ts.map (W x)))) (some (blsD (ts.map (W y)))) (some (.bl (meetG inP x y))) (some (blsD (ts.map fun t => W x t || W y t))) (some (.int 1)) (some (toD x y)) (some (.bl (covG inP x y))) od) [enc b] with
      | .nx ρ' μ' => _ | .ct ρ' μ' => _ | .bk ρ' μ' => _ | r => r) = _
    rw [e1]
    rfl
def oddL : List DV := [.non, .tup [.int 1, .int 0], .lst [], .str "whole", .int 3, .dct [] [], .tup [.tup [.int 1, .int 0], .tup [.int 0, .int 1]]]
theorem p10_ok (b : Bx) : ∃ d b', d ∈ oddL ∧ A2_10 (ev s tu fi la so ma mk te he th sh ei k to du od) [enc b] = .nx (ev s tu fi la so ma mk te he th sh ei k to du (some d)) [enc b'] := by
  obtain ⟨d, b', e, hd⟩ := of_ok (μ := []) b oddL (by decide) (by decide)
  refine ⟨d, b', hd, ?_⟩
  have m7 : ∀ a1 a2 a3 a4 a5 a6 a7 : DV, mkL [a1, a2, a3, a4, a5, a6, a7] [enc b] = .ok (.lst [a1, a2, a3, a4, a5, a6, a7]) [enc b] := fun _ _ _ _ _ _ _ => mkL_small (by show 7 ≤ _; decide)
  have d0 : ∀ (ρ : En) (μ : Sto), eDct0 ρ μ = .ok (.dct [] []) μ := fun _ _ => rfl
  have e : f__law_of [.cell 0, .lst [.non, .tup [.int 1, .int 0], .lst [], .str "whole", .int 3, .dct [] [], .tup [.tup [.int 1, .int 0], .tup [.int 0, .int 1]]]] [enc b] = .ok d [enc b'] := e
  unfold A2_10
  simp [m7, d0, e]
theorem odd_no {d : DV} (h : d ∈ oddL) {μ : Sto} : vIsiS 2 [3] [d, .gl 2] μ = some (.bl false) ∧ orTy d = true := by
  simp only [oddL, List.mem_cons, List.not_mem_nil, or_false] at h
  rcases h with rfl | rfl | rfl | rfl | rfl | rfl | rfl <;> exact ⟨rfl, rfl⟩
theorem p11_ok {d : DV} (h : d ∈ oddL) (b : Bx) : A2_11 (ev s tu fi la so (some (madeD x y)) mk te he th sh ei k to du (some d)) [enc b] = .nx (ev s tu fi la so (some (madeD x y)) mk te he th sh ei k to du (some d)) [enc b] := by
  obtain ⟨h1, h2⟩ := odd_no h (μ := [enc b])
  have i : ∀ μ, vIx (madeD x y) (.int 0) μ = some (arcD x) := fun μ => lst0
  have g : eGotW "" csL fs__law_try (eOrAL [2, 3] [2, 3] f_Arc___or__ (eBin vIx (eVar 6) (eC (.int 0))) (eVar 16)) (ev s tu fi la so (some (madeD x y)) mk te he th sh ei k to du (some d)) [enc b] = .ok noJ [enc b] := got_noJ noE1 (by simp [i, h2, or_odd h1])
  have sm := same_noJ (μ := [enc b])
  unfold A2_11
  generalize eGotW "" csL fs__law_try (eOrAL [2, 3] [2, 3] f_Arc___or__ (eBin vIx (eVar 6) (eC (.int 0))) (eVar 16)) = E at g ⊢
  simp [g, sm]
theorem p12_ok (hx : Ok x) (hy : Ok y) (b : Bx) : A2_12 (ev s tu (some (endsD x)) (some (endsD y)) so (some (madeD x y)) mk te he th sh ei k to du od) [enc b] = .nx (ev s tu (some (endsD x)) (some (endsD y)) so (some (madeD x y)) mk te he th sh ei k to du od) [enc b] := by
  have i : ∀ μ, vIx (madeD x y) (.int 0) μ = some (arcD x) := fun μ => lst0
  have i2 : ∀ μ, vIx (madeD x y) (.int 1) μ = some (arcD y) := fun μ => lst1
  have m1 := lmade_ok (μ := [enc b]) low1 hx
  have m2 := lmade_ok (μ := [enc b]) low1 hy
  have sm : f__law_same 6 [.lst [.bl true, .bl true], .lst [.bl true, .bl true]] [enc b] = .ok (.bl true) [enc b] := same_bls 4 (bs := [true, true]) (by show 2 ≤ _; decide)
  unfold A2_12
  simp [i, i2, m1, m2, eqOL_same, sm]
/-- a turn -/
theorem turn_ok (b : Bx) : ∃ fi' la' so' ma' mk' te' he' th' sh' ei' k' to' du' od' b', A2b (ev s tu fi la so ma mk te he th sh ei k to du od) [enc b] = .nx (ev s tu fi' la' so' ma' mk' te' he' th' sh' ei' k' to' du' od') [enc b'] := by
  obtain ⟨x, b1, hx, e1⟩ := p1_ok (s := s) (tu := tu) (fi := fi) (la := la) (so := so) (ma := ma) (mk := mk) (te := te) (he := he) (th := th) (sh := sh) (ei := ei) (k := k) (to := to) (du := du) (od := od) b
  obtain ⟨y, b2, hy, e2⟩ := p2_ok (s := s) (tu := tu) (la := la) (so := so) (ma := ma) (mk := mk) (te := te) (he := he) (th := th) (sh := sh) (ei := ei) (k := k) (to := to) (du := du) (od := od) hx b1
  have S := sn_ok hx hy
  obtain ⟨k', to', du', e9⟩ := p9_ok (s := s) (tu := tu) (fi := some (endsD x)) (la := some (endsD y)) (so := some (.lst [endsD x, endsD y])) (k := k) (to := to) (du := du) (od := od) S b2
  obtain ⟨d, b3, hd, e10⟩ := p10_ok (s := s) (tu := tu) (fi := some (endsD x)) (la := some (endsD y)) (so := some (.lst [endsD x, endsD y])) (ma := some (madeD x y)) (mk := some (ptsD (marks x y))) (te := some (ptsD (tsOf (marks x y)))) (he := some (blsD ((tsOf (marks x y)).map (W x)))) (th := some (blsD ((tsOf (marks x y)).map (W y)))) (sh := some (.bl (meetG inP x y))) (ei := some (blsD ((tsOf (marks x y)).map fun t => W x t || W y t))) (k := k') (to := to') (du := du') (od := od) b2
  have e11 := p11_ok (s := s) (tu := tu) (fi := some (endsD x)) (la := some (endsD y)) (so := some (.lst [endsD x, endsD y])) (x := x) (y := y) (mk := some (ptsD (marks x y))) (te := some (ptsD (tsOf (marks x y)))) (he := some (blsD ((tsOf (marks x y)).map (W x)))) (th := some (blsD ((tsOf (marks x y)).map (W y)))) (sh := some (.bl (meetG inP x y))) (ei := some (blsD ((tsOf (marks x y)).map fun t => W x t || W y t))) (k := k') (to := to') (du := du') hd b3
  have e12 := p12_ok (s := s) (tu := tu) (so := some (.lst [endsD x, endsD y])) (mk := some (ptsD (marks x y))) (te := some (ptsD (tsOf (marks x y)))) (he := some (blsD ((tsOf (marks x y)).map (W x)))) (th := some (blsD ((tsOf (marks x y)).map (W y)))) (sh := some (.bl (meetG inP x y))) (ei := some (blsD ((tsOf (marks x y)).map fun t => W x t || W y t))) (k := k') (to := to') (du := du') (od := some d) hx hy b3
  have chain : A2b (ev s tu fi la so ma mk te he th sh ei k to du od) [enc b] = .nx (ev s tu (some (endsD x)) (some (endsD y)) (some (.lst [endsD x, endsD y])) (some (madeD x y)) (some (ptsD (marks x y))) (some (ptsD (tsOf (marks x y)))) (some (blsD ((tsOf (marks x y)).map (W x)))) (some (blsD ((tsOf (marks x y)).map (W y)))) (some (.bl (meetG inP x y))) (some (blsD ((tsOf (marks x y)).map fun t => W x t || W y t))) k' to' du' (some d)) [enc b3] := by
    unfold A2b
    rw [sSeq_ap, e1, seq_nx, sSeq_ap, e2, seq_nx, sSeq_ap, p3_ok hx hy, seq_nx, sSeq_ap, p4_ok hx hy, seq_nx, sSeq_ap, p5_ok hx hy, seq_nx, sSeq_ap, p6_ok S, seq_nx, sSeq_ap, p7_ok S, seq_nx, sSeq_ap, p8_ok S, seq_nx, sSeq_ap]
    unfold madeD at e9 e10 e11 e12 ⊢
    rw [e9, seq_nx, sSeq_ap, e10, seq_nx, sSeq_ap, e11, seq_nx]
    exact e12
  exact ⟨_, _, _, _, _, _, _, _, _, _, _, _, _, _, b3, chain⟩
end
end Lw

set_option Elab.async false
set_option linter.all false
set_option maxRecDepth 100000
set_option maxHeartbeats 4000000
namespace Lw
open PySem PySem.Spec PyProof.Rows L2 SD
theorem plain (ns : List Int) (h : ns.length ≤ 63) : ∃ μ, f_law [.scr (ns.map .int)] [] = .ok (.bl true) μ := by
  obtain ⟨b, hb⟩ := open_ok ns
  refine ⟨[], ?_⟩
  unfold f_law
  rw [runF1, b_law_eq]
  obtain ⟨s, hs⟩ : ∃ s, s = some (DV.scr (ns.map .int)) := ⟨_, rfl⟩
  have e1 : A1 ([some (.scr (ns.map .int))] ++ List.replicate 19 none) [] = .nx (ev s none none none none none none none none none none none none none none none) [enc b] := by
    rw [hs]
    unfold A1
    simp only [sAsg_ap, eCall_ap, aCons_ap, eVar_ap, aNil_ap, eC_ap, List.cons_append, List.nil_append, List.replicate, List.getElem?_cons_zero, ac1_ok, ac2_ok, mk_ok, hb, asg_ok, gN_ap, List.set_cons_succ, List.set_cons_zero]
  have e2 : ∃ tu fi la so ma mk te he th sh ei k to du od b', A2 (ev s none none none none none none none none none none none none none none none) [enc b] = .nx (ev s tu fi la so ma mk te he th sh ei k to du od) [enc b'] := by
    obtain ⟨ρ', μ', el, ⟨tu, fi, la, so, ma, mk, te, he, th, sh, ei, k, to, du, od, hρ⟩, b', hμ⟩ := loopD_inv (t := gN 2) (f := A2b) (fun ρ μ => (∃ tu fi la so ma mk te he th sh ei k to du od, ρ = ev s tu fi la so ma mk te he th sh ei k to du od) ∧ ∃ b, μ = [enc b]) ((List.range 10).map fun (i : Nat) => DV.int (i : Int)) (ev s none none none none none none none none none none none none none none none) [enc b] ⟨⟨_, _, _, _, _, _, _, _, _, _, _, _, _, _, _, rfl⟩, b, rfl⟩ (by
      rintro d hd ρ μ ⟨⟨tu, fi, la, so, ma, mk, te, he, th, sh, ei, k, to, du, od, rfl⟩, b, rfl⟩
      obtain ⟨fi', la', so', ma', mk', te', he', th', sh', ei', k', to', du', od', b', e⟩ := turn_ok (s := s) (tu := some d) (fi := fi) (la := la) (so := so) (ma := ma) (mk := mk) (te := te) (he := he) (th := th) (sh := sh) (ei := ei) (k := k) (to := to) (du := du) (od := od) b
      exact ⟨ev s (some d) fi la so ma mk te he th sh ei k to du od, rfl, ev s (some d) fi' la' so' ma' mk' te' he' th' sh' ei' k' to' du' od', [enc b'], .inl e, ⟨_, _, _, _, _, _, _, _, _, _, _, _, _, _, _, rfl⟩, b', rfl⟩)
    subst hμ hρ
    refine ⟨tu, fi, la, so, ma, mk, te, he, th, sh, ei, k, to, du, od, b', ?_⟩
    have r10 : rngOf1 [.int 10] = some (.fix ((List.range 10).map fun (i : Nat) => DV.int (i : Int))) := rng_n (n := 10) (by decide)
    unfold A2
    rw [sFor_ap, iRng1_ap, aCons_ap, eC_ap, ac1_ok, aNil_ap, ac2_ok, rg1_ok, r10, of_some, for1_fix, el]
  obtain ⟨tu, fi, la, so, ma, mk, te, he, th, sh, ei, k, to, du, od, b', e2⟩ := e2
  have hf : SR.fin .fz 0 (.rt (.bl true) [enc b']) = .ok (.bl true) [] := rfl
  have e3 : A3 (ev s tu fi la so ma mk te he th sh ei k to du od) [enc b'] = .rt (.bl true) [enc b'] := rfl
  rw [sSeq_ap, e1, seq_nx, sSeq_ap, e2, seq_nx, e3]
  exact hf
end Lw

set_option Elab.async false
set_option linter.all false
set_option maxRecDepth 100000
set_option maxHeartbeats 4000000
namespace Lw
open PySem PySem.Spec PyProof.Rows L2 SD
theorem lawAt {w : World} {K : PySem.W.Frag} {h : Heap} {mg : Str → Option Value} {f : Addr} (X : K.In h) (G : h.Ns mainGlobals mg) (hfa : mg ("law" : Str) = some (.ref f)) (c : SaysY fa fn tfX exX gtX w h K) :
    LamX.LawAtS PySem.Challenge.rw_stucklots_k21_whole_arcs_joined_and_cove w K (L2.CX PySem.Challenge.rw_stucklots_k21_whole_arcs_joined_and_cove.prog w) 11 63 "script" mg f h := by
  have T : Hv fa fn csX ysX cvX gtX dfX tfX xsX K mg := by
    have a1 := Bool.and_eq_true_iff.mp c.x.more
    have a2 := Bool.and_eq_true_iff.mp a1.2
    have a3 := Bool.and_eq_true_iff.mp a2.2
    have a4 := Bool.and_eq_true_iff.mp a3.2
    have a5 := Bool.and_eq_true_iff.mp a4.2
    exact ⟨⟨⟨⟨⟨h, X, G, c.x.t.d⟩, a1.1⟩, a2.1, a3.1, congrArg (fun z : Bool × List He.FnW => z.1) c.g, congrArg (fun z : Bool × List He.FnW => z.2) c.g⟩, a4.1, a5.1⟩, a5.2⟩
  have e := hfa.symm.trans (T.glo 49)
  cases e
  obtain ⟨fd, F⟩ := fd_law T
  have b := FunD.bindsA (ps := ["script"]) F fun _ _ _ _ _ _ us hl => match us, hl with | [_], _ => rfl
  exact law_atS (g := gK K) (F := f_law) X c.x rfl rfl (fun s v => b s [v] rfl) plain fun base _ _ TBs => gf_okC (p := ("law", none)) F sc_law (fb_law T TBs)
end Lw
open PySem PySem.W PySem.Calls PyProof.Rows
set_option maxRecDepth 100000 in
set_option maxHeartbeats 0 in
theorem PySem.Challenge.cw_stucklots_k21_whole_arcs_joined_and_cove_holds : PySem.Challenge.rw_stucklots_k21_whole_arcs_joined_and_cove.Holds := by
  w_on; o_law
  refine HandSHeadRun.head_any (r := OpenLaw.row PySem.Challenge.rw_stucklots_k21_whole_arcs_joined_and_cove) (q := view (OpenLaw.row PySem.Challenge.rw_stucklots_k21_whole_arcs_joined_and_cove).prog [41]) (H := Lw.hk) (ob := Lw.ob) (M := 9000) (loose := Lw.loose) (d := HandSHeadRun.topDef (OpenLaw.row PySem.Challenge.rw_stucklots_k21_whole_arcs_joined_and_cove).prog 41) (kwd := []) Lw.ob_eq
    (by kernel_rfl) (fun s => by kernel_rfl) Lw.run (by kernel_rfl) (by kernel_rfl) (by kernel_rfl) (by rfl) (by first | assumption | decide +kernel) (by decide +kernel) ⟨rfl, rfl, rfl, rfl, rfl, by decide +kernel⟩ ?hw ?hc
  case hw => w_witness2
  case hc =>
    refine LamX.walk_ofTsE (l := PySem.Challenge.rw_stucklots_k21_whole_arcs_joined_and_cove) (n := 63) (k := 11) (x := "script") (CX := fun w => L2.CX PySem.Challenge.rw_stucklots_k21_whole_arcs_joined_and_cove.prog w) rfl (by decide) (by kernel_rfl) ⟨rfl, by decide, by decide⟩ ?F (fun _ _ _ _ _ z => SD.noCX z)
    intro w mg fa h Y G hmg0
    obtain ⟨K, KX, c⟩ := Y
    have hmg : mg ("law" : PySem.Str) = some (.ref fa) := by
      have e : (HandSHeadRun.topDef (OpenLaw.row PySem.Challenge.rw_stucklots_k21_whole_arcs_joined_and_cove).prog 41).name = ("law" : PySem.Str) := by kernel_rfl
      rw [← e]
      exact hmg0
    exact ⟨K, KX, Lw.lawAt KX G hmg c⟩
