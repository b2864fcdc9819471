import PyProof.Rows.All
import Wide.All
import OpenK.AllK
import Wide.FinOn
import HandS.ForMost
import HandS.Exc
import HandS.WordsExc
import HandS.IsInst
import HandS.Lambda
import HandS.ExcInit
import HandS.TupAny
import HandS.More
import HandS.Strs
import HandS.CallSlots
import HandS.Defaults
import HandS.Deep
import HandS.Wide
import HandS.StrMore
import HandS.DictComp
import HandS.Conv
import HandS.Head0
import HandS.Head1
import HandS.Head2
import HandS.HeadEnd
import HandS.HeadHook1
import HandS.HeadHook2
import HandS.Style
import HandS.SortInts
import HandS.NoneIn
import KE.KUnpackStar
import HandS.ExcValue
import HandS.ExcField
import HandS.HotCalls
import HandS.TryMany
import HandS.HeadWalk
import HandS.HeadHook4
import HandS.TupSets
import HandS.SetBool
import HandS.SortRule
import HandS.Star
import HandS.Property
import HandS.MakeKw
import PyProof.InstSpecial
import PyProof.InstEq
import PyProof.InstNe
import HandS.ClsMeth
import HandS.FStr
import HandS.Iter
import HandS.MakeKwOnly
import KE.GoesEnum
import PyProof.EnumMake
import HandS.Zip
import HandS.ExcSuper
import HandS.SlotsOwn
import HandS.ExcIs
import PySem.Challenge.RW_stucklots_k00_errors_by_themselves
set_option Elab.async false
set_option linter.all false
set_option maxRecDepth 100000
set_option maxHeartbeats 4000000
namespace SD
open PySem PySem.Spec PyProof.Rows L2

/-- built-in types -/
inductive T7 where | non | bl | int | str | tup | lst | dct
  deriving DecidableEq, Inhabited
def T7.name : T7 → String
  | .non => "NoneType" | .bl => "bool" | .int => "int" | .str => "str" | .tup => "tuple" | .lst => "list" | .dct => "dict"
/-- deep data -/
inductive DV where
  | non | bl (b : Bool) | int (i : Int) | str (x : Str)
  | tup (xs : List DV) | lst (xs : List DV) | scr (xs : List DV)
  | dct (ks : List Key) (xs : List DV)
  | cell (i : Nat)
  | obj (c : Nat) (ns : List Str) (xs : List DV)
  | gl (n : Nat) | ty (t : T7)
  | exn (c : Nat) (ns : List Str) (xs : List DV)
  | exv (c : Nat) (ns : List Str) (xs : List DV)
  deriving Inhabited

/-- what lives in the store -/
inductive CO where
  | dead
  | lst (xs : List DV)
  | ins (c : Nat) (ns : List Str) (xs : List DV)
  | dct (ks : List Key) (xs : List DV)
  deriving Inhabited
abbrev Sto := List CO
/-- the cells' addresses; those of hidden lists that a comprehension is filling -/
structure KA where
  cs : List (Option Addr)
  gh : List Addr
def KA.has (κ : KA) (a : Addr) : Prop := some a ∈ κ.cs ∨ a ∈ κ.gh

/-- the written part, the addresses of classes and defs by number -/
structure Gc where
  K : PySem.W.Frag
  cls : Nat → Addr
  /-- the tables of code objects, the name that all of a table's bear -/
  T : List (Addr × Str)
  /-- the exception that is handled, its dict, its class -/
  ex : Option (Addr × Addr × Nat)

/-- o stands at a, and a is no cell -/
def At (κ : KA) (H : Hp) (a : Addr) (o : HO) : Prop := H a = some o ∧ ¬ κ.has a
def FrL (g : Gc) (κ : KA) (H : Hp) (a : Addr) (vs : List V) : Prop :=
  At κ H a (.lst vs) ∨ (∃ ob, At κ H a (.frz ob (.lst vs))) ∨
    ∃ (o : Obj) (its : Array Value) (n : Nat), g.K.lookup a = some o ∧ o.cls = .type "list" ∧ o.dict = none ∧ o.data = .seq its n ∧ its.size ≤ sizeLine ∧ Vals vs its.toList
def FrT (g : Gc) (κ : KA) (H : Hp) (a : Addr) (vs : List V) : Prop :=
  (∃ ob : Obj, ob.dict = none ∧ At κ H a (.frz ob (.tup vs))) ∨
    ∃ (o : Obj) (its : Array Value) (n : Nat), g.K.lookup a = some o ∧ o.cls = .type "tuple" ∧ o.dict = none ∧ o.data = .seq its n ∧ its.size ≤ sizeLine ∧ Vals vs its.toList
theorem FrL.sq {g : Gc} {κ : KA} {H : Hp} {a : Addr} {vs : List V} (h : FrL g κ H a vs) : SqL g.K H a vs := by
  rcases h with h | ⟨ob, h⟩ | h
  · exact .inl (.inl h.1)
  · exact .inl (.inr ⟨ob, h.1⟩)
  · exact .inr h
theorem FrT.sq {g : Gc} {κ : KA} {H : Hp} {a : Addr} {vs : List V} (h : FrT g κ H a vs) : SqT g.K H a vs := by
  rcases h with ⟨ob, _, h⟩ | ⟨o, its, n, h1, h2, _, h3⟩
  · exact .inl (.inr ⟨ob, h.1⟩)
  · exact .inr ⟨o, its, n, h1, h2, h3⟩

mutual
/-- the value v stands for the data d -/
def Rel (g : Gc) (κ : KA) (H : Hp) : DV → V → Prop
  | .non, v => v = .non
  | .bl b, v => v = .bl b
  | .int i, v => v = .int i
  | .str x, v => v = .str x
  | .ty t, v => v = .ty t.name
  | .gl n, v => v = .ref (g.cls n)
  | .tup xs, v => ∃ a vs, v = .ref a ∧ FrT g κ H a vs ∧ RelL g κ H xs vs
  | .lst xs, v => ∃ a vs, v = .ref a ∧ At κ H a (.lst vs) ∧ RelL g κ H xs vs
  | .scr xs, v => ∃ a vs, v = .ref a ∧ FrL g κ H a vs ∧ RelL g κ H xs vs
  | .dct ks xs, v => ∃ a vs, v = .ref a ∧ At κ H a (.dK (ks.zip vs)) ∧ ks.length = vs.length ∧ RelL g κ H xs vs
  | .cell i, v => i < κ.cs.length ∧ ∀ a, κ.cs[i]? = some (some a) → v = .ref a
  | .obj c ns xs, v => ∃ a dx vs, v = .ref a ∧ At κ H a (.ins (g.cls c) dx (ns.zip vs)) ∧ ns.length = vs.length ∧ RelL g κ H xs vs
  | .exv c ns xs, v => ∃ a d vs, v = .ref a ∧ At κ H a (exo a (g.cls c) (some d)) ∧ At κ H d (exd d (ns.zip vs)) ∧ ns.length = vs.length ∧ RelL g κ H xs vs
  | .exn c ns xs, v => ∃ a d vs, g.ex = some (a, d, c) ∧ v = .ref a ∧ At κ H d (.xd (ns.zip vs)) ∧ ns.length = vs.length ∧ RelL g κ H xs vs
def RelL (g : Gc) (κ : KA) (H : Hp) : List DV → List V → Prop
  | [], vs => vs = []
  | x :: xs, vs => ∃ v r, vs = v :: r ∧ Rel g κ H x v ∧ RelL g κ H xs r
end

/-- a cell's content -/
def RelC (g : Gc) (κ : KA) (H : Hp) : CO → Option Addr → Prop
  | .dead, a => a = none
  | .lst xs, a => ∃ p vs, a = some p ∧ H p = some (.lst vs) ∧ RelL g κ H xs vs
  | .ins c ns xs, a => ∃ p dx vs, a = some p ∧ H p = some (.ins (g.cls c) dx (ns.zip vs)) ∧ ns.length = vs.length ∧ RelL g κ H xs vs
  | .dct ks xs, a => ∃ p vs, a = some p ∧ H p = some (.dK (ks.zip vs)) ∧ ks.length = vs.length ∧ RelL g κ H xs vs

/-- a table of code objects: all of the name q -/
def TabK (κ : KA) (H : Hp) (P : Addr) (q : Str) : Prop := ∃ ps : Array Value, H P = some (.tbl ps) ∧ TriplesOk ps.toList ∧ ∀ (pos : Pos) (cv : Value), codeAmong pos ps.toList = some cv → ∃ c, cv = .ref c ∧ At κ H c (LamX.CodeO c q)
theorem TabK.move {κ κ' : KA} {H H' : Hp} {P : Addr} {q : Str} (t : TabK κ H P q) (hP : H' P = H P) (h : ∀ c, At κ H c (LamX.CodeO c q) → At κ' H' c (LamX.CodeO c q)) : TabK κ' H' P q := by
  obtain ⟨ps, h1, h2, h3⟩ := t
  refine ⟨ps, hP.trans h1, h2, fun pos cv hc => ?_⟩
  obtain ⟨c, e1, e2⟩ := h3 pos cv hc
  exact ⟨c, e1, h c e2⟩
theorem TabK.tbl {κ : KA} {H : Hp} {P : Addr} {q : Str} (t : TabK κ H P q) : ∃ ps, H P = some (.tbl ps) := let ⟨ps, h, _⟩ := t; ⟨ps, h⟩
def NoTbl (H : Hp) (a : Addr) : Prop := ∀ ps, H a ≠ some (.tbl ps)
structure StoOk (g : Gc) (κ : KA) (H : Hp) (μ : Sto) : Prop where
  len : κ.cs.length = μ.length
  inj : ∀ (i j : Nat) (a : Addr), κ.cs[i]? = some (some a) → κ.cs[j]? = some (some a) → i = j
  at_ : ∀ (i : Nat) (c : CO), μ[i]? = some c → ∃ a, κ.cs[i]? = some a ∧ RelC g κ H c a
  gst : ∀ a ∈ κ.gh, (∃ o, H a = some o) ∧ some a ∉ κ.cs
  tbs : ∀ p ∈ g.T, p.1 ∈ κ.gh ∧ TabK κ H p.1 p.2

/-- what may have come to pass: what is frozen stays, cells may die, new ones may come -/
structure Ext0 (κ : KA) (H : Hp) (κ' : KA) (H' : Hp) : Prop where
  keep : ∀ a o, H a = some o → ¬ κ.has a → H' a = some o
  sep : ∀ a o, H a = some o → ¬ κ.has a → ¬ κ'.has a
  len : κ.cs.length ≤ κ'.cs.length
  old : ∀ (i : Nat) (a : Addr), i < κ.cs.length → κ'.cs[i]? = some (some a) → κ.cs[i]? = some (some a)
structure Ext (κ : KA) (H : Hp) (κ' : KA) (H' : Hp) : Prop extends Ext0 κ H κ' H' where
  ghs : κ'.gh = κ.gh
  ghv : ∀ a ∈ κ.gh, NoTbl H a → H' a = H a

theorem Ext.refl {κ : KA} {H : Hp} : Ext κ H κ H := ⟨⟨fun _ _ h _ => h, fun _ _ _ h => h, Nat.le_refl _, fun _ _ _ h => h⟩, rfl, fun _ _ _ => rfl⟩
theorem Ext0.trans {κ κ1 κ2 : KA} {H H1 H2 : Hp} (a : Ext0 κ H κ1 H1) (b : Ext0 κ1 H1 κ2 H2) : Ext0 κ H κ2 H2 where
  keep := fun x o h n => b.keep x o (a.keep x o h n) (a.sep x o h n)
  sep := fun x o h n => b.sep x o (a.keep x o h n) (a.sep x o h n)
  len := Nat.le_trans a.len b.len
  old := fun i x h e => a.old i x h (b.old i x (Nat.lt_of_lt_of_le h a.len) e)
theorem Ext.trans {κ κ1 κ2 : KA} {H H1 H2 : Hp} (a : Ext κ H κ1 H1) (b : Ext κ1 H1 κ2 H2) : Ext κ H κ2 H2 :=
  ⟨a.toExt0.trans b.toExt0, b.ghs.trans a.ghs, fun x hx n => (b.ghv x (by rw [a.ghs]; exact hx) (fun ps => by rw [a.ghv x hx n]; exact n ps)).trans (a.ghv x hx n)⟩
theorem Ext0.at {κ κ1 : KA} {H H1 : Hp} (e : Ext0 κ H κ1 H1) {a : Addr} {o : HO} (h : At κ H a o) : At κ1 H1 a o := ⟨e.keep a o h.1 h.2, e.sep a o h.1 h.2⟩
theorem FrL.ext0 {g : Gc} {κ κ1 : KA} {H H1 : Hp} {a : Addr} {vs : List V} (e : Ext0 κ H κ1 H1) (h : FrL g κ H a vs) : FrL g κ1 H1 a vs := by
  rcases h with h | ⟨ob, h⟩ | h
  · exact .inl (e.at h)
  · exact .inr (.inl ⟨ob, e.at h⟩)
  · exact .inr (.inr h)
theorem FrT.ext0 {g : Gc} {κ κ1 : KA} {H H1 : Hp} {a : Addr} {vs : List V} (e : Ext0 κ H κ1 H1) (h : FrT g κ H a vs) : FrT g κ1 H1 a vs := by
  rcases h with ⟨ob, d, h⟩ | h
  · exact .inl ⟨ob, d, e.at h⟩
  · exact .inr h

section
variable {g : Gc} {κ κ1 : KA} {H H1 : Hp}
mutual
theorem Rel.ext0 (e : Ext0 κ H κ1 H1) : ∀ {d : DV} {v : V}, Rel g κ H d v → Rel g κ1 H1 d v
  | .non, _, h => by simpa only [Rel] using h
  | .bl _, _, h => by simpa only [Rel] using h
  | .int _, _, h => by simpa only [Rel] using h
  | .str _, _, h => by simpa only [Rel] using h
  | .ty _, _, h => by simpa only [Rel] using h
  | .gl _, _, h => by simpa only [Rel] using h
  | .tup xs, v, h => by
    simp only [Rel] at h ⊢
    obtain ⟨a, vs, h1, h2, h3⟩ := h
    exact ⟨a, vs, h1, h2.ext0 e, RelL.ext0 e h3⟩
  | .lst xs, v, h => by
    simp only [Rel] at h ⊢
    obtain ⟨a, vs, h1, h2, h3⟩ := h
    exact ⟨a, vs, h1, e.at h2, RelL.ext0 e h3⟩
  | .scr xs, v, h => by
    simp only [Rel] at h ⊢
    obtain ⟨a, vs, h1, h2, h3⟩ := h
    exact ⟨a, vs, h1, h2.ext0 e, RelL.ext0 e h3⟩
  | .dct ks xs, v, h => by
    simp only [Rel] at h ⊢
    obtain ⟨a, vs, h1, h2, hl, h3⟩ := h
    exact ⟨a, vs, h1, e.at h2, hl, RelL.ext0 e h3⟩
  | .cell i, v, h => by
    simp only [Rel] at h ⊢
    exact ⟨Nat.lt_of_lt_of_le h.1 e.len, fun a ha => h.2 a (e.old i a h.1 ha)⟩
  | .obj c ns xs, v, h => by
    simp only [Rel] at h ⊢
    obtain ⟨a, dx, vs, h1, h2, hl, h3⟩ := h
    exact ⟨a, dx, vs, h1, e.at h2, hl, RelL.ext0 e h3⟩
  | .exn c ns xs, v, h => by
    simp only [Rel] at h ⊢
    obtain ⟨a, d, vs, h0, h1, h2, hl, h3⟩ := h
    exact ⟨a, d, vs, h0, h1, e.at h2, hl, RelL.ext0 e h3⟩
  | .exv c ns xs, v, h => by
    simp only [Rel] at h ⊢
    obtain ⟨a, d, vs, h1, h2, h0, hl, h3⟩ := h
    exact ⟨a, d, vs, h1, e.at h2, e.at h0, hl, RelL.ext0 e h3⟩
theorem RelL.ext0 (e : Ext0 κ H κ1 H1) : ∀ {xs : List DV} {vs : List V}, RelL g κ H xs vs → RelL g κ1 H1 xs vs
  | [], _, h => by simpa only [RelL] using h
  | x :: xs, vs, h => by
    simp only [RelL] at h ⊢
    obtain ⟨v, r, h1, h2, h3⟩ := h
    exact ⟨v, r, h1, Rel.ext0 e h2, RelL.ext0 e h3⟩
end
end
theorem FrL.ext {g : Gc} {κ κ1 : KA} {H H1 : Hp} {a : Addr} {vs : List V} (e : Ext κ H κ1 H1) (h : FrL g κ H a vs) : FrL g κ1 H1 a vs := h.ext0 e.toExt0
theorem FrT.ext {g : Gc} {κ κ1 : KA} {H H1 : Hp} {a : Addr} {vs : List V} (e : Ext κ H κ1 H1) (h : FrT g κ H a vs) : FrT g κ1 H1 a vs := h.ext0 e.toExt0
theorem Rel.ext {g : Gc} {κ κ1 : KA} {H H1 : Hp} {d : DV} {v : V} (e : Ext κ H κ1 H1) (h : Rel g κ H d v) : Rel g κ1 H1 d v := h.ext0 e.toExt0
theorem RelL.ext {g : Gc} {κ κ1 : KA} {H H1 : Hp} {d : List DV} {v : List V} (e : Ext κ H κ1 H1) (h : RelL g κ H d v) : RelL g κ1 H1 d v := h.ext0 e.toExt0
theorem RelL.length {g : Gc} {κ : KA} {H : Hp} : ∀ {xs : List DV} {vs : List V}, RelL g κ H xs vs → xs.length = vs.length
  | [], _, h => by simp only [RelL] at h; subst h; rfl
  | x :: xs, vs, h => by
    simp only [RelL] at h
    obtain ⟨v, r, h1, h2, h3⟩ := h
    subst h1
    simp [RelL.length h3]
theorem RelL.cons {g : Gc} {κ : KA} {H : Hp} {x : DV} {xs : List DV} {v : V} {vs : List V} (a : Rel g κ H x v) (b : RelL g κ H xs vs) : RelL g κ H (x :: xs) (v :: vs) := by
  simp only [RelL]; exact ⟨v, vs, rfl, a, b⟩
theorem RelL.nil {g : Gc} {κ : KA} {H : Hp} : RelL g κ H [] [] := by simp only [RelL]
theorem RelL.of_cons {g : Gc} {κ : KA} {H : Hp} {x : DV} {xs : List DV} {vs : List V} (h : RelL g κ H (x :: xs) vs) : ∃ v r, vs = v :: r ∧ Rel g κ H x v ∧ RelL g κ H xs r := by
  simpa only [RelL] using h
theorem RelL.of_nil {g : Gc} {κ : KA} {H : Hp} {vs : List V} (h : RelL g κ H [] vs) : vs = [] := by simpa only [RelL] using h
theorem RelL.append {g : Gc} {κ : KA} {H : Hp} : ∀ {xs ys : List DV} {vs ws : List V}, RelL g κ H xs vs → RelL g κ H ys ws → RelL g κ H (xs ++ ys) (vs ++ ws)
  | [], _, _, _, a, b => by cases a.of_nil; exact b
  | x :: xs, _, _, _, a, b => by
    obtain ⟨v, r, rfl, h1, h2⟩ := a.of_cons
    exact (RelL.cons h1 (RelL.append h2 b))
theorem RelL.get {g : Gc} {κ : KA} {H : Hp} : ∀ {xs : List DV} {vs : List V} {i : Nat} {d : DV}, RelL g κ H xs vs → xs[i]? = some d → ∃ v, vs[i]? = some v ∧ Rel g κ H d v
  | [], _, _, _, _, e => by simp at e
  | x :: xs, _, 0, d, a, e => by
    obtain ⟨v, r, rfl, h1, h2⟩ := a.of_cons
    simp at e; subst e; exact ⟨v, rfl, h1⟩
  | x :: xs, _, i + 1, d, a, e => by
    obtain ⟨v, r, rfl, h1, h2⟩ := a.of_cons
    obtain ⟨w, h3, h4⟩ := RelL.get (i := i) h2 (by simpa using e)
    exact ⟨w, by simpa using h3, h4⟩
theorem RelL.set {g : Gc} {κ : KA} {H : Hp} {d : DV} {v : V} (r : Rel g κ H d v) : ∀ {xs : List DV} {vs : List V} (i : Nat), RelL g κ H xs vs → RelL g κ H (xs.set i d) (vs.set i v)
  | [], _, _, a => by cases a.of_nil; exact a
  | x :: xs, _, 0, a => by
    obtain ⟨v', r', rfl, h1, h2⟩ := a.of_cons
    exact RelL.cons r h2
  | x :: xs, _, i + 1, a => by
    obtain ⟨v', r', rfl, h1, h2⟩ := a.of_cons
    exact RelL.cons h1 (RelL.set r i h2)
theorem RelL.take {g : Gc} {κ : KA} {H : Hp} : ∀ {xs : List DV} {vs : List V} (n : Nat), RelL g κ H xs vs → RelL g κ H (xs.take n) (vs.take n)
  | xs, vs, 0, a => by simp [RelL]
  | [], _, n + 1, a => by cases a.of_nil; simp [RelL]
  | x :: xs, _, n + 1, a => by
    obtain ⟨v', r', rfl, h1, h2⟩ := a.of_cons
    exact RelL.cons h1 (RelL.take n h2)
theorem RelL.drop {g : Gc} {κ : KA} {H : Hp} : ∀ {xs : List DV} {vs : List V} (n : Nat), RelL g κ H xs vs → RelL g κ H (xs.drop n) (vs.drop n)
  | xs, vs, 0, a => a
  | [], _, n + 1, a => by cases a.of_nil; simp [RelL]
  | x :: xs, _, n + 1, a => by
    obtain ⟨v', r', rfl, h1, h2⟩ := a.of_cons
    exact RelL.drop n h2
theorem RelL.ints {g : Gc} {κ : KA} {H : Hp} : ∀ (ns : List Int), RelL g κ H (ns.map DV.int) (ns.map V.int)
  | [] => RelL.nil
  | n :: ns => RelL.cons (by simp [Rel]) (RelL.ints ns)

theorem RelC.ext0 {g : Gc} {κ κ1 : KA} {H H1 : Hp} (e : Ext0 κ H κ1 H1) {c : CO} {a : Option Addr} (k : ∀ p, a = some p → H1 p = H p) (h : RelC g κ H c a) : RelC g κ1 H1 c a := by
  cases c with
  | dead => exact h
  | lst xs =>
    obtain ⟨p, vs, rfl, h1, h2⟩ := h
    exact ⟨p, vs, rfl, (k p rfl).trans h1, h2.ext0 e⟩
  | ins c ns xs =>
    obtain ⟨p, dx, vs, rfl, h1, hl, h2⟩ := h
    exact ⟨p, dx, vs, rfl, (k p rfl).trans h1, hl, h2.ext0 e⟩
  | dct ks xs =>
    obtain ⟨p, vs, rfl, h1, hl, h2⟩ := h
    exact ⟨p, vs, rfl, (k p rfl).trans h1, hl, h2.ext0 e⟩
/-- a live cell stands in H -/
theorem StoOk.live {g : Gc} {κ : KA} {H : Hp} {μ : Sto} (s : StoOk g κ H μ) {i : Nat} {p : Addr} (h : κ.cs[i]? = some (some p)) : ∃ o, H p = some o := by
  have hi : i < μ.length := by rw [← s.len]; exact (List.getElem?_eq_some_iff.mp h).1
  obtain ⟨a, h1, h2⟩ := s.at_ i _ (List.getElem?_eq_getElem hi)
  rw [h] at h1; cases h1
  revert h2
  cases μ[i] with
  | dead => intro h2; exact nomatch h2
  | lst xs => intro ⟨q, vs, e, h3, _⟩; cases e; exact ⟨_, h3⟩
  | ins c ns xs => intro ⟨q, dx, vs, e, h3, _⟩; cases e; exact ⟨_, h3⟩
  | dct ks xs => intro ⟨q, vs, e, h3, _⟩; cases e; exact ⟨_, h3⟩
theorem StoOk.fresh {g : Gc} {κ : KA} {H : Hp} {μ : Sto} (s : StoOk g κ H μ) {p : Addr} (h : H p = none) : ¬ κ.has p := fun m => by
  rcases m with m | m
  · obtain ⟨i, hi⟩ := List.getElem?_of_mem m
    obtain ⟨o, ho⟩ := s.live hi
    rw [h] at ho; cases ho
  · obtain ⟨⟨o, ho⟩, _⟩ := s.gst p m
    rw [h] at ho; cases ho

/-- a new object that is no cell -/
theorem Ext0.new {κ : KA} {H : Hp} {p : Addr} {o : HO} (h : H p = none) : Ext0 κ H κ (upd H p o) :=
  ⟨fun a o' ha _ => by rw [upd_ne (ne_of_none ha h)]; exact ha, fun _ _ _ n => n, Nat.le_refl _, fun _ _ _ e => e⟩
theorem Ext.new {g : Gc} {κ : KA} {H : Hp} {μ : Sto} {p : Addr} {o : HO} (s : StoOk g κ H μ) (h : H p = none) : Ext κ H κ (upd H p o) :=
  ⟨Ext0.new h, rfl, fun a ha _ => by obtain ⟨⟨u, hu⟩, _⟩ := s.gst a ha; exact upd_ne (ne_of_none hu h)⟩
theorem StoOk.new {g : Gc} {κ : KA} {H : Hp} {μ : Sto} {p : Addr} {o : HO} (s : StoOk g κ H μ) (h : H p = none) : StoOk g κ (upd H p o) μ :=
  ⟨s.len, s.inj, fun i c hc => by
    obtain ⟨a, h1, h2⟩ := s.at_ i c hc
    refine ⟨a, h1, h2.ext0 (Ext0.new h) fun q hq => ?_⟩
    subst hq
    obtain ⟨o', ho'⟩ := s.live h1
    exact upd_ne (ne_of_none ho' h), fun a ha => by
    obtain ⟨⟨u, hu⟩, hn⟩ := s.gst a ha
    exact ⟨⟨u, by rw [upd_ne (ne_of_none hu h)]; exact hu⟩, hn⟩, fun q hq => by
    obtain ⟨m, t⟩ := s.tbs q hq
    obtain ⟨ps, e⟩ := t.tbl
    exact ⟨m, t.move (upd_ne (ne_of_none e h)) fun c z => (Ext0.new h).at z⟩⟩
/-- a new cell -/
def KA.more (κ : KA) (p : Addr) : KA := ⟨κ.cs ++ [some p], κ.gh⟩
theorem Ext.newCell {g : Gc} {κ : KA} {H : Hp} {μ : Sto} {p : Addr} {o : HO} (s : StoOk g κ H μ) (h : H p = none) : Ext κ H (κ.more p) (upd H p o) where
  keep := fun a o' ha _ => by rw [upd_ne (ne_of_none ha h)]; exact ha
  sep := fun a o' ha n m => by
    rcases m with m | m
    · rcases List.mem_append.mp m with m | m
      · exact n (.inl m)
      · have : a = p := by simpa using m
        rw [this, h] at ha; cases ha
    · exact n (.inr m)
  len := by simp [KA.more]
  old := fun i a hi e => by
    have e : (κ.cs ++ [some p])[i]? = some (some a) := e
    rwa [List.getElem?_append_left hi] at e
  ghs := rfl
  ghv := fun a ha _ => by obtain ⟨⟨u, hu⟩, _⟩ := s.gst a ha; exact upd_ne (ne_of_none hu h)
theorem StoOk.newCell {g : Gc} {κ : KA} {H : Hp} {μ : Sto} {p : Addr} {o : HO} {c : CO} (s : StoOk g κ H μ) (h : H p = none) (hc : RelC g (κ.more p) (upd H p o) c (some p)) : StoOk g (κ.more p) (upd H p o) (μ ++ [c]) where
  len := by simp [KA.more, s.len]
  inj := fun i j a hi hj => by
    have key : ∀ (i : Nat), (κ.cs ++ [some p])[i]? = some (some a) → (i < κ.cs.length ∧ κ.cs[i]? = some (some a)) ∨ (i = κ.cs.length ∧ a = p) := fun i hi => by
      by_cases hl : i < κ.cs.length
      · rw [List.getElem?_append_left hl] at hi; exact .inl ⟨hl, hi⟩
      · rw [List.getElem?_append_right (by omega)] at hi
        have : i - κ.cs.length = 0 := by
          have := (List.getElem?_eq_some_iff.mp hi).1
          simp at this; omega
        rw [this] at hi
        have e : p = a := by simpa using hi
        exact .inr ⟨by omega, e.symm⟩
    have nk : ∀ i : Nat, κ.cs[i]? = some (some p) → False := fun i hi => s.fresh h (.inl (List.mem_of_getElem? hi))
    rcases key i hi with ⟨h1, h2⟩ | ⟨h1, h2⟩ <;> rcases key j hj with ⟨h3, h4⟩ | ⟨h3, h4⟩
    · exact s.inj i j a h2 h4
    · rw [h4] at h2; exact (nk _ h2).elim
    · rw [h2] at h4; exact (nk _ h4).elim
    · omega
  at_ := fun i c' hc' => by
    by_cases hl : i < μ.length
    · rw [List.getElem?_append_left hl] at hc'
      obtain ⟨a, h1, h2⟩ := s.at_ i c' hc'
      refine ⟨a, ?_, h2.ext0 (Ext.newCell s h).toExt0 fun q hq => ?_⟩
      · show (κ.cs ++ [some p])[i]? = some a
        rw [List.getElem?_append_left (by rw [s.len]; exact hl)]; exact h1
      · subst hq
        obtain ⟨o', ho'⟩ := s.live h1
        exact upd_ne (ne_of_none ho' h)
    · rw [List.getElem?_append_right (by omega)] at hc'
      have e0 : i - μ.length = 0 := by
        have := (List.getElem?_eq_some_iff.mp hc').1
        simp at this; omega
      rw [e0] at hc'
      have ec : c = c' := by simpa using hc'
      subst ec
      refine ⟨some p, ?_, hc⟩
      show (κ.cs ++ [some p])[i]? = some (some p)
      rw [List.getElem?_append_right (by rw [s.len]; omega), s.len, e0]; rfl
  gst := fun a ha => by
    obtain ⟨⟨u, hu⟩, hn⟩ := s.gst a ha
    refine ⟨⟨u, by rw [upd_ne (ne_of_none hu h)]; exact hu⟩, fun m => ?_⟩
    rcases List.mem_append.mp m with m | m
    · exact hn m
    · have : a = p := by simpa using m
      rw [this, h] at hu; cases hu
  tbs := fun q hq => by
    obtain ⟨m, t⟩ := s.tbs q hq
    obtain ⟨ps, e⟩ := t.tbl
    exact ⟨m, t.move (upd_ne (ne_of_none e h)) fun c z => (Ext.newCell s h).at z⟩
/-- a cell is written -/
theorem Ext0.write {κ : KA} {H : Hp} {p : Addr} {o : HO} (h : κ.has p) : Ext0 κ H κ (upd H p o) :=
  ⟨fun a o' ha n => by rw [upd_ne (fun e => n (by rw [e]; exact h))]; exact ha, fun _ _ _ n => n, Nat.le_refl _, fun _ _ _ e => e⟩
theorem Ext.write {g : Gc} {κ : KA} {H : Hp} {μ : Sto} {i : Nat} {p : Addr} {o : HO} (s : StoOk g κ H μ) (h : κ.cs[i]? = some (some p)) : Ext κ H κ (upd H p o) :=
  ⟨Ext0.write (.inl (List.mem_of_getElem? h)), rfl, fun a ha _ => upd_ne fun e => (s.gst a ha).2 (by rw [e]; exact List.mem_of_getElem? h)⟩
theorem StoOk.write {g : Gc} {κ : KA} {H : Hp} {μ : Sto} {i : Nat} {p : Addr} {o : HO} {c : CO} (s : StoOk g κ H μ) (h : κ.cs[i]? = some (some p)) (hc : RelC g κ (upd H p o) c (some p)) : StoOk g κ (upd H p o) (μ.set i c) :=
  ⟨by simp [s.len], s.inj, fun j c' hc' => by
    by_cases hj : j = i
    · subst hj
      have hl : j < μ.length := by rw [← s.len]; exact (List.getElem?_eq_some_iff.mp h).1
      rw [List.getElem?_set_self hl] at hc'
      cases hc'
      exact ⟨some p, h, hc⟩
    · rw [List.getElem?_set_ne (fun e => hj e.symm)] at hc'
      obtain ⟨a, h1, h2⟩ := s.at_ j c' hc'
      refine ⟨a, h1, h2.ext0 (Ext.write s h).toExt0 fun q hq => ?_⟩
      subst hq
      exact upd_ne fun e => hj (s.inj j i q h1 (by rw [e]; exact h)), fun a ha => by
    obtain ⟨⟨u, hu⟩, hn⟩ := s.gst a ha
    exact ⟨⟨u, by rw [upd_ne (fun e => hn (by rw [e]; exact List.mem_of_getElem? h))]; exact hu⟩, hn⟩, fun q hq => by
    obtain ⟨m, t⟩ := s.tbs q hq
    exact ⟨m, t.move (upd_ne fun e => (s.gst _ m).2 (by rw [e]; exact List.mem_of_getElem? h)) fun c z => (Ext.write s h).at z⟩⟩
/-- a hidden list comes, changes, is known at last -/
def KA.hide (κ : KA) (p : Addr) : KA := ⟨κ.cs, p :: κ.gh⟩
theorem Ext0.hide {κ : KA} {H : Hp} {p : Addr} {o : HO} (h : H p = none) : Ext0 κ H (κ.hide p) (upd H p o) where
  keep := fun a o' ha _ => by rw [upd_ne (ne_of_none ha h)]; exact ha
  sep := fun a o' ha n m => by
    rcases m with m | m
    · exact n (.inl m)
    · rcases List.mem_cons.mp m with m | m
      · rw [m, h] at ha; cases ha
      · exact n (.inr m)
  len := Nat.le_refl _
  old := fun _ _ _ e => e
theorem StoOk.hide {g : Gc} {κ : KA} {H : Hp} {μ : Sto} {p : Addr} {o : HO} (s : StoOk g κ H μ) (h : H p = none) : StoOk g (κ.hide p) (upd H p o) μ where
  len := s.len
  inj := s.inj
  at_ := fun i c hc => by
    obtain ⟨a, h1, h2⟩ := s.at_ i c hc
    refine ⟨a, h1, h2.ext0 (Ext0.hide h) fun q hq => ?_⟩
    subst hq
    obtain ⟨o', ho'⟩ := s.live h1
    exact upd_ne (ne_of_none ho' h)
  gst := fun a ha => by
    rcases List.mem_cons.mp ha with e | ha
    · subst e
      exact ⟨⟨o, upd_same⟩, fun m => s.fresh h (.inl m)⟩
    · obtain ⟨⟨u, hu⟩, hn⟩ := s.gst a ha
      exact ⟨⟨u, by rw [upd_ne (ne_of_none hu h)]; exact hu⟩, hn⟩
  tbs := fun q hq => by
    obtain ⟨m, t⟩ := s.tbs q hq
    obtain ⟨ps, e⟩ := t.tbl
    exact ⟨List.mem_cons_of_mem _ m, t.move (upd_ne (ne_of_none e h)) fun c z => (Ext0.hide h).at z⟩
theorem StoOk.fill {g : Gc} {κ : KA} {H : Hp} {μ : Sto} {p : Addr} {o : HO} (s : StoOk g κ H μ) (h : p ∈ κ.gh) (nt : NoTbl H p) : StoOk g κ (upd H p o) μ where
  len := s.len
  inj := s.inj
  at_ := fun i c hc => by
    obtain ⟨a, h1, h2⟩ := s.at_ i c hc
    refine ⟨a, h1, h2.ext0 (Ext0.write (.inr h)) fun q hq => ?_⟩
    subst hq
    exact upd_ne fun e => (s.gst p h).2 (by rw [← e]; exact List.mem_of_getElem? h1)
  gst := fun a ha => by
    obtain ⟨⟨u, hu⟩, hn⟩ := s.gst a ha
    by_cases e : a = p
    · subst e; exact ⟨⟨o, upd_same⟩, hn⟩
    · exact ⟨⟨u, by rw [upd_ne e]; exact hu⟩, hn⟩
  tbs := fun q hq => by
    obtain ⟨m, t⟩ := s.tbs q hq
    obtain ⟨ps, e⟩ := t.tbl
    exact ⟨m, t.move (upd_ne fun z => nt ps (by rw [← z]; exact e)) fun c z => (Ext0.write (.inr h)).at z⟩
theorem Ext0.show' {κ : KA} {H : Hp} {p : Addr} : Ext0 (κ.hide p) H κ H where
  keep := fun _ _ h _ => h
  sep := fun a o h n m => n (m.elim .inl fun m => .inr (List.mem_cons_of_mem _ m))
  len := Nat.le_refl _
  old := fun _ _ _ e => e
theorem StoOk.show' {g : Gc} {κ : KA} {H : Hp} {μ : Sto} {p : Addr} (s : StoOk g (κ.hide p) H μ) (nt : NoTbl H p) : StoOk g κ H μ where
  len := s.len
  inj := s.inj
  at_ := fun i c hc => by
    obtain ⟨a, h1, h2⟩ := s.at_ i c hc
    exact ⟨a, h1, h2.ext0 Ext0.show' fun _ _ => rfl⟩
  gst := fun a ha => s.gst a (List.mem_cons_of_mem _ ha)
  tbs := fun q hq => by
    obtain ⟨m, t⟩ := s.tbs q hq
    refine ⟨(List.mem_cons.mp m).resolve_left fun e => ?_, t.move rfl fun c z => Ext0.show'.at z⟩
    obtain ⟨ps, h⟩ := t.tbl
    exact nt ps (by rw [← e]; exact h)

mutual
def DV.low (n : Nat) : DV → Bool
  | .tup xs => lowL n xs
  | .lst xs => lowL n xs
  | .scr xs => lowL n xs
  | .dct _ xs => lowL n xs
  | .obj _ _ xs => lowL n xs
  | .exn _ _ xs => lowL n xs
  | .exv _ _ xs => lowL n xs
  | .cell i => decide (i < n)
  | _ => true
def lowL (n : Nat) : List DV → Bool
  | [] => true
  | x :: xs => x.low n && lowL n xs
end
def CO.low (n : Nat) : CO → Bool
  | .dead => true
  | .lst xs => lowL n xs
  | .ins _ _ xs => lowL n xs
  | .dct _ xs => lowL n xs
section
variable {g : Gc} {κ : KA} {H : Hp} {n : Nat}
def KA.cut (κ : KA) (n : Nat) : KA := ⟨κ.cs.take n, κ.gh⟩
theorem mem_take_of {p : Addr} (h : ¬ κ.has p) : ¬ (κ.cut n).has p := fun m => h (m.elim (fun m => .inl (List.mem_of_mem_take m)) .inr)
theorem At.cut {a : Addr} {o : HO} (h : At κ H a o) : At (κ.cut n) H a o := ⟨h.1, mem_take_of h.2⟩
mutual
theorem Rel.cut (hn : n ≤ κ.cs.length) : ∀ {d : DV} {v : V}, Rel g κ H d v → d.low n = true → Rel g (κ.cut n) H d v
  | .non, _, h, _ => by simpa only [Rel] using h
  | .bl _, _, h, _ => by simpa only [Rel] using h
  | .int _, _, h, _ => by simpa only [Rel] using h
  | .str _, _, h, _ => by simpa only [Rel] using h
  | .ty _, _, h, _ => by simpa only [Rel] using h
  | .gl _, _, h, _ => by simpa only [Rel] using h
  | .tup xs, v, h, b => by
    simp only [Rel] at h ⊢
    simp only [DV.low] at b
    obtain ⟨a, vs, h1, h2, h3⟩ := h
    refine ⟨a, vs, h1, ?_, RelL.cut hn h3 b⟩
    rcases h2 with ⟨ob, d, h2⟩ | h2
    · exact .inl ⟨ob, d, h2.cut⟩
    · exact .inr h2
  | .lst xs, v, h, b => by
    simp only [Rel] at h ⊢
    simp only [DV.low] at b
    obtain ⟨a, vs, h1, h2, h3⟩ := h
    exact ⟨a, vs, h1, h2.cut, RelL.cut hn h3 b⟩
  | .scr xs, v, h, b => by
    simp only [Rel] at h ⊢
    simp only [DV.low] at b
    obtain ⟨a, vs, h1, h2, h3⟩ := h
    refine ⟨a, vs, h1, ?_, RelL.cut hn h3 b⟩
    rcases h2 with h2 | ⟨ob, h2⟩ | h2
    · exact .inl h2.cut
    · exact .inr (.inl ⟨ob, h2.cut⟩)
    · exact .inr (.inr h2)
  | .dct ks xs, v, h, b => by
    simp only [Rel] at h ⊢
    simp only [DV.low] at b
    obtain ⟨a, vs, h1, h2, hl, h3⟩ := h
    exact ⟨a, vs, h1, h2.cut, hl, RelL.cut hn h3 b⟩
  | .cell i, v, h, b => by
    simp only [Rel] at h ⊢
    simp only [DV.low, decide_eq_true_eq] at b
    refine ⟨by simp [KA.cut]; omega, fun a ha => h.2 a ?_⟩
    have ha : (κ.cs.take n)[i]? = some (some a) := ha
    rwa [List.getElem?_take_of_lt b] at ha
  | .obj c ns xs, v, h, b => by
    simp only [Rel] at h ⊢
    simp only [DV.low] at b
    obtain ⟨a, dx, vs, h1, h2, hl, h3⟩ := h
    exact ⟨a, dx, vs, h1, h2.cut, hl, RelL.cut hn h3 b⟩
  | .exn c ns xs, v, h, b => by
    simp only [Rel] at h ⊢
    simp only [DV.low] at b
    obtain ⟨a, d, vs, h0, h1, h2, hl, h3⟩ := h
    exact ⟨a, d, vs, h0, h1, h2.cut, hl, RelL.cut hn h3 b⟩
  | .exv c ns xs, v, h, b => by
    simp only [Rel] at h ⊢
    simp only [DV.low] at b
    obtain ⟨a, d, vs, h1, h2, h0, hl, h3⟩ := h
    exact ⟨a, d, vs, h1, h2.cut, h0.cut, hl, RelL.cut hn h3 b⟩
theorem RelL.cut (hn : n ≤ κ.cs.length) : ∀ {xs : List DV} {vs : List V}, RelL g κ H xs vs → lowL n xs = true → RelL g (κ.cut n) H xs vs
  | [], _, h, _ => by simpa only [RelL] using h
  | x :: xs, vs, h, b => by
    simp only [RelL] at h ⊢
    simp only [lowL, Bool.and_eq_true] at b
    obtain ⟨v, r, h1, h2, h3⟩ := h
    exact ⟨v, r, h1, Rel.cut hn h2 b.1, RelL.cut hn h3 b.2⟩
end
theorem Ext.cut {κ κ' : KA} {H H' : Hp} (e : Ext κ H κ' H') : Ext κ H (κ'.cut κ.cs.length) H' where
  keep := e.keep
  sep := fun a o h n => mem_take_of (e.sep a o h n)
  len := by have := e.len; simp [KA.cut]; omega
  old := fun i a hi h => e.old i a hi (by
    have h : (κ'.cs.take κ.cs.length)[i]? = some (some a) := h
    rwa [List.getElem?_take_of_lt hi] at h)
  ghs := e.ghs
  ghv := e.ghv
theorem StoOk.cut {μ : Sto} (s : StoOk g κ H μ) (hn : n ≤ κ.cs.length) (hb : ∀ c ∈ μ.take n, c.low n = true) : StoOk g (κ.cut n) H (μ.take n) where
  len := by simp [s.len, KA.cut]
  inj := fun i j a hi hj => by
    have hi : (κ.cs.take n)[i]? = some (some a) := hi
    have hj : (κ.cs.take n)[j]? = some (some a) := hj
    have hli := (List.getElem?_eq_some_iff.mp hi).1
    have hlj := (List.getElem?_eq_some_iff.mp hj).1
    rw [List.length_take] at hli hlj
    rw [List.getElem?_take_of_lt (by omega)] at hi hj
    exact s.inj i j a hi hj
  at_ := fun i c hc => by
    have hli := (List.getElem?_eq_some_iff.mp hc).1
    rw [List.length_take] at hli
    have hm := List.mem_of_getElem? hc
    rw [List.getElem?_take_of_lt (by omega)] at hc
    obtain ⟨a, h1, h2⟩ := s.at_ i c hc
    refine ⟨a, by show (κ.cs.take n)[i]? = some a; rw [List.getElem?_take_of_lt (by omega)]; exact h1, ?_⟩
    have b := hb c hm
    cases c with
    | dead => exact h2
    | lst xs =>
      obtain ⟨p, vs, rfl, h3, h4⟩ := h2
      exact ⟨p, vs, rfl, h3, h4.cut hn b⟩
    | ins c ns xs =>
      obtain ⟨p, dx, vs, rfl, h3, hl, h4⟩ := h2
      exact ⟨p, dx, vs, rfl, h3, hl, h4.cut hn b⟩
    | dct ks xs =>
      obtain ⟨p, vs, rfl, h3, hl, h4⟩ := h2
      exact ⟨p, vs, rfl, h3, hl, h4.cut hn b⟩
  gst := fun a ha => by
    obtain ⟨h1, h2⟩ := s.gst a ha
    exact ⟨h1, fun m => h2 (List.mem_of_mem_take m)⟩
  tbs := fun q hq => by
    obtain ⟨m, t⟩ := s.tbs q hq
    exact ⟨m, t.move rfl fun c z => z.cut⟩
end
end SD

set_option Elab.async false
set_option linter.all false
set_option maxRecDepth 100000
set_option maxHeartbeats 4000000
namespace L2
open PySem PySem.Spec PyProof.Rows
section
variable {X : Cx} {es : List Expr} {t : TA} {pos : Pos}
/-- (e, ..): a new tuple whose object is known -/
def tTupF (t : TA) : TE := fun σ H Q => t σ H fun xs H1 => xs.length ≤ sizeLine ∧ ∀ (p : Addr) (ob : Obj), H1 p = none → ob.dict = none → Q (.ref p) (upd H1 p (.frz ob (.tup xs)))
theorem pe_tupF {k : Nat} (h : PA X es t) : PE X (.Tuple es k pos) (tTupF t) := by
  refine ⟨fun pins s σ H Q I hq => wpAny_Tuple_spliced (thn (h.run pos pins s σ H _ I hq) fun us s1 z => ?_)⟩
  obtain ⟨xs, H1, I1, r, hz, q⟩ := z
  refine ⟨by rw [← r.length]; exact hz, ?_⟩
  have fr : H1 s1.heap.objs.size = none := I1.hok.fresh (Nat.le_refl _)
  have gt : (s1.heap.push { cls := .type "tuple", data := .seq us.toArray }).get? s1.heap.objs.size = some { cls := .type "tuple", data := .seq us.toArray } := Heap.get?_push_size _ rfl
  refine ⟨.ref s1.heap.objs.size, upd H1 s1.heap.objs.size (.frz { cls := .type "tuple", data := .seq us.toArray } (.tup xs)), I1.laid (t' := s1.toks) (fun b u e => Heap.get?_push_of_some _ e) (Nat.le_refl _) ?_, rfl, q _ _ fr rfl⟩
  exact ⟨gt, hz, us, r, _, gt, rfl, _, rfl⟩
/-- a new tuple laid, told in full -/
theorem Inv.tupF {pins : List (Addr × Obj)} {σ : St} {H : Hp} {s : Shared} {xs : List V} {us : List Value} {G : Heap} {tk : Nat} (I : Inv X pins σ H { s with heap := G }) (r : Vals xs us) (hz : xs.length ≤ sizeLine) :
    ∃ ob : Obj, ob.dict = none ∧ H G.objs.size = none ∧ Inv X pins σ (upd H G.objs.size (.frz ob (.tup xs))) { s with heap := G.push { cls := .type "tuple", data := .seq us.toArray }, toks := tk } := by
  have gt : (G.push { cls := .type "tuple", data := .seq us.toArray }).get? G.objs.size = some { cls := .type "tuple", data := .seq us.toArray } := Heap.get?_push_size _ rfl
  exact ⟨{ cls := .type "tuple", data := .seq us.toArray }, rfl, I.hok.fresh (Nat.le_refl _), I.laid (t' := tk) (fun b u e => Heap.get?_push_of_some _ e) (Nat.le_refl _) ⟨gt, hz, us, r, _, gt, rfl, _, rfl⟩⟩
/-- t[a:b], not the whole -/
theorem sl_tupF : SlR X (fun x lo hi H Q => ∃ (a : Addr) (xs : List V), x = .ref a ∧ SqT X.K H a xs ∧ ¬ (HT.sIx xs.length 0 lo = 0 ∧ HT.sIx xs.length xs.length hi = xs.length) ∧
    ∀ (p : Addr) (ob : Obj), H p = none → ob.dict = none → Q (.ref p) (upd H p (.frz ob (.tup (cutV xs lo hi))))) := by
  intro pins s σ H x v vl vu lo hi sl Q I rx hs pl pu h
  obtain ⟨a, xs, e, hx, hw, q⟩ := h
  subst e
  cases rx
  obtain ⟨its, r, ht, hz⟩ := I.tuple hx
  have hl : its.toArray.size = xs.length := (List.size_toArray).trans r.length.symm
  refine ⟨"tuple", _, PyProof.Rows.slot_tuple_getitem.lookup, ht.typeIs, HT.getItem_tuple_cut ht hs pl pu (by rw [hl]; exact hw) ?_ (by rw [hl]; exact hz)⟩
  rw [hl]
  obtain ⟨ob, d, n, J⟩ := Inv.tupF (tk := s.toks) (s := s) I ((r.drop (HT.sIx xs.length 0 lo)).take (HT.sIx xs.length xs.length hi - HT.sIx xs.length 0 lo)) (Nat.le_trans (cutV_length xs lo hi) hz)
  exact ⟨.ref s.heap.objs.size, _, J, rfl, q _ _ n d⟩
/-- t[a:b]; the whole of it is t itself -/
theorem sl_tupFA : SlR X (fun x lo hi H Q => ∃ (a : Addr) (xs : List V), x = .ref a ∧ SqT X.K H a xs ∧ (HT.sIx xs.length 0 lo = 0 ∧ HT.sIx xs.length xs.length hi = xs.length → Q (.ref a) H) ∧
    (¬ (HT.sIx xs.length 0 lo = 0 ∧ HT.sIx xs.length xs.length hi = xs.length) → ∀ (p : Addr) (ob : Obj), H p = none → ob.dict = none → Q (.ref p) (upd H p (.frz ob (.tup (cutV xs lo hi)))))) := by
  intro pins s σ H x v vl vu lo hi sl Q I rx hs pl pu h
  obtain ⟨a, xs, e, hx, q1, q2⟩ := h
  by_cases hw : HT.sIx xs.length 0 lo = 0 ∧ HT.sIx xs.length xs.length hi = xs.length
  · exact sl_tupA pins s σ H x v vl vu lo hi sl Q I rx hs pl pu ⟨a, xs, e, hx, q1, fun n => absurd hw n⟩
  · exact sl_tupF pins s σ H x v vl vu lo hi sl Q I rx hs pl pu ⟨a, xs, e, hx, hw, q2 hw⟩
/-- t + u -/
theorem op_catF : OpR X (binaryOp .Add) (fun x y H Q => ∃ (a b : Addr) (xs ys : List V), x = .ref a ∧ y = .ref b ∧ SqT X.K H a xs ∧ SqT X.K H b ys ∧ xs.length + ys.length ≤ sizeLine ∧ (xs = [] → Q (.ref b) H) ∧ (xs ≠ [] → ys = [] → Q (.ref a) H) ∧
    (xs ≠ [] → ys ≠ [] → ∀ (p : Addr) (ob : Obj), H p = none → ob.dict = none → Q (.ref p) (upd H p (.frz ob (.tup (xs ++ ys)))))) := by
  intro pins s σ H x y v u Q I rx ry h
  obtain ⟨a, b, xs, ys, e1, e2, ha, hb, hz, q0, q1, q2⟩ := h
  by_cases hx : xs = []
  · exact op_catA pins s σ H x y v u Q I rx ry ⟨a, b, xs, ys, e1, e2, ha, hb, hz, q0, q1, fun n => absurd hx n⟩
  · by_cases hy : ys = []
    · exact op_catA pins s σ H x y v u Q I rx ry ⟨a, b, xs, ys, e1, e2, ha, hb, hz, q0, q1, fun _ n => absurd hy n⟩
    · subst e1 e2
      cases rx
      cases ry
      obtain ⟨its, r1, p1, _⟩ := I.tuple ha
      obtain ⟨its2, r2, p2, _⟩ := I.tuple hb
      refine HT.cat_tup p1 p2 (fun z => hx (r1.nil_iff.mp z)) (fun z => absurd (r2.nil_iff.mp z) hy) (fun z => ?_) (by rw [← r1.length, ← r2.length]; exact hz)
      obtain ⟨ob, d, n, J⟩ := Inv.tupF (tk := s.toks) (s := s) I (r1.append r2) (by rw [List.length_append]; exact hz)
      exact ⟨.ref s.heap.objs.size, _, J, rfl, q2 hx hy _ _ n d⟩
/-- t.m(e, ..), t a tuple told in full -/
def TupF (K : PySem.W.Frag) (H : Hp) (a : Addr) (zs : List V) : Prop :=
  (∃ ob : Obj, ob.dict = none ∧ H a = some (.frz ob (.tup zs))) ∨
    ∃ (o : Obj) (its : Array Value) (n : Nat), K.lookup a = some o ∧ o.cls = .type "tuple" ∧ o.dict = none ∧ o.data = .seq its n ∧ its.size ≤ sizeLine ∧ Vals zs its.toList
/-- isinstance(x, t), t any tuple of classes -/
theorem call_isiS : CallR X (.builtin "isinstance") (fun xs H Q => ∃ (x : V) (tp : Addr) (cs : List V) (t : Value) (ws : List Value) (b : Bool), xs = [x, .ref tp] ∧ SqT X.K H tp cs ∧ Paired ClsV cs ws ∧ TyX X.K H x t ∧ PySem.W.kitAny X.K t ws = some b ∧ Q (.bl b) H) := by
  intro pins s σ H xs us Q I r h
  obtain ⟨x, tp, cs, t, ws, b, rfl, hT, k, ty, e, q⟩ := h
  obtain ⟨u1, u2, rfl, r1, r2⟩ := vals2 r
  cases (show u2 = Value.ref tp from r2)
  obtain ⟨P, Z, p, hx⟩ := kit_of I r1 ty
  obtain ⟨its, rv, ⟨o, h1, h2, n, h3⟩, _⟩ := I.tuple hT
  have e3 := ClsV.all k rv
  subst e3
  obtain ⟨oc, od, dt, sl⟩ := o
  simp only at h2 h3
  subst h2 h3
  exact PySem.W.kia_tup Z I.kIn p h1 e hx fun tk => ⟨.bl b, H, I.tok tk, rfl, q⟩
end
end L2

set_option Elab.async false
set_option linter.all false
set_option maxRecDepth 100000
set_option maxHeartbeats 4000000
namespace SD
open PySem PySem.Spec PyProof.Rows L2

inductive R (α : Type) where
  | ok (a : α) (μ : Sto)
  | ex (c : Nat) (ns : List Str) (xs : List DV) (μ : Sto)
  | stuck
def R.bind {α β : Type} (r : R α) (k : α → Sto → R β) : R β := match r with
  | .ok a μ => k a μ
  | .ex c ns xs μ => .ex c ns xs μ
  | .stuck => .stuck
def R.of {α : Type} (o : Option α) (μ : Sto) : R α := match o with
  | some a => .ok a μ
  | none => .stuck
def R.ofS {α : Type} (o : Option (α × Sto)) : R α := match o with
  | some (a, μ) => .ok a μ
  | none => .stuck
abbrev En := List (Option DV)
abbrev DE := En → Sto → R DV
abbrev DT := En → Sto → R Bool
abbrev DA := En → Sto → R (List DV)

/-- slots -/
structure RelE (g : Gc) (κ : KA) (H : Hp) (ρ : En) (σ : L2.St) : Prop where
  len : ρ.length = σ.length
  at_ : ∀ (i : Nat) (d : DV), ρ[i]? = some (some d) → ∃ v, σ[i]? = some (some v) ∧ Rel g κ H d v
theorem RelE.ext {g : Gc} {κ κ1 : KA} {H H1 : Hp} {ρ : En} {σ : L2.St} (e : Ext κ H κ1 H1) (h : RelE g κ H ρ σ) : RelE g κ1 H1 ρ σ := ⟨h.len, fun i d hd => by
  obtain ⟨v, h1, h2⟩ := h.at_ i d hd
  exact ⟨v, h1, h2.ext e⟩⟩
theorem RelE.set {g : Gc} {κ : KA} {H : Hp} {ρ : En} {σ : L2.St} {i : Nat} {d : DV} {v : V} (h : RelE g κ H ρ σ) (r : Rel g κ H d v) : RelE g κ H (ρ.set i (some d)) (σ.set i (some v)) := ⟨by simp [h.len], fun j e he => by
  by_cases hj : j = i
  · subst hj
    have hl : j < ρ.length := by have := (List.getElem?_eq_some_iff.mp he).1; simpa using this
    rw [List.getElem?_set_self hl] at he
    cases he
    exact ⟨v, by rw [List.getElem?_set_self (by rw [← h.len]; exact hl)], r⟩
  · rw [List.getElem?_set_ne (fun e => hj e.symm)] at he ⊢
    exact h.at_ j e he⟩
theorem RelE.unset {g : Gc} {κ : KA} {H : Hp} {ρ : En} {σ : L2.St} {i : Nat} (h : RelE g κ H ρ σ) : RelE g κ H (ρ.set i none) (σ.set i none) := ⟨by simp [h.len], fun j e he => by
  by_cases hj : j = i
  · subst hj
    have hl : j < ρ.length := by have := (List.getElem?_eq_some_iff.mp he).1; simpa using this
    rw [List.getElem?_set_self hl] at he
    cases he
  · rw [List.getElem?_set_ne (fun e => hj e.symm)] at he ⊢
    exact h.at_ j e he⟩

/-- what is wanted of a result -/
def wpR {α : Type} (g : Gc) (W : WX) (σ : L2.St) (κ : KA) (H : Hp) (r : R α) (Φ : α → Sto → KA → Hp → Prop) : Prop := match r with
  | .ok a μ' => ∀ κ' H', Ext κ H κ' H' → StoOk g κ' H' μ' → Φ a μ' κ' H'
  | .ex c ns xs μ' => ∀ κ' H', Ext κ H κ' H' → StoOk g κ' H' μ' → ∀ d vs, At κ' H' d (.xd (ns.zip vs)) → ns.length = vs.length → RelL g κ' H' xs vs → W (.ref (g.cls c)) (some d) σ H'
  | .stuck => False
section
variable {g : Gc} {W : WX} {σ : L2.St} {κ κ1 : KA} {H H1 : Hp}
theorem wpR.bind {α β : Type} {r : R α} {k : α → Sto → R β} {Φ : β → Sto → KA → Hp → Prop} (h : wpR g W σ κ H (r.bind k) Φ) :
    wpR g W σ κ H r (fun a μ' κ' H' => wpR g W σ κ' H' (k a μ') Φ) := by
  cases r with
  | ok a μ =>
    intro κ' H' e s
    have h : wpR g W σ κ H (k a μ) Φ := h
    show wpR g W σ κ' H' (k a μ) Φ
    revert h
    cases k a μ with
    | ok b μ2 => intro h κ2 H2 e2 s2; exact h κ2 H2 (e.trans e2) s2
    | ex c ns xs μ2 => intro h κ2 H2 e2 s2; exact h κ2 H2 (e.trans e2) s2
    | stuck => intro h; exact h
  | ex c ns xs μ => exact h
  | stuck => exact h
theorem wpR.mono {α : Type} {r : R α} {Φ Ψ : α → Sto → KA → Hp → Prop} (h : wpR g W σ κ H r Φ) (f : ∀ a μ' κ' H', Ext κ H κ' H' → StoOk g κ' H' μ' → Φ a μ' κ' H' → Ψ a μ' κ' H') : wpR g W σ κ H r Ψ := by
  cases r with
  | ok a μ => intro κ' H' e s; exact f a μ κ' H' e s (h κ' H' e s)
  | ex c ns xs μ => exact h
  | stuck => exact h
theorem wpR.ext {α : Type} {r : R α} {Φ : α → Sto → KA → Hp → Prop} (e : Ext κ H κ1 H1) (h : wpR g W σ κ H r Φ) : wpR g W σ κ1 H1 r Φ := by
  cases r with
  | ok a μ => intro κ2 H2 e2 s2; exact h κ2 H2 (e.trans e2) s2
  | ex c ns xs μ => intro κ2 H2 e2 s2; exact h κ2 H2 (e.trans e2) s2
  | stuck => exact h
end

/-- the readings -/
def tE (g : Gc) (W : WX) (f : DE) : TE := fun σ H Q => ∃ κ ρ μ, RelE g κ H ρ σ ∧ StoOk g κ H μ ∧ wpR g W σ κ H (f ρ μ) (fun d _ κ' H' => ∀ v, Rel g κ' H' d v → Q v H')
def tT (g : Gc) (W : WX) (f : DT) : TT := fun σ H Q => ∃ κ ρ μ, RelE g κ H ρ σ ∧ StoOk g κ H μ ∧ wpR g W σ κ H (f ρ μ) (fun b _ _ H' => Q b H')
def tA (g : Gc) (W : WX) (f : DA) : TA := fun σ H Q => ∃ κ ρ μ, RelE g κ H ρ σ ∧ StoOk g κ H μ ∧ wpR g W σ κ H (f ρ μ) (fun ds _ κ' H' => ∀ vs, RelL g κ' H' ds vs → Q vs H')
/-- the judgements -/
structure XG (g : Gc) (X : Cx) : Prop where
  K : X.K = g.K
abbrev GE (g : Gc) (W : WX) (X : Cx) (e : Expr) (f : DE) : Prop := PE X e (tE g W f)
abbrev GT (g : Gc) (W : WX) (X : Cx) (e : Expr) (f : DT) : Prop := PT X e (tT g W f)
abbrev GW (g : Gc) (W : WX) (X : Cx) (e : Expr) (f : DT) : Prop := PW X e (tT g W f)
abbrev GA (g : Gc) (W : WX) (X : Cx) (es : List Expr) (f : DA) : Prop := PA X es (tA g W f)

theorem PE.imp {X : Cx} {e : Expr} {t u : TE} (h : PE X e t) (f : ∀ σ H Q, u σ H Q → t σ H Q) : PE X e u := ⟨fun pins s σ H Q I q => h.run pins s σ H Q I (f _ _ _ q)⟩
theorem PT.imp {X : Cx} {e : Expr} {t u : TT} (h : PT X e t) (f : ∀ σ H Q, u σ H Q → t σ H Q) : PT X e u := ⟨fun pins s σ H Q I q => h.run pins s σ H Q I (f _ _ _ q)⟩
theorem PW.imp {X : Cx} {e : Expr} {t u : TT} (h : PW X e t) (f : ∀ σ H Q, u σ H Q → t σ H Q) : PW X e u := ⟨fun wh pins s σ H Q I q => h.run wh pins s σ H Q I (f _ _ _ q)⟩
theorem PA.imp {X : Cx} {es : List Expr} {t u : TA} (h : PA X es t) (f : ∀ σ H Q, u σ H Q → t σ H Q) : PA X es u := ⟨fun pos pins s σ H Q I q => h.run pos pins s σ H Q I (f _ _ _ q)⟩
theorem PS.imp {X : Cx} {st : Stmt} {t u : TS} (h : PS X st t) (f : ∀ D σ H, u D σ H → t D σ H) : PS X st u := ⟨fun pins s σ H D I q => h.run pins s σ H D I (f _ _ _ q)⟩
theorem PSs.imp {X : Cx} {st : List Stmt} {t u : TS} (h : PSs X st t) (f : ∀ D σ H, u D σ H → t D σ H) : PSs X st u := ⟨fun pins s σ H D I q => h.run pins s σ H D I (f _ _ _ q)⟩

section
variable {g : Gc} {W : WX} {X : Cx} {a b c e : Expr} {es : List Expr} {fa fb fc : DE} {pos : Pos}

def eVar (i : Nat) : DE := fun ρ μ => match ρ[i]? with
  | some (some d) => .ok d μ
  | _ => .stuck
theorem ge_var {i : Nat} (h : PE X e (tVar i)) : GE g W X e (eVar i) := by
  refine PE.imp h fun σ H Q q => ?_
  obtain ⟨κ, ρ, μ, he, hs, hw⟩ := q
  unfold eVar at hw
  cases e1 : ρ[i]? with
  | none => rw [e1] at hw; exact hw.elim
  | some o =>
    cases o with
    | none => rw [e1] at hw; exact hw.elim
    | some d =>
      rw [e1] at hw
      obtain ⟨v, h1, h2⟩ := he.at_ i d e1
      exact ⟨v, h1, hw κ H Ext.refl hs v h2⟩
def eC (d : DV) : DE := fun _ μ => .ok d μ
theorem ge_c {d : DV} {v : V} (h : PE X e (tC v)) (r : ∀ κ H, Rel g κ H d v := by intro κ H; simp only [Rel]) : GE g W X e (eC d) := by
  refine PE.imp h fun σ H Q q => ?_
  obtain ⟨κ, ρ, μ, he, hs, hw⟩ := q
  exact hw κ H Ext.refl hs v (r κ H)

abbrev V1 := DV → Sto → Option DV
abbrev V2 := DV → DV → Sto → Option DV
/-- a reading by values: the result may be new, the store stays -/
def rOut (g : Gc) (κ : KA) (H : Hp) (μ : Sto) (o : Option DV) (Q : VK) : Prop := match o with
  | some z => ∀ κ' H', Ext κ H κ' H' → StoOk g κ' H' μ → ∀ v, Rel g κ' H' z v → Q v H'
  | none => False
def r2 (g : Gc) (f : V2) : R2 := fun x y H Q => ∃ κ d e μ, Rel g κ H d x ∧ Rel g κ H e y ∧ StoOk g κ H μ ∧ rOut g κ H μ (f d e μ) Q
def r1 (g : Gc) (f : V1) : V → Hp → VK → Prop := fun x H Q => ∃ κ d μ, Rel g κ H d x ∧ StoOk g κ H μ ∧ rOut g κ H μ (f d μ) Q
def eUn (f : V1) (a : DE) : DE := fun ρ μ => (a ρ μ).bind fun x μ1 => R.of (f x μ1) μ1
def eBin (f : V2) (a b : DE) : DE := fun ρ μ => (a ρ μ).bind fun x μ1 => (b ρ μ1).bind fun y μ2 => R.of (f x y μ2) μ2
theorem out_of {κ : KA} {H : Hp} {μ : Sto} {o : Option DV} {Q : VK} {σ : L2.St} (h : wpR g W σ κ H (R.of o μ) (fun d _ κ' H' => ∀ v, Rel g κ' H' d v → Q v H')) : rOut g κ H μ o Q := by
  cases o with
  | none => exact h
  | some z => exact h
theorem ge_un {f : V1} {op : UnaryOp} (ho : UnR X (unaryOp op) (r1 g f)) (ha : GE g W X a fa) : GE g W X (.UnaryOp op a pos) (eUn f fa) := by
  refine PE.imp (pe_un ho ha) fun σ H Q q => ?_
  obtain ⟨κ, ρ, μ, he, hs, hw⟩ := q
  refine ⟨κ, ρ, μ, he, hs, hw.bind.mono fun x μ1 κ1 H1 e1 s1 h1 v rv => ?_⟩
  exact ⟨κ1, x, μ1, rv, s1, out_of h1⟩
theorem bin_read {f : V2} {r : R2} (hr : ∀ x y H Q, r2 g f x y H Q → r x y H Q) {σ : L2.St} {H : Hp} {Q : VK} (q : tE g W (eBin f fa fb) σ H Q) : tOp r (tE g W fa) (tE g W fb) σ H Q := by
  obtain ⟨κ, ρ, μ, he, hs, hw⟩ := q
  refine ⟨κ, ρ, μ, he, hs, hw.bind.mono fun x μ1 κ1 H1 e1 s1 h1 v rv => ?_⟩
  refine ⟨κ1, ρ, μ1, he.ext e1, s1, h1.bind.mono fun y μ2 κ2 H2 e2 s2 h2 w rw => ?_⟩
  exact hr _ _ _ _ ⟨κ2, x, y, μ2, rv.ext e2, rw, s2, out_of h2⟩
theorem ge_bin {f : V2} {op : Operator} (ho : OpR X (binaryOp op) (r2 g f)) (ha : GE g W X a fa) (hb : GE g W X b fb) : GE g W X (.BinOp a op b pos) (eBin f fa fb) :=
  PE.imp (pe_op ho ha hb) fun _ _ _ q => bin_read (fun _ _ _ _ h => h) q
theorem ge_cmp {f : V2} {op : CmpOp} (ho : OpR X (compareOp op) (r2 g f)) (ha : GE g W X a fa) (hb : GE g W X b fb) (hm : behindInMarks op b = false) : GE g W X (.Compare a [op] [b] pos) (eBin f fa fb) :=
  PE.imp (pe_cmpR ho ha hb hm) fun _ _ _ q => bin_read (fun _ _ _ _ h => h) q

/-- a value that is a bool, as a test -/
def asB : DV → Option Bool
  | .bl b => some b
  | _ => none
def tB' (f : DE) : DT := fun ρ μ => (f ρ μ).bind fun d μ1 => R.of (asB d) μ1
theorem asB_eq {d : DV} {k : Bool} (h : asB d = some k) : d = .bl k := by
  cases d <;> simp [asB] at h
  subst h; rfl
theorem test_read {t : TE} {f : DE} (ht : ∀ σ H Q, tE g W f σ H Q → t σ H Q) {σ : L2.St} {H : Hp} {Q : Bool → Hp → Prop} (q : tT g W (tB' f) σ H Q) : t σ H (fun x H1 => ∃ c, x = .bl c ∧ Q c H1) := by
  obtain ⟨κ, ρ, μ, he, hs, hw⟩ := q
  refine ht _ _ _ ⟨κ, ρ, μ, he, hs, hw.bind.mono fun x μ1 κ1 H1 e1 s1 h1 v rv => ?_⟩
  cases k : asB x with
  | none => rw [k] at h1; exact h1.elim
  | some b =>
    rw [k] at h1
    have ex := asB_eq k
    subst ex
    simp only [Rel] at rv
    exact ⟨b, rv, h1 κ1 H1 Ext.refl s1⟩
theorem gt_cmp {f : V2} {op : CmpOp} (ho : OpR X (compareOp op) (r2 g f)) (ha : GE g W X a fa) (hb : GE g W X b fb) (hm : behindInMarks op b = false) : GT g W X (.Compare a [op] [b] pos) (tB' (eBin f fa fb)) :=
  PT.imp (pt_cmpR ho ha hb hm) fun _ _ _ q => test_read (fun _ _ _ z => bin_read (fun _ _ _ _ h => h) z) q
theorem gt_val {f : DE} (h : GE g W X e f) (he : ∀ whole, isTrue e X.env whole = (do let v ← whole; standAt e.pos; holding [v] (truthy v)) := by intro _; rfl) : GT g W X e (tB' f) :=
  PT.imp (pt_val h he) fun _ _ _ q => test_read (fun _ _ _ z => z) q
/-- the chain a < b < c -/
def eChain (f f' : V2) (a b c : DE) : DE := fun ρ μ => (a ρ μ).bind fun x μ1 => (b ρ μ1).bind fun y μ2 => (R.of ((f x y μ2).bind asB) μ2).bind fun k μ3 =>
  if k = true then (c ρ μ3).bind fun z μ4 => R.of (f' y z μ4) μ4 else .ok (.bl false) μ3
variable {ft fu : DT} {rest : List Expr}
def tAnd' (t u : DT) : DT := fun ρ μ => (t ρ μ).bind fun b μ1 => if b = true then u ρ μ1 else .ok false μ1
def tOr' (t u : DT) : DT := fun ρ μ => (t ρ μ).bind fun b μ1 => if b = true then .ok true μ1 else u ρ μ1
def tNot' (t : DT) : DT := fun ρ μ => (t ρ μ).bind fun b μ1 => .ok (!b) μ1
theorem gw_and1 (ha : GT g W X a ft) : GW g W X (.BoolOp .And [a] pos) ft := pw_and1 ha
theorem gw_or1 (ha : GT g W X a ft) : GW g W X (.BoolOp .Or [a] pos) ft := pw_or1 ha
theorem gw_and (ha : GT g W X a ft) (hb : GW g W X (.BoolOp .And (b :: rest) pos) fu) : GW g W X (.BoolOp .And (a :: b :: rest) pos) (tAnd' ft fu) := by
  refine PW.imp (pw_and ha hb) fun σ H Q q => ?_
  obtain ⟨κ, ρ, μ, he, hs, hw⟩ := q
  refine ⟨κ, ρ, μ, he, hs, hw.bind.mono fun k μ1 κ1 H1 e1 s1 h1 => ?_⟩
  cases k with
  | true => rw [if_pos rfl] at h1 ⊢; exact ⟨κ1, ρ, μ1, he.ext e1, s1, h1⟩
  | false => rw [if_neg (by decide)] at h1 ⊢; exact h1 κ1 H1 Ext.refl s1
theorem gw_or (ha : GT g W X a ft) (hb : GW g W X (.BoolOp .Or (b :: rest) pos) fu) : GW g W X (.BoolOp .Or (a :: b :: rest) pos) (tOr' ft fu) := by
  refine PW.imp (pw_or ha hb) fun σ H Q q => ?_
  obtain ⟨κ, ρ, μ, he, hs, hw⟩ := q
  refine ⟨κ, ρ, μ, he, hs, hw.bind.mono fun k μ1 κ1 H1 e1 s1 h1 => ?_⟩
  cases k with
  | true => rw [if_pos rfl] at h1 ⊢; exact h1 κ1 H1 Ext.refl s1
  | false => rw [if_neg (by decide)] at h1 ⊢; exact ⟨κ1, ρ, μ1, he.ext e1, s1, h1⟩
theorem gt_not (ha : GT g W X a ft) : GT g W X (.UnaryOp .Not a pos) (tNot' ft) := by
  refine PT.imp (pt_not ha) fun σ H Q q => ?_
  obtain ⟨κ, ρ, μ, he, hs, hw⟩ := q
  exact ⟨κ, ρ, μ, he, hs, hw.bind.mono fun k μ1 κ1 H1 e1 s1 h1 => h1 κ1 H1 Ext.refl s1⟩
/-- as values: all but the last are bools -/
def eAnd (a b : DE) : DE := fun ρ μ => (a ρ μ).bind fun x μ1 => (R.of (asB x) μ1).bind fun k μ2 => if k = true then b ρ μ2 else .ok (.bl false) μ2
def eOr (a b : DE) : DE := fun ρ μ => (a ρ μ).bind fun x μ1 => (R.of (asB x) μ1).bind fun k μ2 => if k = true then .ok (.bl true) μ2 else b ρ μ2
def eNot (a : DE) : DE := fun ρ μ => (a ρ μ).bind fun x μ1 => (R.of (asB x) μ1).bind fun k μ2 => .ok (.bl (!k)) μ2
theorem asB_read {α : Type} {σ : L2.St} {κ : KA} {H : Hp} {x : DV} {μ : Sto} {k : Bool → Sto → R α} {Φ : α → Sto → KA → Hp → Prop} {v : V} (s : StoOk g κ H μ) (rv : Rel g κ H x v) (h : wpR g W σ κ H ((R.of (asB x) μ).bind k) Φ) :
    ∃ b, v = .bl b ∧ wpR g W σ κ H (k b μ) Φ := by
  cases e : asB x with
  | none => rw [e] at h; exact h.elim
  | some b =>
    rw [e] at h
    have ex := asB_eq e
    subst ex
    simp only [Rel] at rv
    exact ⟨b, rv, h⟩
theorem ge_one {op} {f : DE} (h : GE g W X a f) : GE g W X (.BoolOp op [a] pos) f := pe_one h
theorem ge_and (ha : GE g W X a fa) (hb : GE g W X (.BoolOp .And (b :: rest) pos) fb) : GE g W X (.BoolOp .And (a :: b :: rest) pos) (eAnd fa fb) := by
  refine PE.imp (pe_and ha hb) fun σ H Q q => ?_
  obtain ⟨κ, ρ, μ, he, hs, hw⟩ := q
  refine ⟨κ, ρ, μ, he, hs, hw.bind.mono fun x μ1 κ1 H1 e1 s1 h1 v rv => ?_⟩
  obtain ⟨k, ev, h2⟩ := asB_read s1 rv h1
  refine ⟨k, ev, ?_⟩
  cases k with
  | true => rw [if_pos rfl] at h2 ⊢; exact ⟨κ1, ρ, μ1, he.ext e1, s1, h2⟩
  | false => rw [if_neg (by decide)] at h2 ⊢; exact h2 κ1 H1 Ext.refl s1 (.bl false) (by simp [Rel])
theorem ge_not (ha : GE g W X a fa) : GE g W X (.UnaryOp .Not a pos) (eNot fa) := by
  refine PE.imp (pe_not ha) fun σ H Q q => ?_
  obtain ⟨κ, ρ, μ, he, hs, hw⟩ := q
  refine ⟨κ, ρ, μ, he, hs, hw.bind.mono fun x μ1 κ1 H1 e1 s1 h1 v rv => ?_⟩
  obtain ⟨k, ev, h2⟩ := asB_read s1 rv h1
  exact ⟨k, ev, h2 κ1 H1 Ext.refl s1 (.bl (!k)) (by simp [Rel])⟩
def eIf (t : DT) (a b : DE) : DE := fun ρ μ => (t ρ μ).bind fun k μ1 => if k = true then a ρ μ1 else b ρ μ1
theorem ge_ifExp (hc : GT g W X c ft) (ha : GE g W X a fa) (hb : GE g W X b fb) : GE g W X (.IfExp c a b pos) (eIf ft fa fb) := by
  refine PE.imp (pe_ifExp hc ha hb) fun σ H Q q => ?_
  obtain ⟨κ, ρ, μ, he, hs, hw⟩ := q
  refine ⟨κ, ρ, μ, he, hs, hw.bind.mono fun k μ1 κ1 H1 e1 s1 h1 => ?_⟩
  cases k with
  | true => rw [if_pos rfl] at h1 ⊢; exact ⟨κ1, ρ, μ1, he.ext e1, s1, h1⟩
  | false => rw [if_neg (by decide)] at h1 ⊢; exact ⟨κ1, ρ, μ1, he.ext e1, s1, h1⟩

variable {fr : DA}
def aNil : DA := fun _ μ => .ok [] μ
def aCons (a : DE) (r : DA) : DA := fun ρ μ => (a ρ μ).bind fun x μ1 => (r ρ μ1).bind fun xs μ2 => .ok (x :: xs) μ2
theorem ga_nil : GA g W X [] aNil := PA.imp pa_nil fun σ H Q q => by
  obtain ⟨κ, ρ, μ, he, hs, hw⟩ := q
  exact hw κ H Ext.refl hs [] RelL.nil
theorem ga_cons (ha : GE g W X e fa) (hr : GA g W X es fr) (hs : starEach (e :: es) X.env = (false, eval e X.env) :: starEach es X.env := by rfl) : GA g W X (e :: es) (aCons fa fr) := by
  refine PA.imp (pa_cons ha hr hs) fun σ H Q q => ?_
  obtain ⟨κ, ρ, μ, he, hs, hw⟩ := q
  refine ⟨κ, ρ, μ, he, hs, hw.bind.mono fun x μ1 κ1 H1 e1 s1 h1 v rv => ?_⟩
  refine ⟨κ1, ρ, μ1, he.ext e1, s1, h1.bind.mono fun xs μ2 κ2 H2 e2 s2 h2 vs rvs => ?_⟩
  exact h2 κ2 H2 Ext.refl s2 (v :: vs) (RelL.cons (rv.ext e2) rvs)
/-- a list's length lets it be -/
def okLen (n : Nat) : Bool := decide (n ≤ sizeLine)
def eTup (r : DA) : DE := fun ρ μ => (r ρ μ).bind fun xs μ1 => if okLen xs.length = true then .ok (.tup xs) μ1 else .stuck
/-- a list that never changes -/
def eLst (r : DA) : DE := fun ρ μ => (r ρ μ).bind fun xs μ1 => if okLen xs.length = true then .ok (.lst xs) μ1 else .stuck
/-- a list that may change -/
def eLstC (r : DA) : DE := fun ρ μ => (r ρ μ).bind fun xs μ1 => if okLen xs.length = true then .ok (.cell μ1.length) (μ1 ++ [.lst xs]) else .stuck
theorem rel_tup {κ : KA} {H : Hp} {p : Addr} {xs : List DV} {vs : List V} {μ : Sto} {ob : Obj} (s : StoOk g κ H μ) (hp : H p = none) (hd : ob.dict = none) (r : RelL g κ H xs vs) : Rel g κ (upd H p (.frz ob (.tup vs))) (.tup xs) (.ref p) := by
  simp only [Rel]
  exact ⟨p, vs, rfl, .inl ⟨ob, hd, upd_same, s.fresh hp⟩, r.ext (Ext.new s hp)⟩
theorem rel_lst {κ : KA} {H : Hp} {p : Addr} {xs : List DV} {vs : List V} {μ : Sto} (s : StoOk g κ H μ) (hp : H p = none) (r : RelL g κ H xs vs) : Rel g κ (upd H p (.lst vs)) (.lst xs) (.ref p) := by
  simp only [Rel]
  exact ⟨p, vs, rfl, ⟨upd_same, s.fresh hp⟩, r.ext (Ext.new s hp)⟩
theorem ge_tup {k : Nat} (h : GA g W X es fr) : GE g W X (.Tuple es k pos) (eTup fr) := by
  refine PE.imp (pe_tupF h) fun σ H Q q => ?_
  obtain ⟨κ, ρ, μ, he, hs, hw⟩ := q
  refine ⟨κ, ρ, μ, he, hs, hw.bind.mono fun xs μ1 κ1 H1 e1 s1 h1 vs rv => ?_⟩
  by_cases hl : okLen xs.length = true
  · rw [if_pos hl] at h1
    refine ⟨by rw [← rv.length]; simpa [okLen] using hl, fun p ob hp hd => ?_⟩
    exact h1 κ1 _ (Ext.new s1 hp) (s1.new hp) _ (rel_tup s1 hp hd rv)
  · rw [if_neg hl] at h1; exact h1.elim
theorem ge_lst (h : GA g W X es fr) : GE g W X (.List es pos) (eLst fr) := by
  refine PE.imp (pe_lst h) fun σ H Q q => ?_
  obtain ⟨κ, ρ, μ, he, hs, hw⟩ := q
  refine ⟨κ, ρ, μ, he, hs, hw.bind.mono fun xs μ1 κ1 H1 e1 s1 h1 vs rv => ?_⟩
  by_cases hl : okLen xs.length = true
  · rw [if_pos hl] at h1
    refine ⟨by rw [← rv.length]; simpa [okLen] using hl, fun p hp => ?_⟩
    exact h1 κ1 _ (Ext.new s1 hp) (s1.new hp) _ (rel_lst s1 hp rv)
  · rw [if_neg hl] at h1; exact h1.elim
theorem cell_new {κ : KA} {H : Hp} {p : Addr} {xs : List DV} {vs : List V} {μ : Sto} (s : StoOk g κ H μ) (hp : H p = none) (r : RelL g κ H xs vs) :
    StoOk g (κ.more p) (upd H p (.lst vs)) (μ ++ [.lst xs]) ∧ Rel g (κ.more p) (upd H p (.lst vs)) (.cell μ.length) (.ref p) := by
  refine ⟨s.newCell hp ⟨p, vs, rfl, upd_same, r.ext (Ext.newCell s hp)⟩, ?_⟩
  simp only [Rel]
  refine ⟨by simp [s.len, KA.more], fun a ha => ?_⟩
  have ha : (κ.cs ++ [some p])[μ.length]? = some (some a) := ha
  rw [← s.len, List.getElem?_append_right (Nat.le_refl _)] at ha
  simp at ha
  rw [ha]
theorem ge_lstC (h : GA g W X es fr) : GE g W X (.List es pos) (eLstC fr) := by
  refine PE.imp (pe_lst h) fun σ H Q q => ?_
  obtain ⟨κ, ρ, μ, he, hs, hw⟩ := q
  refine ⟨κ, ρ, μ, he, hs, hw.bind.mono fun xs μ1 κ1 H1 e1 s1 h1 vs rv => ?_⟩
  by_cases hl : okLen xs.length = true
  · rw [if_pos hl] at h1
    refine ⟨by rw [← rv.length]; simpa [okLen] using hl, fun p hp => ?_⟩
    obtain ⟨s2, r2⟩ := cell_new s1 hp rv
    exact h1 _ _ (Ext.newCell s1 hp) s2 _ r2
  · rw [if_neg hl] at h1; exact h1.elim

abbrev VN := List DV → Sto → Option DV
def rN (g : Gc) (f : VN) : List V → Hp → VK → Prop := fun xs H Q => ∃ κ ds μ, RelL g κ H ds xs ∧ StoOk g κ H μ ∧ rOut g κ H μ (f ds μ) Q
def eFn (f : VN) (r : DA) : DE := fun ρ μ => (r ρ μ).bind fun xs μ1 => R.of (f xs μ1) μ1
theorem fn_read {f : VN} {σ : L2.St} {H : Hp} {Q : VK} (q : tE g W (eFn f fr) σ H Q) : tA g W fr σ H (fun vs H1 => rN g f vs H1 Q) := by
  obtain ⟨κ, ρ, μ, he, hs, hw⟩ := q
  exact ⟨κ, ρ, μ, he, hs, hw.bind.mono fun xs μ1 κ1 H1 e1 s1 h1 vs rv => ⟨κ1, xs, μ1, rv, s1, out_of h1⟩⟩
variable {x : Str} {p : Pos}
theorem ge_callB {f : VN} {id : String} (hc : CallR X (.builtin id) (rN g f)) (hg : Gl X x) (hm : X.mg x = none) (hv : bootBuiltins x = some (.builtin id)) (ha : GA g W X (e :: es) fr) (hn : x ≠ "__name__" := by decide) (hdb : (x == ("__debug__" : Str)) = false := by decide)
    (he : starEach (e :: es) X.env = (false, eval e X.env) :: starEach es X.env := by rfl) (hpl : (backTo pos (starEach es X.env)).any (·.1) = false := by rfl) : GE g W X (.Call (.Name x p) (e :: es) [] pos) (eFn f fr) :=
  PE.imp (pe_callB hc hg hm hv ha hn hdb he hpl) fun _ _ _ q => fn_read q
theorem ge_callTy {f : VN} {T : String} (hc : CallR X (.type T) (rN g f)) (hg : Gl X x) (hm : X.mg x = none) (hv : bootBuiltins x = some (.type T)) (ha : GA g W X (e :: es) fr) (hn : x ≠ "__name__" := by decide) (hdb : (x == ("__debug__" : Str)) = false := by decide)
    (he : starEach (e :: es) X.env = (false, eval e X.env) :: starEach es X.env := by rfl) (hpl : (backTo pos (starEach es X.env)).any (·.1) = false := by rfl) : GE g W X (.Call (.Name x p) (e :: es) [] pos) (eFn f fr) :=
  PE.imp (pe_callTy hc hg hm hv ha hn hdb he hpl) fun _ _ _ q => fn_read q

theorem ge_ix {f : V2} (hr : IxR X (r2 g f)) (ha : GE g W X a fa) (hb : GE g W X b fb) (hs : PlainIx b := by intro _ _; rfl) : GE g W X (.Subscript a b pos) (eBin f fa fb) :=
  PE.imp (pe_ix hr ha hb hs) fun _ _ _ q => bin_read (fun _ _ _ _ h => h) q
abbrev DO := En → Sto → R (Option Int)
def tO (g : Gc) (W : WX) (f : DO) : TO := fun σ H Q => ∃ κ ρ μ, RelE g κ H ρ σ ∧ StoOk g κ H μ ∧ wpR g W σ κ H (f ρ μ) (fun o _ _ H' => Q o H')
abbrev GO (g : Gc) (W : WX) (X : Cx) (e : Option Expr) (f : DO) : Prop := PO X e (tO g W f)
theorem PO.imp {X : Cx} {e : Option Expr} {t u : TO} (h : PO X e t) (f : ∀ σ H Q, u σ H Q → t σ H Q) : PO X e u := ⟨fun pins s σ H Q I q => h.run pins s σ H Q I (f _ _ _ q)⟩
def oNone : DO := fun _ μ => .ok none μ
def asI : DV → Option Int
  | .int i => some i
  | _ => none
theorem asI_eq {d : DV} {k : Int} (h : asI d = some k) : d = .int k := by
  cases d <;> simp [asI] at h
  subst h; rfl
def oSome (a : DE) : DO := fun ρ μ => (a ρ μ).bind fun x μ1 => (R.of (asI x) μ1).bind fun i μ2 => .ok (some i) μ2
theorem go_none : GO g W X none oNone := PO.imp po_none fun σ H Q q => by
  obtain ⟨κ, ρ, μ, he, hs, hw⟩ := q
  exact hw κ H Ext.refl hs
theorem go_some (h : GE g W X e fa) : GO g W X (some e) (oSome fa) := PO.imp (po_some h) fun σ H Q q => by
  obtain ⟨κ, ρ, μ, he, hs, hw⟩ := q
  refine ⟨κ, ρ, μ, he, hs, hw.bind.mono fun x μ1 κ1 H1 e1 s1 h1 v rv => ?_⟩
  cases k : asI x with
  | none => rw [k] at h1; exact h1.elim
  | some i =>
    rw [k] at h1
    have ex := asI_eq k
    subst ex
    simp only [Rel] at rv
    exact ⟨i, rv, h1 κ1 H1 Ext.refl s1⟩
abbrev VSl := DV → Option Int → Option Int → Sto → Option DV
def rSl (g : Gc) (f : VSl) : V → Option Int → Option Int → Hp → VK → Prop := fun x lo hi H Q => ∃ κ d μ, Rel g κ H d x ∧ StoOk g κ H μ ∧ rOut g κ H μ (f d lo hi μ) Q
def eSl (f : VSl) (a : DE) (lo hi : DO) : DE := fun ρ μ => (a ρ μ).bind fun x μ1 => (lo ρ μ1).bind fun l μ2 => (hi ρ μ2).bind fun u μ3 => R.of (f x l u μ3) μ3
theorem ge_slice {f : VSl} {lo hi : Option Expr} {fl fh : DO} {p2 : Pos} (hr : SlR X (rSl g f)) (ha : GE g W X a fa) (hl : GO g W X lo fl) (hh : GO g W X hi fh) : GE g W X (.Subscript a (.Slice lo hi none p2) pos) (eSl f fa fl fh) := by
  refine PE.imp (pe_slice hr ha hl hh) fun σ H Q q => ?_
  obtain ⟨κ, ρ, μ, he, hs, hw⟩ := q
  refine ⟨κ, ρ, μ, he, hs, hw.bind.mono fun x μ1 κ1 H1 e1 s1 h1 v rv => ?_⟩
  refine ⟨κ1, ρ, μ1, he.ext e1, s1, h1.bind.mono fun l μ2 κ2 H2 e2 s2 h2 => ?_⟩
  refine ⟨κ2, ρ, μ2, (he.ext e1).ext e2, s2, h2.bind.mono fun u μ3 κ3 H3 e3 s3 h3 => ?_⟩
  exact ⟨κ3, x, μ3, rv.ext (e2.trans e3), s3, out_of h3⟩

abbrev VM := DV → List DV → Sto → Option (DV × Sto)
def rOutS (g : Gc) (κ : KA) (H : Hp) (o : Option (DV × Sto)) (Q : VK) : Prop := match o with
  | some (z, μ') => ∀ κ' H', Ext κ H κ' H' → StoOk g κ' H' μ' → ∀ v, Rel g κ' H' z v → Q v H'
  | none => False
def rM (g : Gc) (f : VM) : V → List V → Hp → VK → Prop := fun x xs H Q => ∃ κ d ds μ, Rel g κ H d x ∧ RelL g κ H ds xs ∧ StoOk g κ H μ ∧ rOutS g κ H (f d ds μ) Q
/-- the receiver's type, as the method's lookup wants it -/
def recv (T : String) (d : DV) (μ : Sto) : Bool := match d with
  | .str _ => T == "str"
  | .lst _ => T == "list"
  | .scr _ => T == "list"
  | .cell i => match μ[i]? with
    | some (.lst _) => T == "list"
    | _ => false
  | _ => false
theorem recv_ty {κ : KA} {H : Hp} {T : String} {d : DV} {v : V} {μ : Sto} (s : StoOk g κ H μ) (r : Rel g κ H d v) (h : recv T d μ = true) : tyV g.K T v H := by
  cases d with
  | str x => simp only [Rel] at r; subst r; exact beq_iff_eq.mp h
  | lst xs =>
    simp only [Rel] at r
    obtain ⟨a, vs, rfl, h2, h3⟩ := r
    exact .inl ⟨beq_iff_eq.mp h, vs, .inl (.inl h2.1)⟩
  | scr xs =>
    simp only [Rel] at r
    obtain ⟨a, vs, rfl, h2, h3⟩ := r
    exact .inl ⟨beq_iff_eq.mp h, vs, h2.sq⟩
  | cell i =>
    simp only [recv] at h
    cases e : μ[i]? with
    | none => rw [e] at h; cases h
    | some c =>
      rw [e] at h
      cases c with
      | lst xs =>
        simp only [Rel] at r
        obtain ⟨a, h1, h2⟩ := s.at_ i _ e
        obtain ⟨p, vs, rfl, h3, h4⟩ := h2
        rw [r.2 p h1]
        exact .inl ⟨beq_iff_eq.mp h, vs, .inl (.inl h3)⟩
      | _ => cases h
  | _ => cases h
def eBm (T : String) (f : VM) (o : DE) (r : DA) : DE := fun ρ μ => (o ρ μ).bind fun x μ1 => if recv T x μ1 = true then (r ρ μ1).bind fun xs μ2 => R.ofS (f x xs μ2) else .stuck
theorem outS_of {κ : KA} {H : Hp} {o : Option (DV × Sto)} {Q : VK} {σ : L2.St} (h : wpR g W σ κ H (R.ofS o) (fun d _ κ' H' => ∀ v, Rel g κ' H' d v → Q v H')) : rOutS g κ H o Q := by
  cases o with
  | none => exact h
  | some z => exact h
theorem ge_bm {T name' id : String} {name : Str} {f : VM} {o : Expr} {fo : DE} {apos cpos : Pos} (xg : XG g X) (pa : PlainAttrs T) (slot : Slot T name id) (hty : typeOf (.builtin id) = pure (.type "method_descriptor")) (hm : MtR X id (rM g f)) (ho : GE g W X o fo) (ha : GA g W X (e :: es) fr)
    (hbase : attributeBase o name X.env (eval o X.env) = eval o X.env := by rfl)
    (hfew : ((backTo cpos (starEach (e :: es) X.env)).all (fun x => !x.1) && (backToKw cpos (keywordEach [] X.env)).all (fun x => x.1.isSome)
      && decide ((e :: es).length + ([] : List Keyword).length + (if ([] : List Keyword).isEmpty then 0 else 1) < 30)) = true := by rfl)
    (hline : (apos.endLine == cpos.line) = true := by rfl) (hs : starEach (e :: es) X.env = (false, eval e X.env) :: starEach es X.env := by rfl) (hplain : (backTo cpos (starEach es X.env)).any (·.1) = false := by rfl) :
    GE g W X (.Call (.Attribute o name apos) (e :: es) [] cpos) (eBm T f fo fr) := by
  refine PE.imp (pe_bm pa slot hty hm ho ha hbase hfew hline hs hplain) fun σ H Q q => ?_
  obtain ⟨κ, ρ, μ, he, hs, hw⟩ := q
  refine ⟨κ, ρ, μ, he, hs, hw.bind.mono fun x μ1 κ1 H1 e1 s1 h1 v rv => ?_⟩
  by_cases hr : recv T x μ1 = true
  · rw [if_pos hr] at h1
    refine ⟨by rw [xg.K]; exact recv_ty s1 rv hr, κ1, ρ, μ1, he.ext e1, s1, h1.bind.mono fun xs μ2 κ2 H2 e2 s2 h2 vs rvs => ?_⟩
    exact ⟨κ2, x, xs, μ2, rv.ext e2, rvs, s2, outS_of h2⟩
  · rw [if_neg hr] at h1; exact h1.elim
def eBm0 (T : String) (f : VM) (o : DE) : DE := fun ρ μ => (o ρ μ).bind fun x μ1 => if recv T x μ1 = true then R.ofS (f x [] μ1) else .stuck
theorem FrT.tupF {κ : KA} {H : Hp} {a : Addr} {vs : List V} (h : FrT g κ H a vs) : TupF g.K H a vs := by
  rcases h with ⟨ob, d, h⟩ | h
  · exact .inl ⟨ob, d, h.1⟩
  · exact .inr h
end
end SD

set_option Elab.async false
set_option linter.all false
set_option maxRecDepth 100000
set_option maxHeartbeats 4000000
namespace SD
open PySem PySem.Spec PyProof.Rows L2

inductive SR where
  | nx (ρ : En) (μ : Sto) | bk (ρ : En) (μ : Sto) | ct (ρ : En) (μ : Sto)
  | rt (d : DV) (μ : Sto)
  | ex (c : Nat) (ns : List Str) (xs : List DV) (ρ : En) (μ : Sto)
  | stuck
abbrev DS := En → Sto → SR
def R.toS {α : Type} (r : R α) (ρ : En) (k : α → Sto → SR) : SR := match r with
  | .ok a μ => k a μ
  | .ex c ns xs μ => .ex c ns xs ρ μ
  | .stuck => .stuck
def wpS (g : Gc) (W : WX) (D : Ends) (κ : KA) (H : Hp) (r : SR) : Prop := match r with
  | .nx ρ μ => ∀ κ' H' σ', Ext κ H κ' H' → StoOk g κ' H' μ → RelE g κ' H' ρ σ' → D.nx σ' H'
  | .bk ρ μ => ∀ κ' H' σ', Ext κ H κ' H' → StoOk g κ' H' μ → RelE g κ' H' ρ σ' → D.bk σ' H'
  | .ct ρ μ => ∀ κ' H' σ', Ext κ H κ' H' → StoOk g κ' H' μ → RelE g κ' H' ρ σ' → D.ct σ' H'
  | .rt d μ => ∀ κ' H' v, Ext κ H κ' H' → StoOk g κ' H' μ → Rel g κ' H' d v → D.rt v H'
  | .ex c ns xs ρ μ => ∀ κ' H' σ', Ext κ H κ' H' → StoOk g κ' H' μ → RelE g κ' H' ρ σ' → ∀ d vs, At κ' H' d (.xd (ns.zip vs)) → ns.length = vs.length → RelL g κ' H' xs vs → W (.ref (g.cls c)) (some d) σ' H'
  | .stuck => False
section
variable {g : Gc} {W : WX} {D : Ends} {σ : L2.St} {κ κ1 : KA} {H H1 : Hp} {ρ : En} {μ : Sto}
theorem wpS.ext {r : SR} (e : Ext κ H κ1 H1) (h : wpS g W D κ H r) : wpS g W D κ1 H1 r := by
  cases r with
  | nx ρ μ => intro κ' H' σ' e2 s q; exact h κ' H' σ' (e.trans e2) s q
  | bk ρ μ => intro κ' H' σ' e2 s q; exact h κ' H' σ' (e.trans e2) s q
  | ct ρ μ => intro κ' H' σ' e2 s q; exact h κ' H' σ' (e.trans e2) s q
  | rt d μ => intro κ' H' v e2 s q; exact h κ' H' v (e.trans e2) s q
  | ex c ns xs ρ μ => intro κ' H' σ' e2 s q; exact h κ' H' σ' (e.trans e2) s q
  | stuck => exact h
theorem wpS.bind {α : Type} {r : R α} {k : α → Sto → SR} (he : RelE g κ H ρ σ) (h : wpS g W D κ H (r.toS ρ k)) : wpR g W σ κ H r (fun a μ' κ' H' => wpS g W D κ' H' (k a μ')) := by
  cases r with
  | ok a μ' => intro κ' H' e s; exact wpS.ext e h
  | ex c ns xs μ' => intro κ' H' e s d vs h1 h2 h3; exact h κ' H' σ e s (he.ext e) d vs h1 h2 h3
  | stuck => exact h
/-- the ends changed -/
theorem wpS.ends {D' : Ends} {r : SR} (h : wpS g W D κ H r)
    (hn : ∀ ρ' μ', r = .nx ρ' μ' → ∀ κ' H' σ', Ext κ H κ' H' → StoOk g κ' H' μ' → RelE g κ' H' ρ' σ' → D'.nx σ' H')
    (hb : ∀ ρ' μ', r = .bk ρ' μ' → ∀ κ' H' σ', Ext κ H κ' H' → StoOk g κ' H' μ' → RelE g κ' H' ρ' σ' → D'.bk σ' H')
    (hc : ∀ ρ' μ', r = .ct ρ' μ' → ∀ κ' H' σ', Ext κ H κ' H' → StoOk g κ' H' μ' → RelE g κ' H' ρ' σ' → D'.ct σ' H')
    (hr : D'.rt = D.rt) : wpS g W D' κ H r := by
  cases r with
  | nx ρ μ => exact hn ρ μ rfl
  | bk ρ μ => exact hb ρ μ rfl
  | ct ρ μ => exact hc ρ μ rfl
  | rt d μ => intro κ' H' v e2 s q; rw [hr]; exact h κ' H' v e2 s q
  | ex c ns xs ρ μ => exact h
  | stuck => exact h
end
def tS (g : Gc) (W : WX) (f : DS) : TS := fun D σ H => ∃ κ ρ μ, RelE g κ H ρ σ ∧ StoOk g κ H μ ∧ wpS g W D κ H (f ρ μ)
abbrev GS (g : Gc) (W : WX) (X : Cx) (st : Stmt) (f : DS) : Prop := PS X st (tS g W f)
abbrev GSs (g : Gc) (W : WX) (X : Cx) (st : List Stmt) (f : DS) : Prop := PSs X st (tS g W f)

section
variable {g : Gc} {W : WX} {X : Cx} {a b c e : Expr} {es : List Expr} {fa fb fc : DE} {ft : DT} {fr : DA} {pos : Pos} {st : Stmt} {sts stb : List Stmt} {f h fs fu : DS}

def sNop : DS := fun ρ μ => .nx ρ μ
def sSeq (f h : DS) : DS := fun ρ μ => match f ρ μ with
  | .nx ρ' μ' => h ρ' μ'
  | r => r
theorem gss_nil : GSs g W X [] sNop := PSs.imp pss_nil fun D σ H q => by
  obtain ⟨κ, ρ, μ, he, hs, hw⟩ := q
  exact hw κ H σ Ext.refl hs he
theorem gss_cons (h1 : GS g W X st f) (h2 : GSs g W X sts h) : GSs g W X (st :: sts) (sSeq f h) := PSs.imp (pss_cons h1 h2) fun D σ H q => by
  obtain ⟨κ, ρ, μ, he, hs, hw⟩ := q
  refine ⟨κ, ρ, μ, he, hs, ?_⟩
  unfold sSeq at hw
  cases e : f ρ μ with
  | nx ρ' μ' =>
    rw [e] at hw
    intro κ' H' σ' e2 s2 q2
    exact ⟨κ', ρ', μ', q2, s2, hw.ext e2⟩
  | bk ρ' μ' => rw [e] at hw; exact hw
  | ct ρ' μ' => rw [e] at hw; exact hw
  | rt d μ' => rw [e] at hw; exact hw
  | ex c ns xs ρ' μ' => rw [e] at hw; exact hw
  | stuck => rw [e] at hw; exact hw
theorem gss_one (h1 : GS g W X st f) : GSs g W X [st] f := PSs.imp (pss_one h1) fun _ _ _ q => q
def sBrk : DS := fun ρ μ => .bk ρ μ
def sCnt : DS := fun ρ μ => .ct ρ μ
def sExpr (a : DE) : DS := fun ρ μ => (a ρ μ).toS ρ fun _ μ1 => .nx ρ μ1
theorem gs_expr (he : GE g W X e fa) (hs : swapsWith e none pos.line X.env = pure false := by rfl) : GS g W X (.Expr e pos) (sExpr fa) := PS.imp (ps_expr he hs) fun D σ H q => by
  obtain ⟨κ, ρ, μ, he, hs, hw⟩ := q
  exact ⟨κ, ρ, μ, he, hs, (wpS.bind he hw).mono fun d μ1 κ1 H1 e1 s1 h1 v _ => h1 κ1 H1 σ Ext.refl s1 (he.ext e1)⟩
def sRet (a : DE) : DS := fun ρ μ => (a ρ μ).toS ρ fun d μ1 => .rt d μ1
theorem gs_ret (he : GE g W X e fa) : GS g W X (.Return (some e) pos) (sRet fa) := PS.imp (ps_ret he) fun D σ H q => by
  obtain ⟨κ, ρ, μ, he, hs, hw⟩ := q
  exact ⟨κ, ρ, μ, he, hs, (wpS.bind he hw).mono fun d μ1 κ1 H1 e1 s1 h1 v rv => h1 κ1 H1 v Ext.refl s1 rv⟩
def sRetN : DS := fun _ μ => .rt .non μ
def sIf (t : DT) (f h : DS) : DS := fun ρ μ => (t ρ μ).toS ρ fun k μ1 => if k = true then f ρ μ1 else h ρ μ1
theorem gs_if (hc : GT g W X c ft) (ha : GSs g W X sts f) (hb : GSs g W X stb h) : GS g W X (.If c sts stb pos) (sIf ft f h) := PS.imp (ps_if hc ha hb) fun D σ H q => by
  obtain ⟨κ, ρ, μ, he, hs, hw⟩ := q
  refine ⟨κ, ρ, μ, he, hs, (wpS.bind he hw).mono fun k μ1 κ1 H1 e1 s1 h1 => ?_⟩
  cases k with
  | true => rw [if_pos rfl] at h1 ⊢; exact ⟨κ1, ρ, μ1, he.ext e1, s1, h1⟩
  | false => rw [if_neg (by decide)] at h1 ⊢; exact ⟨κ1, ρ, μ1, he.ext e1, s1, h1⟩
abbrev DG := DV → En → Sto → Option En
abbrev DGs := List DV → En → Sto → Option En
/-- sl: the slots that are stored -/
def tG (g : Gc) (sl : List Nat) (f : DG) : TG := fun v σ H Q => ∃ κ d ρ μ, Rel g κ H d v ∧ RelE g κ H ρ σ ∧ StoOk g κ H μ ∧ match f d ρ μ with
  | some ρ' => ∀ σ', RelE g κ H ρ' σ' → σ'.length = σ.length → (∀ i, i ∉ sl → σ'[i]? = σ[i]?) → Q σ' H
  | none => False
def tGs (g : Gc) (sl : List Nat) (f : DGs) : TGs := fun vs σ H Q => ∃ κ ds ρ μ, RelL g κ H ds vs ∧ RelE g κ H ρ σ ∧ StoOk g κ H μ ∧ match f ds ρ μ with
  | some ρ' => ∀ σ', RelE g κ H ρ' σ' → σ'.length = σ.length → (∀ i, i ∉ sl → σ'[i]? = σ[i]?) → Q σ' H
  | none => False
abbrev GG (g : Gc) (X : Cx) (tg : Expr) (sl : List Nat) (f : DG) : Prop := PG X tg (tG g sl f)
abbrev GGs (g : Gc) (X : Cx) (tg : List Expr) (sl : List Nat) (f : DGs) : Prop := PGs X tg (tGs g sl f)
theorem PG.imp {X : Cx} {e : Expr} {t u : TG} (h : PG X e t) (f : ∀ v σ H Q, u v σ H Q → t v σ H Q) : PG X e u := ⟨fun pins s σ H v w Q I r q => h.run pins s σ H v w Q I r (f _ _ _ _ q)⟩
theorem PGs.imp {X : Cx} {e : List Expr} {t u : TGs} (h : PGs X e t) (f : ∀ v σ H Q, u v σ H Q → t v σ H Q) : PGs X e u := ⟨fun pins s σ H v w Q I r q => h.run pins s σ H v w Q I r (f _ _ _ _ q)⟩
def gN (i : Nat) : DG := fun d ρ _ => some (ρ.set i (some d))
theorem gg_name {i : Nat} {x : Str} (h : PG X (.Name x pos) (gName i)) : GG g X (.Name x pos) [i] (gN i) := PG.imp h fun v σ H Q q => by
  obtain ⟨κ, d, ρ, μ, r, he, hs, hw⟩ := q
  refine hw _ (he.set r) (by simp) fun j hj => ?_
  rw [List.getElem?_set_ne (fun e => hj (by simp [e]))]
def gNil' : DGs := fun ds ρ _ => match ds with
  | [] => some ρ
  | _ => none
def gCons' (f : DG) (fs : DGs) : DGs := fun ds ρ μ => match ds with
  | [] => none
  | d :: r => (f d ρ μ).bind fun ρ' => fs r ρ' μ
theorem ggs_nil : GGs g X [] [] gNil' := PGs.imp pgs_nil fun vs σ H Q q => by
  obtain ⟨κ, ds, ρ, μ, r, he, hs, hw⟩ := q
  cases ds with
  | nil => exact ⟨r.of_nil, hw σ he rfl fun _ _ => rfl⟩
  | cons d ds => exact hw.elim
theorem ggs_cons {e : Expr} {es : List Expr} {t : DG} {u : DGs} {s1 s2 : List Nat} (h1 : GG g X e s1 t) (h2 : GGs g X es s2 u)
    (hs : (assignEach (e :: es) X.env).map (·.2) = assign e X.env :: (assignEach es X.env).map (·.2) := by rfl) : GGs g X (e :: es) (s1 ++ s2) (gCons' t u) := PGs.imp (pgs_cons h1 h2 hs) fun vs σ H Q q => by
  obtain ⟨κ, ds, ρ, μ, r, he, hs, hw⟩ := q
  cases ds with
  | nil => exact hw.elim
  | cons d ds =>
    obtain ⟨v, vr, rfl, rv, rr⟩ := r.of_cons
    refine ⟨v, vr, rfl, κ, d, ρ, μ, rv, he, hs, ?_⟩
    simp only [gCons'] at hw
    cases e : t d ρ μ with
    | none => rw [e] at hw; exact hw.elim
    | some ρ' =>
      rw [e] at hw
      intro σ' he' hl hk
      refine ⟨κ, ds, ρ', μ, rr, he', hs, ?_⟩
      have hw : match u ds ρ' μ with
        | some ρ' => ∀ σ', RelE g κ H ρ' σ' → σ'.length = σ.length → (∀ i, i ∉ s1 ++ s2 → σ'[i]? = σ[i]?) → Q σ' H
        | none => False := hw
      cases e2 : u ds ρ' μ with
      | none => rw [e2] at hw; exact hw
      | some ρ2 =>
        rw [e2] at hw
        exact fun σ2 he2 hl2 hk2 => hw σ2 he2 (hl2.trans hl) fun i hi => (hk2 i fun m => hi (List.mem_append_right _ m)).trans (hk i fun m => hi (List.mem_append_left _ m))
def asT : DV → Option (List DV)
  | .tup xs => some xs
  | _ => none
def gTup' (f : DGs) (n : Nat) : DG := fun d ρ μ => match asT d with
  | some xs => if xs.length = n then f xs ρ μ else none
  | none => none
theorem gg_tup {es : List Expr} {k : Nat} {t : DGs} {n : Nat} {sl : List Nat} (xg : XG g X) (hc : X.calm = true) (h : GGs g X es sl t)
    (hn : (assignEach es X.env).length = n := by rfl) (hst : (assignEach es X.env).findIdx? (·.1) = none := by rfl) : GG g X (.Tuple es k pos) sl (gTup' t n) := PG.imp (pg_tup hc h hn hst) fun v σ H Q q => by
  obtain ⟨κ, d, ρ, μ, r, he, hs, hw⟩ := q
  cases d with
  | tup xs =>
    simp only [Rel] at r
    obtain ⟨a, vs, rfl, h2, h3⟩ := r
    simp only [gTup', asT] at hw
    by_cases hl : xs.length = n
    · rw [if_pos hl] at hw
      exact ⟨a, vs, rfl, by rw [xg.K]; exact h2.sq, by rw [← h3.length]; exact hl, κ, xs, ρ, μ, h3, he, hs, hw⟩
    · rw [if_neg hl] at hw; exact hw.elim
  | _ => exact hw.elim
def sAsg (a : DE) (t : DG) : DS := fun ρ μ => (a ρ μ).toS ρ fun d μ1 => match t d ρ μ1 with
  | some ρ' => .nx ρ' μ1
  | none => .stuck
theorem asg_read {t : DG} {sl : List Nat} {D : Ends} {σ : L2.St} {H : Hp} (q : tS g W (sAsg fa t) D σ H) : tAsg (tE g W fa) (tG g sl t) D σ H := by
  obtain ⟨κ, ρ, μ, he, hs, hw⟩ := q
  refine ⟨κ, ρ, μ, he, hs, (wpS.bind he hw).mono fun d μ1 κ1 H1 e1 s1 h1 v rv => ?_⟩
  refine ⟨κ1, d, ρ, μ1, rv, he.ext e1, s1, ?_⟩
  cases e : t d ρ μ1 with
  | none => rw [e] at h1; exact h1.elim
  | some ρ' => rw [e] at h1; exact fun σ' he' _ _ => h1 κ1 H1 σ' Ext.refl s1 he'
theorem gs_asg {tg : Expr} {t : DG} {sl : List Nat} (he : GE g W X e fa) (hg : GG g X tg sl t) (hs : swapsWithSole [tg] e pos.line X.env = pure false := by rfl) (hw : swappedStores [tg] e X.env = pure none := by rfl)
    (h1 : (assignEach [tg] X.env).map (·.2) = [assign tg X.env] := by rfl) : GS g W X (.Assign [tg] e pos) (sAsg fa t) := PS.imp (ps_asg he hg hs hw h1) fun D σ H q => asg_read q
/-- x, y = a, b -/
def sPar (i j : Nat) (r : DA) : DS := fun ρ μ => (r ρ μ).toS ρ fun ds μ1 => match ds with
  | [d, e] => .nx ((ρ.set i (some d)).set j (some e)) μ1
  | _ => .stuck
/-- what is walked: an item's list that stays, or a cell that is read anew at each turn -/
inductive Wk where
  | fix (ds : List DV)
  | cell (i : Nat)
/-- the item at a turn; none inside: it is at its end -/
def wkAt : Wk → Sto → Nat → Option (Option DV)
  | .fix ds, _, k => some ds[k]?
  | .cell i, μ, k => match μ[i]? with
    | some (.lst xs) => some xs[k]?
    | _ => none
def wkLen : Wk → Sto → Nat
  | .fix ds, _ => ds.length
  | .cell i, μ => match μ[i]? with
    | some (.lst xs) => xs.length
    | _ => 0
/-- J walks it, whatever has come to pass since κ0, H0 -/
structure WkOk (g : Gc) (J : It) (κ0 : KA) (H0 : Hp) (w : Wk) : Prop where
  stop : ∀ k κ H μ, Ext0 κ0 H0 κ H → StoOk g κ H μ → wkAt w μ k = some none → J.stop k H
  go : ∀ k κ H μ d, Ext0 κ0 H0 κ H → StoOk g κ H μ → wkAt w μ k = some (some d) → J.go k H
  yld : ∀ k κ H μ d x H', Ext0 κ0 H0 κ H → StoOk g κ H μ → wkAt w μ k = some (some d) → J.yld k H x H' → Ext κ H κ H' ∧ StoOk g κ H' μ ∧ Rel g κ H' d x
abbrev DI := En → Sto → R Wk
def tI (g : Gc) (W : WX) (f : DI) : TI := fun σ H R => ∃ κ ρ μ, RelE g κ H ρ σ ∧ StoOk g κ H μ ∧ wpR g W σ κ H (f ρ μ) (fun k _ κ' H' => ∀ J, WkOk g J κ' H' k → R J H')
abbrev GI (g : Gc) (W : WX) (X : Cx) (tg iter : Expr) (f : DI) : Prop := PI X tg iter (tI g W f)
theorem PI.imp {X : Cx} {tg e : Expr} {t u : TI} (h : PI X tg e t) (f : ∀ σ H R, u σ H R → t σ H R) : PI X tg e u := ⟨fun pins s σ H R I q => h.run pins s σ H R I (f _ _ _ q)⟩
theorem PI.or {X : Cx} {tg e : Expr} {t u : TI} (h : PI X tg e t) (h' : PI X tg e u) : PI X tg e (fun σ H R => t σ H R ∨ u σ H R) := ⟨fun pins s σ H R I q => q.elim (h.run pins s σ H R I) (h'.run pins s σ H R I)⟩
/-- the items that a value gives when it is walked -/
def wkOf : DV → Sto → Option Wk
  | .lst xs, _ => some (.fix xs)
  | .scr xs, _ => some (.fix xs)
  | .tup xs, _ => some (.fix xs)
  | .str x, _ => some (.fix (x.cps.toList.map fun c => .str ⟨#[c]⟩))
  | .cell i, μ => match μ[i]? with
    | some (.lst _) => some (.cell i)
    | _ => none
  | _, _ => none
def iSeq (a : DE) : DI := fun ρ μ => (a ρ μ).bind fun d μ1 => R.of (wkOf d μ1) μ1
theorem wk_list {κ : KA} {H : Hp} {a : Addr} {ds : List DV} {vs : List V} (h : FrL g κ H a vs) (r : RelL g κ H ds vs) : WkOk g (Itl g.K a) κ H (.fix ds) where
  stop := fun k κ' H' μ e s hk => ⟨vs, (h.ext0 e).sq, by
    rw [← r.length]
    exact List.getElem?_eq_none_iff.mp (Option.some.inj hk)⟩
  go := fun k κ' H' μ d e s hk => by
    obtain ⟨v, h1, h2⟩ := r.get (Option.some.inj hk)
    exact ⟨vs, v, (h.ext0 e).sq, h1⟩
  yld := fun k κ' H' μ d x H'' e s hk y => by
    obtain ⟨rfl, y⟩ := y
    refine ⟨Ext.refl, s, ?_⟩
    obtain ⟨v, h1, h2⟩ := (r.ext0 e).get (Option.some.inj hk)
    have := y vs (h.ext0 e).sq
    rw [h1] at this; cases this
    exact h2
theorem wk_tup {κ : KA} {H : Hp} {a : Addr} {ds : List DV} {vs : List V} (h : FrT g κ H a vs) (r : RelL g κ H ds vs) : WkOk g (Itt g.K a) κ H (.fix ds) where
  stop := fun k κ' H' μ e s hk => ⟨vs, (h.ext0 e).sq, by
    rw [← r.length]
    exact List.getElem?_eq_none_iff.mp (Option.some.inj hk)⟩
  go := fun k κ' H' μ d e s hk => by
    obtain ⟨v, h1, h2⟩ := r.get (Option.some.inj hk)
    exact ⟨vs, v, (h.ext0 e).sq, h1⟩
  yld := fun k κ' H' μ d x H'' e s hk y => by
    obtain ⟨rfl, y⟩ := y
    refine ⟨Ext.refl, s, ?_⟩
    obtain ⟨v, h1, h2⟩ := (r.ext0 e).get (Option.some.inj hk)
    have := y vs (h.ext0 e).sq
    rw [h1] at this; cases this
    exact h2
theorem wk_str {κ : KA} {H : Hp} {x : Str} : WkOk g (Its x) κ H (.fix (x.cps.toList.map fun c => .str ⟨#[c]⟩)) where
  stop := fun k κ' H' μ e s hk => by
    show x.cps.size ≤ k
    have := List.getElem?_eq_none_iff.mp (Option.some.inj hk)
    simpa using this
  go := fun k κ' H' μ d e s hk => by
    show k < x.cps.size
    have := (List.getElem?_eq_some_iff.mp (Option.some.inj hk)).1
    simpa using this
  yld := fun k κ' H' μ d v H'' e s hk y => by
    obtain ⟨rfl, c, hc, rfl⟩ := y
    refine ⟨Ext.refl, s, ?_⟩
    have hd := Option.some.inj hk
    rw [List.getElem?_map] at hd
    have : x.cps.toList[k]? = some c := by simpa using hc
    rw [this] at hd
    cases hd
    simp [Rel]
theorem wk_rng {κ : KA} {H : Hp} {lo : Int} {n : Nat} : WkOk g (Itr lo n) κ H (.fix ((List.range n).map fun i => .int (lo + (i : Nat)))) where
  stop := fun k κ' H' μ e s hk => by
    show n ≤ k
    have := List.getElem?_eq_none_iff.mp (Option.some.inj hk)
    simpa using this
  go := fun k κ' H' μ d e s hk => by
    show k < n
    have := (List.getElem?_eq_some_iff.mp (Option.some.inj hk)).1
    simpa using this
  yld := fun i κ' H' μ d v H'' e s hk y => by
    obtain ⟨rfl, rfl⟩ := y
    refine ⟨Ext.refl, s, ?_⟩
    have hd := Option.some.inj hk
    rw [List.getElem?_map] at hd
    cases hr : (List.range n)[i]? with
    | none => rw [hr] at hd; cases hd
    | some j =>
      rw [hr] at hd
      have hij : j = i := by
        obtain ⟨h1, h2⟩ := List.getElem?_eq_some_iff.mp hr
        simpa using h2.symm
      cases hd
      subst hij
      simp [Rel]
theorem wk_cell {κ : KA} {H : Hp} {i : Nat} {p : Addr} (h : κ.cs[i]? = some (some p)) : WkOk g (Itl g.K p) κ H (.cell i) := by
  have key : ∀ κ' H' μ k o, Ext0 κ H κ' H' → StoOk g κ' H' μ → wkAt (.cell i) μ k = some o → ∃ xs vs, o = xs[k]? ∧ H' p = some (.lst vs) ∧ RelL g κ' H' xs vs := fun κ' H' μ k o e s hk => by
    simp only [wkAt] at hk
    cases ec : μ[i]? with
    | none => rw [ec] at hk; cases hk
    | some co =>
      rw [ec] at hk
      cases co with
      | lst xs =>
        cases hk
        obtain ⟨a, h1, h2⟩ := s.at_ i _ ec
        obtain ⟨q, vs, rfl, h3, h4⟩ := h2
        have := e.old i q (List.getElem?_eq_some_iff.mp h).1 h1
        rw [h] at this; cases this
        exact ⟨xs, vs, rfl, h3, h4⟩
      | _ => cases hk
  refine ⟨fun k κ' H' μ e s hk => ?_, fun k κ' H' μ d e s hk => ?_, fun k κ' H' μ d x H'' e s hk y => ?_⟩
  · obtain ⟨xs, vs, e1, h1, h2⟩ := key κ' H' μ k _ e s hk
    exact ⟨vs, .inl (.inl h1), by rw [← h2.length]; exact List.getElem?_eq_none_iff.mp e1.symm⟩
  · obtain ⟨xs, vs, e1, h1, h2⟩ := key κ' H' μ k _ e s hk
    obtain ⟨v, h3, h4⟩ := h2.get e1.symm
    exact ⟨vs, v, .inl (.inl h1), h3⟩
  · obtain ⟨xs, vs, e1, h1, h2⟩ := key κ' H' μ k _ e s hk
    obtain ⟨v, h3, h4⟩ := h2.get e1.symm
    obtain ⟨rfl, y⟩ := y
    have := y vs (.inl (.inl h1))
    rw [h3] at this; cases this
    exact ⟨Ext.refl, s, h4⟩
theorem gi_seq {tg : Expr} (xg : XG g X) (h : GE g W X e fa) : GI g W X tg e (iSeq fa) := PI.imp (PI.or (pi_list h) (PI.or (pi_tup h) (pi_str h))) fun σ H R q => by
  obtain ⟨κ, ρ, μ, he, hs, hw⟩ := q
  have hb := hw.bind
  cases e : fa ρ μ with
  | stuck => rw [e] at hb; exact hb.elim
  | ex c ns xs μ1 =>
    refine .inl ⟨κ, ρ, μ, he, hs, ?_⟩
    rw [e] at hb ⊢
    exact hb
  | ok d μ1 =>
    rw [e] at hb
    cases k : wkOf d μ1 with
    | none =>
      refine .inl ⟨κ, ρ, μ, he, hs, ?_⟩
      rw [e]
      intro κ1 H1 e1 s1
      have := hb κ1 H1 e1 s1
      dsimp only at this
      rw [k] at this
      exact this.elim
    | some wk =>
      have hb2 : ∀ κ1 H1, Ext κ H κ1 H1 → StoOk g κ1 H1 μ1 → ∀ J, WkOk g J κ1 H1 wk → R J H1 := fun κ1 H1 e1 s1 => by
        have := hb κ1 H1 e1 s1
        dsimp only at this
        rw [k] at this
        exact this κ1 H1 Ext.refl s1
      cases d with
      | lst xs =>
        refine .inl ⟨κ, ρ, μ, he, hs, ?_⟩
        rw [e]
        intro κ1 H1 e1 s1 v rv
        cases k
        simp only [Rel] at rv
        obtain ⟨a, vs, rfl, h2, h3⟩ := rv
        refine ⟨a, rfl, ⟨vs, .inl (.inl h2.1)⟩, ?_⟩
        rw [xg.K]
        exact hb2 κ1 H1 e1 s1 _ (wk_list (.inl h2) h3)
      | scr xs =>
        refine .inl ⟨κ, ρ, μ, he, hs, ?_⟩
        rw [e]
        intro κ1 H1 e1 s1 v rv
        cases k
        simp only [Rel] at rv
        obtain ⟨a, vs, rfl, h2, h3⟩ := rv
        refine ⟨a, rfl, ⟨vs, by rw [xg.K]; exact h2.sq⟩, ?_⟩
        rw [xg.K]
        exact hb2 κ1 H1 e1 s1 _ (wk_list h2 h3)
      | tup xs =>
        refine .inr (.inl ⟨κ, ρ, μ, he, hs, ?_⟩)
        rw [e]
        intro κ1 H1 e1 s1 v rv
        cases k
        simp only [Rel] at rv
        obtain ⟨a, vs, rfl, h2, h3⟩ := rv
        refine ⟨a, rfl, ⟨vs, by rw [xg.K]; exact h2.sq⟩, ?_⟩
        rw [xg.K]
        exact hb2 κ1 H1 e1 s1 _ (wk_tup h2 h3)
      | str x =>
        refine .inr (.inr ⟨κ, ρ, μ, he, hs, ?_⟩)
        rw [e]
        intro κ1 H1 e1 s1 v rv
        cases k
        simp only [Rel] at rv
        exact ⟨x, rv, hb2 κ1 H1 e1 s1 _ wk_str⟩
      | cell i =>
        refine .inl ⟨κ, ρ, μ, he, hs, ?_⟩
        rw [e]
        intro κ1 H1 e1 s1 v rv
        simp only [Rel] at rv
        simp only [wkOf] at k
        cases ec : μ1[i]? with
        | none => rw [ec] at k; cases k
        | some co =>
          rw [ec] at k
          cases co with
          | lst xs =>
            cases k
            obtain ⟨o, h1, h2⟩ := s1.at_ i _ ec
            obtain ⟨p, vs, rfl, h3, h4⟩ := h2
            refine ⟨p, rv.2 p h1, ⟨vs, .inl (.inl h3)⟩, ?_⟩
            rw [xg.K]
            exact hb2 κ1 H1 e1 s1 _ (wk_cell h1)
          | _ => cases k
      | _ => cases k
/-- range(n), range(a, b) -/
def inB (i : Int) : Bool := Nat.ble i.natAbs 4611686018427387903
def rngOf1 : List DV → Option Wk
  | [.int j] => if inB j = true then some (.fix ((List.range j.toNat).map fun i => .int (0 + (i : Nat)))) else none
  | _ => none
def rngOf2 : List DV → Option Wk
  | [.int i, .int j] => if inB i = true ∧ inB j = true then some (.fix ((List.range (j - i).toNat).map fun k => .int (i + (k : Nat)))) else none
  | _ => none
def iRng1' (r : DA) : DI := fun ρ μ => (r ρ μ).bind fun ds μ1 => R.of (rngOf1 ds) μ1
def iRng2' (r : DA) : DI := fun ρ μ => (r ρ μ).bind fun ds μ1 => R.of (rngOf2 ds) μ1
theorem inB_iff {i : Int} (h : inB i = true) : -(2 ^ 62) ≤ i ∧ i < 2 ^ 62 := by
  have h' : i.natAbs ≤ 4611686018427387903 := Nat.le_of_ble_eq_true h
  omega
theorem rng1_some {ds : List DV} {k : Wk} (h : rngOf1 ds = some k) : ∃ j, ds = [.int j] ∧ inB j = true ∧ k = .fix ((List.range j.toNat).map fun i => .int (0 + (i : Nat))) := by
  unfold rngOf1 at h
  split at h
  · split at h
    · rename_i j hb; cases h; exact ⟨j, rfl, hb, rfl⟩
    · cases h
  · cases h
theorem gi_rng1 {tg a : Expr} {p pos : Pos} (hg : Gl X "range") (hm : X.mg "range" = none) (ha : GA g W X [a] fr) (hs : starEach [a] X.env = [(false, eval a X.env)] := by rfl) : GI g W X tg (.Call (.Name "range" p) [a] [] pos) (iRng1' fr) :=
  PI.imp (pi_range1 hg hm ha hs) fun σ H R q => by
  obtain ⟨κ, ρ, μ, he, hs, hw⟩ := q
  refine ⟨κ, ρ, μ, he, hs, hw.bind.mono fun ds μ1 κ1 H1 e1 s1 h1 vs rv => ?_⟩
  cases k : rngOf1 ds with
  | none => rw [k] at h1; exact h1.elim
  | some wk =>
    rw [k] at h1
    obtain ⟨j, rfl, hb, rfl⟩ := rng1_some k
    obtain ⟨v, r, rfl, q1, q2⟩ := rv.of_cons
    cases q2.of_nil
    simp only [Rel] at q1
    subst q1
    obtain ⟨b1, b2⟩ := inB_iff hb
    exact ⟨j, rfl, b1, b2, h1 κ1 H1 Ext.refl s1 _ wk_rng⟩
end
end SD

set_option Elab.async false
set_option linter.all false
set_option maxRecDepth 100000
set_option maxHeartbeats 4000000
namespace SD
open PySem PySem.Spec PyProof.Rows L2
section
variable {g : Gc} {W : WX} {X : Cx} {a b c e : Expr} {es : List Expr} {fa fb fc : DE} {ft : DT} {fr : DA} {pos : Pos} {st : Stmt} {sts stb : List Stmt} {f h fs fu : DS}

def loopF (w : Wk) (t : DG) (f : DS) : Nat → Nat → DS
  | 0, _ => fun _ _ => .stuck
  | n + 1, k => fun ρ μ => match wkAt w μ k with
    | none => .stuck
    | some none => .nx ρ μ
    | some (some d) => match t d ρ μ with
      | none => .stuck
      | some ρ1 => match f ρ1 μ with
        | .nx ρ' μ' => loopF w t f n (k + 1) ρ' μ'
        | .ct ρ' μ' => loopF w t f n (k + 1) ρ' μ'
        | .bk ρ' μ' => .nx ρ' μ'
        | r => r
def sFor (it : DI) (t : DG) (f : DS) : DS := fun ρ μ => (it ρ μ).toS ρ fun w μ1 => loopF w t f (wkLen w μ1 + 1) 0 ρ μ1
theorem gs_for {tg iter : Expr} {fi : DI} {t : DG} {sl : List Nat} (hp : PassesOwn (model X.prog X.w) X.A X.env X.xe) (hc : X.calm = true) (hi : GI g W X tg iter fi) (hg : GG g X tg sl t) (hb : GSs g W X sts f)
    (hs : ∀ x, foldedSetIterable iter X.env x = pure x := by intro _; rfl) : GS g W X (.For tg iter sts [] pos) (sFor fi t f) := PS.imp (ps_for hp hc hi hg hb hs) fun D σ H q => by
  obtain ⟨κ, ρ, μ, he, hs, hw⟩ := q
  refine ⟨κ, ρ, μ, he, hs, (wpS.bind he hw).mono fun w μ1 κ1 H1 e1 s1 h1 J wk => ?_⟩
  refine ⟨fun i m σ H => ∃ κ ρ μ, Ext κ1 H1 κ H ∧ RelE g κ H ρ σ ∧ StoOk g κ H μ ∧ wpS g W D κ H (loopF w t f m i ρ μ), ⟨_, κ1, ρ, μ1, Ext.refl, he.ext e1, s1, h1⟩, ?_⟩
  intro i m σ2 H2 q
  obtain ⟨κ2, ρ2, μ2, e2, he2, s2, h2⟩ := q
  cases m with
  | zero => exact h2.elim
  | succ m =>
    unfold loopF at h2
    cases ew : wkAt w μ2 i with
    | none => rw [ew] at h2; exact h2.elim
    | some o =>
      rw [ew] at h2
      cases o with
      | none => exact .inl ⟨wk.stop i κ2 H2 μ2 e2.toExt0 s2 ew, h2 κ2 H2 σ2 Ext.refl s2 he2⟩
      | some d =>
        refine .inr ⟨wk.go i κ2 H2 μ2 d e2.toExt0 s2 ew, fun σ' H' => ∃ κ ρ μ, Ext κ1 H1 κ H' ∧ RelE g κ H' ρ σ' ∧ StoOk g κ H' μ ∧ wpS g W D κ H' (loopF w t f m (i + 1) ρ μ), fun σ' H' q => ⟨m, Nat.lt_succ_self _, q⟩, fun x H' y => ?_⟩
        obtain ⟨e3, s3, rx⟩ := wk.yld i κ2 H2 μ2 d x H' e2.toExt0 s2 ew y
        refine ⟨κ2, d, ρ2, μ2, rx, he2.ext e3, s3, ?_⟩
        simp only at h2
        cases et : t d ρ2 μ2 with
        | none => rw [et] at h2; exact h2.elim
        | some ρ3 =>
          rw [et] at h2
          intro σ3 he3 _ _
          refine ⟨κ2, ρ3, μ2, he3, s3, ?_⟩
          simp only at h2
          cases ef : f ρ3 μ2 with
          | nx ρ' μ' => rw [ef] at h2; exact fun κ4 H4 σ4 e4 s4 q4 => ⟨κ4, ρ', μ', e2.trans (e3.trans e4), q4, s4, wpS.ext (e3.trans e4) h2⟩
          | ct ρ' μ' => rw [ef] at h2; exact fun κ4 H4 σ4 e4 s4 q4 => ⟨κ4, ρ', μ', e2.trans (e3.trans e4), q4, s4, wpS.ext (e3.trans e4) h2⟩
          | bk ρ' μ' => rw [ef] at h2; exact wpS.ext e3 h2
          | rt d μ' => rw [ef] at h2; exact wpS.ext e3 h2
          | ex c ns xs ρ' μ' => rw [ef] at h2; exact wpS.ext e3 h2
          | stuck => rw [ef] at h2; exact h2

abbrev W0 : WX := fun _ _ _ _ => False
def wipeE (ρ : En) : List Nat → En
  | [] => ρ
  | v :: vs => (wipeE ρ vs).set v none
theorem RelE.wipe {κ : KA} {H : Hp} {ρ : En} {σ : L2.St} (h : RelE g κ H ρ σ) : ∀ vs : List Nat, RelE g κ H (wipeE ρ vs) (wipe σ vs)
  | [] => h
  | v :: vs => (RelE.wipe h vs).unset
def R.nox {α : Type} (r : R α) : R α := match r with
  | .ok a μ => .ok a μ
  | _ => .stuck
/-- the items that a comprehension makes -/
def loopL (w : Wk) (t : DG) (tt : DT) (te : DE) (ρ : En) : Nat → Nat → Sto → R (List DV)
  | 0, _, _ => .stuck
  | n + 1, k, μ => match wkAt w μ k with
    | none => .stuck
    | some none => .ok [] μ
    | some (some d) => match t d ρ μ with
      | none => .stuck
      | some ρ1 => (tt ρ1 μ).nox.bind fun b μ1 => if b = true then (te ρ1 μ1).nox.bind fun y μ2 => (loopL w t tt te ρ n (k + 1) μ2).bind fun ys μ3 => .ok (y :: ys) μ3 else loopL w t tt te ρ n (k + 1) μ1
def tYes' : DT := fun _ μ => .ok true μ
def eLcL (it : DI) (t : DG) (tt : DT) (te : DE) (vs : List Nat) : En → Sto → R (List DV) := fun ρ μ => (it ρ μ).bind fun w μ1 => if okLen (wkLen w μ1 + 1) = true then loopL w t tt te (wipeE ρ vs) (wkLen w μ1 + 1) 0 μ1 else .stuck
def eLc (it : DI) (t : DG) (tt : DT) (te : DE) (vs : List Nat) : DE := fun ρ μ => (eLcL it t tt te vs ρ μ).bind fun ys μ1 => .ok (.lst ys) μ1
def eLcC (it : DI) (t : DG) (tt : DT) (te : DE) (vs : List Nat) : DE := fun ρ μ => (eLcL it t tt te vs ρ μ).bind fun ys μ1 => .ok (.cell μ1.length) (μ1 ++ [.lst ys])
abbrev GTs (g : Gc) (W : WX) (X : Cx) (ifs : List Expr) (f : DT) : Prop := PTs X ifs (tT g W f)
theorem PTs.imp {X : Cx} {ifs : List Expr} {t u : TT} (h : PTs X ifs t) (f : ∀ σ H Q, u σ H Q → t σ H Q) : PTs X ifs u := ⟨fun pins s σ H Q I q => h.run pins s σ H Q I (f _ _ _ q)⟩
theorem gts_nil : GTs g W X [] tYes' := PTs.imp pts_nil fun σ H Q q => by
  obtain ⟨κ, ρ, μ, he, hs, hw⟩ := q
  exact hw κ H Ext.refl hs
theorem wipe_get (i : Nat) : ∀ (vs : List Nat) (τ : L2.St), (wipe τ vs)[i]? = if i ∈ vs then (if i < τ.length then some none else none) else τ[i]?
  | [], τ => by simp [wipe]
  | v :: vs, τ => by
    unfold wipe
    by_cases hv : v = i
    · subst hv
      rw [if_pos (by simp)]
      by_cases hb : v < τ.length
      · rw [List.getElem?_set_self (by rw [wipe_length]; exact hb), if_pos hb]
      · rw [List.getElem?_eq_none (by rw [List.length_set, wipe_length]; omega), if_neg hb]
    · rw [List.getElem?_set_ne hv, wipe_get i vs τ]
      by_cases hm : i ∈ vs
      · rw [if_pos hm, if_pos (List.mem_cons_of_mem _ hm)]
      · rw [if_neg hm, if_neg (fun h => (List.mem_cons.mp h).elim (fun e => hv e.symm) hm)]
theorem wipe_eq {σ σ' : L2.St} {vs sl : List Nat} (hl : σ'.length = (wipe σ vs).length) (hk : ∀ i, i ∉ sl → σ'[i]? = (wipe σ vs)[i]?) (hsl : ∀ i ∈ sl, i ∈ vs) : wipe σ' vs = wipe σ vs := by
  apply List.ext_getElem?
  intro i
  rw [wipe_get, wipe_get]
  by_cases hm : i ∈ vs
  · rw [if_pos hm, if_pos hm, hl, wipe_length]
  · rw [if_neg hm, if_neg hm, hk i fun h => hm (hsl i h), wipe_get, if_neg hm]

/-- the heart: the list D is filled; at its end fin takes the items -/
theorem lc_read {fi : DI} {t : DG} {tt : DT} {te : DE} {vs sl : List Nat} {fin : List DV → Sto → R DV} {σ : L2.St} {H : Hp} {Q : VK} (hsl : ∀ i ∈ sl, i ∈ vs)
    (hfin : ∀ (κ1 : KA) (H1 : Hp) (κ : KA) (H : Hp) (μ1 μ : Sto) (D : Addr) (acc : List DV) (avs : List V), StoOk g κ1 H1 μ1 → H1 D = none → κ.gh = κ1.gh → Ext0 κ1 H1 (κ.hide D) H → (∀ a ∈ κ1.gh, NoTbl H1 a → H a = H1 a) →
      StoOk g (κ.hide D) H μ → H D = some (.lst avs) → RelL g (κ.hide D) H acc avs → wpR g W σ κ1 H1 (fin acc μ) (fun d _ κ' H' => ∀ v, Rel g κ' H' d v → Q v H') → Q (.ref D) H)
    (q : tE g W (fun ρ μ => (eLcL fi t tt te vs ρ μ).bind fin) σ H Q) : tLc (tI g W fi) (tG g sl t) (tT g W0 tt) (tE g W0 te) vs σ H Q := by
  obtain ⟨κ, ρ, μ, he, hs, hw⟩ := q
  have hw : wpR g W σ κ H ((fi ρ μ).bind fun w μ1 => (if okLen (wkLen w μ1 + 1) = true then loopL w t tt te (wipeE ρ vs) (wkLen w μ1 + 1) 0 μ1 else .stuck).bind fin) (fun d _ κ' H' => ∀ v, Rel g κ' H' d v → Q v H') := by
    have e : (eLcL fi t tt te vs ρ μ).bind fin = (fi ρ μ).bind fun w μ1 => (if okLen (wkLen w μ1 + 1) = true then loopL w t tt te (wipeE ρ vs) (wkLen w μ1 + 1) 0 μ1 else .stuck).bind fin := by
      unfold eLcL
      cases fi ρ μ <;> rfl
    rw [← e]; exact hw
  refine ⟨κ, ρ, μ, he, hs, hw.bind.mono fun w μ1 κ1 H1 e1 s1 h1 J wk D hD => ?_⟩
  by_cases hz : okLen (wkLen w μ1 + 1) = true
  case neg => rw [if_neg hz] at h1; exact h1.elim
  rw [if_pos hz] at h1
  have he1 := (he.ext e1).wipe vs
  have hz : wkLen w μ1 + 1 ≤ sizeLine := by simpa [okLen] using hz
  generalize hn : wkLen w μ1 = n at h1 hz
  -- the word
  refine ⟨fun i m H => ∃ (κ : KA) (μ : Sto) (acc : List DV) (avs : List V), κ.gh = κ1.gh ∧ Ext0 κ1 H1 (κ.hide D) H ∧ (∀ a ∈ κ1.gh, NoTbl H1 a → H a = H1 a) ∧ RelE g (κ.hide D) H (wipeE ρ vs) (wipe σ vs) ∧ StoOk g (κ.hide D) H μ ∧ H D = some (.lst avs) ∧ RelL g (κ.hide D) H acc avs ∧
      acc.length + m ≤ n + 1 ∧ wpR g W σ κ1 H1 ((loopL w t tt te (wipeE ρ vs) m i μ).bind fun ys μ' => fin (acc ++ ys) μ') (fun d _ κ' H' => ∀ v, Rel g κ' H' d v → Q v H'),
    ⟨n + 1, κ1, μ1, [], [], rfl, Ext0.hide hD, fun a ha _ => by obtain ⟨⟨u, hu⟩, _⟩ := s1.gst a ha; exact upd_ne (ne_of_none hu hD), ⟨he1.len, fun i d hd => by
      obtain ⟨v, a1, a2⟩ := he1.at_ i d hd
      exact ⟨v, a1, a2.ext0 (Ext0.hide hD)⟩⟩, s1.hide hD, upd_same, RelL.nil, by simp, h1⟩, ?_⟩
  intro i m H2 q
  obtain ⟨κ2, μ2, acc, avs, g2, x2, v2, he2, s2, hD2, ra, hm, h2⟩ := q
  cases m with
  | zero => exact h2.elim
  | succ m =>
    unfold loopL at h2
    cases ew : wkAt w μ2 i with
    | none => rw [ew] at h2; exact h2.elim
    | some o =>
      rw [ew] at h2
      cases o with
      | none =>
        refine .inl ⟨wk.stop i _ H2 μ2 x2 s2 ew, ?_⟩
        have h3 : wpR g W σ κ1 H1 (fin (acc ++ []) μ2) (fun d _ κ' H' => ∀ v, Rel g κ' H' d v → Q v H') := h2
        rw [List.append_nil] at h3
        exact hfin κ1 H1 κ2 H2 μ1 μ2 D acc avs s1 hD g2 x2 v2 s2 hD2 ra h3
      | some d =>
        refine .inr ⟨wk.go i _ H2 μ2 d x2 s2 ew, fun H => ∃ (κ : KA) (μ : Sto) (acc : List DV) (avs : List V), κ.gh = κ1.gh ∧ Ext0 κ1 H1 (κ.hide D) H ∧ (∀ a ∈ κ1.gh, NoTbl H1 a → H a = H1 a) ∧ RelE g (κ.hide D) H (wipeE ρ vs) (wipe σ vs) ∧ StoOk g (κ.hide D) H μ ∧ H D = some (.lst avs) ∧ RelL g (κ.hide D) H acc avs ∧
            acc.length + m ≤ n + 1 ∧ wpR g W σ κ1 H1 ((loopL w t tt te (wipeE ρ vs) m (i + 1) μ).bind fun ys μ' => fin (acc ++ ys) μ') (fun d _ κ' H' => ∀ v, Rel g κ' H' d v → Q v H'), fun H' q => ⟨m, Nat.lt_succ_self _, q⟩, fun x H' y => ?_⟩
        obtain ⟨e3, s3, rx⟩ := wk.yld i _ H2 μ2 d x H' x2 s2 ew y
        refine ⟨κ2.hide D, d, wipeE ρ vs, μ2, rx, he2.ext e3, s3, ?_⟩
        simp only at h2
        cases et : t d (wipeE ρ vs) μ2 with
        | none => rw [et] at h2; exact h2.elim
        | some ρ3 =>
          rw [et] at h2
          intro σ3 he3 hl3 hk3
          refine ⟨wipe_eq hl3 hk3 hsl, κ2.hide D, ρ3, μ2, he3, s3, ?_⟩
          have hz0 : ∀ {α : Type} {r : R α} {Φ : α → Sto → KA → Hp → Prop}, (∀ a μ, r = .ok a μ → ∀ κ' H'', Ext (κ2.hide D) H' κ' H'' → StoOk g κ' H'' μ → Φ a μ κ' H'') → (∀ c ns xs μ, r ≠ .ex c ns xs μ) → r ≠ .stuck → wpR g W0 σ3 (κ2.hide D) H' r Φ := by
            intro α r Φ h1 h2 h3
            cases r with
            | ok a μ => exact h1 a μ rfl
            | ex c ns xs μ => exact (h2 c ns xs μ rfl).elim
            | stuck => exact (h3 rfl).elim
          -- the state behind the item
          have x3 : Ext0 κ1 H1 (κ2.hide D) H' := x2.trans e3.toExt0
          have nl : ∀ {K : Hp} {l : List V}, K D = some (.lst l) → NoTbl K D := fun {K l} e ps z => by rw [e] at z; cases z
          have nv : ∀ {K : Hp} {a : Addr}, K a = H1 a → NoTbl H1 a → NoTbl K a := fun {K a} e n ps z => n ps (by rw [← e]; exact z)
          have v3 : ∀ a ∈ κ1.gh, NoTbl H1 a → H' a = H1 a := fun a ha n => (e3.ghv a (by show a ∈ D :: κ2.gh; rw [g2]; exact List.mem_cons_of_mem _ ha) (nv (v2 a ha n) n)).trans (v2 a ha n)
          have hD3 : H' D = some (.lst avs) := (e3.ghv D (by show D ∈ D :: κ2.gh; simp) (nl hD2)).trans hD2
          have ra3 := ra.ext e3
          have he3' := he2.ext e3
          -- hides again
          have again : ∀ {κ4 : KA}, κ4.gh = (κ2.hide D).gh → κ4 = (KA.mk κ4.cs κ2.gh).hide D := fun {κ4} e => by
            obtain ⟨cs, gh⟩ := κ4
            show KA.mk cs gh = KA.mk cs (D :: κ2.gh)
            rw [show gh = D :: κ2.gh from e]
          simp only at h2
          cases eb : tt ρ3 μ2 with
          | stuck => rw [eb] at h2; exact h2.elim
          | ex c ns xs μ3 => rw [eb] at h2; exact h2.elim
          | ok b μ3 =>
            rw [eb] at h2
            intro κ3 H3 e4 s4
            have x4 : Ext0 κ1 H1 κ3 H3 := x3.trans e4.toExt0
            have v4 : ∀ a ∈ κ1.gh, NoTbl H1 a → H3 a = H1 a := fun a ha n => (e4.ghv a (by show a ∈ D :: κ2.gh; rw [g2]; exact List.mem_cons_of_mem _ ha) (nv (v3 a ha n) n)).trans (v3 a ha n)
            have hD4 : H3 D = some (.lst avs) := (e4.ghv D (by show D ∈ D :: κ2.gh; simp) (nl hD3)).trans hD3
            have k3 := again e4.ghs
            cases b with
            | false =>
              refine iteF ?_
              have h3 : wpR g W σ κ1 H1 ((loopL w t tt te (wipeE ρ vs) m (i + 1) μ3).bind fun ys μ' => fin (acc ++ ys) μ') (fun d _ κ' H' => ∀ v, Rel g κ' H' d v → Q v H') := h2
              exact ⟨KA.mk κ3.cs κ2.gh, μ3, acc, avs, g2, by rw [← k3]; exact x4, v4, by rw [← k3]; exact he3'.ext e4, by rw [← k3]; exact s4, hD4, by rw [← k3]; exact ra3.ext e4, by omega, h3⟩
            | true =>
              refine iteT ?_
              refine ⟨κ3, ρ3, μ3, he3.ext e4, s4, ?_⟩
              cases ey : te ρ3 μ3 with
              | stuck => 
                have h3 : wpR g W σ κ1 H1 (((te ρ3 μ3).nox.bind fun y μ2 => (loopL w t tt te (wipeE ρ vs) m (i + 1) μ2).bind fun ys μ3 => .ok (y :: ys) μ3).bind fun ys μ' => fin (acc ++ ys) μ') (fun d _ κ' H' => ∀ v, Rel g κ' H' d v → Q v H') := h2
                rw [ey] at h3; exact h3.elim
              | ex c ns xs μ4 =>
                have h3 : wpR g W σ κ1 H1 (((te ρ3 μ3).nox.bind fun y μ2 => (loopL w t tt te (wipeE ρ vs) m (i + 1) μ2).bind fun ys μ3 => .ok (y :: ys) μ3).bind fun ys μ' => fin (acc ++ ys) μ') (fun d _ κ' H' => ∀ v, Rel g κ' H' d v → Q v H') := h2
                rw [ey] at h3; exact h3.elim
              | ok yv μ4 =>
                have h3 : wpR g W σ κ1 H1 (((te ρ3 μ3).nox.bind fun y μ2 => (loopL w t tt te (wipeE ρ vs) m (i + 1) μ2).bind fun ys μ3 => .ok (y :: ys) μ3).bind fun ys μ' => fin (acc ++ ys) μ') (fun d _ κ' H' => ∀ v, Rel g κ' H' d v → Q v H') := h2
                rw [ey] at h3
                have h4 : wpR g W σ κ1 H1 ((loopL w t tt te (wipeE ρ vs) m (i + 1) μ4).bind fun ys μ' => fin ((acc ++ [yv]) ++ ys) μ') (fun d _ κ' H' => ∀ v, Rel g κ' H' d v → Q v H') := by
                  have e : (loopL w t tt te (wipeE ρ vs) m (i + 1) μ4).bind (fun ys μ' => fin ((acc ++ [yv]) ++ ys) μ') = (((R.ok yv μ4 : R DV).nox.bind fun y μ2 => (loopL w t tt te (wipeE ρ vs) m (i + 1) μ2).bind fun ys μ3 => .ok (y :: ys) μ3).bind fun ys μ' => fin (acc ++ ys) μ') := by
                    show _ = ((loopL w t tt te (wipeE ρ vs) m (i + 1) μ4).bind fun ys μ3 => R.ok (yv :: ys) μ3).bind fun ys μ' => fin (acc ++ ys) μ'
                    cases loopL w t tt te (wipeE ρ vs) m (i + 1) μ4 with
                    | ok ys μ5 => show fin ((acc ++ [yv]) ++ ys) μ5 = fin (acc ++ yv :: ys) μ5; rw [List.append_assoc]; rfl
                    | ex c ns xs μ5 => rfl
                    | stuck => rfl
                  rw [e]; exact h3
                intro κ4 H4 e5 s5 v rv
                have x5 : Ext0 κ1 H1 κ4 H4 := x4.trans e5.toExt0
                have gh4 : κ4.gh = (κ2.hide D).gh := e5.ghs.trans e4.ghs
                have mD : D ∈ κ4.gh := by rw [gh4]; show D ∈ D :: κ2.gh; simp
                have v5 : ∀ a ∈ κ1.gh, NoTbl H1 a → H4 a = H1 a := fun a ha n => (e5.ghv a (by rw [e4.ghs]; show a ∈ D :: κ2.gh; rw [g2]; exact List.mem_cons_of_mem _ ha) (nv (v4 a ha n) n)).trans (v4 a ha n)
                have hD5 : H4 D = some (.lst avs) := (e5.ghv D (by rw [e4.ghs]; show D ∈ D :: κ2.gh; simp) (nl hD4)).trans hD4
                have k4 := again gh4
                have ra5 := (ra3.ext e4).ext e5
                have xw : Ext0 κ4 H4 κ4 (upd H4 D (.lst (avs ++ [v]))) := Ext0.write (.inr mD)
                have dn : ∀ a ∈ κ1.gh, a ≠ D := fun a ha e => by
                  obtain ⟨⟨u, hu⟩, _⟩ := s1.gst a ha
                  rw [e, hD] at hu; cases hu
                refine ⟨avs, hD5, ?_, ?_⟩
                · have := ra5.length; omega
                · have heX := (he3'.ext e4).ext e5
                  have he6 : RelE g κ4 (upd H4 D (.lst (avs ++ [v]))) (wipeE ρ vs) (wipe σ vs) := ⟨heX.len, fun i d hd => by
                    obtain ⟨v', a1, a2⟩ := heX.at_ i d hd
                    exact ⟨v', a1, a2.ext0 xw⟩⟩
                  exact ⟨KA.mk κ4.cs κ2.gh, μ4, acc ++ [yv], avs ++ [v], g2, by rw [← k4]; exact x5.trans xw, fun a ha n => by rw [upd_ne (dn a ha)]; exact v5 a ha n, by rw [← k4]; exact he6, by rw [← k4]; exact s5.fill mD (nl hD5), upd_same, by rw [← k4]; exact RelL.append (ra5.ext0 xw) (RelL.cons (rv.ext0 xw) RelL.nil), by simp; omega, h4⟩
theorem lc_frozen {fi : DI} {t : DG} {tt : DT} {te : DE} {vs sl : List Nat} {σ : L2.St} {H : Hp} {Q : VK} (hsl : ∀ i ∈ sl, i ∈ vs) (q : tE g W (eLc fi t tt te vs) σ H Q) : tLc (tI g W fi) (tG g sl t) (tT g W0 tt) (tE g W0 te) vs σ H Q := by
  refine lc_read hsl (fun κ1 H1 κ H μ1 μ D acc avs s1 hD g2 x v s hD2 ra h => ?_) q
  have nD : ¬ κ.has D := fun m => m.elim (fun m => (s.gst D (by show D ∈ D :: κ.gh; simp)).2 m) fun m => by
    rw [g2] at m
    obtain ⟨⟨u, hu⟩, _⟩ := s1.gst D m
    rw [hD] at hu; cases hu
  have ex : Ext κ1 H1 κ H := ⟨x.trans Ext0.show', g2, v⟩
  refine h κ H ex (s.show' fun ps z => by rw [hD2] at z; cases z) (.ref D) ?_
  simp only [Rel]
  exact ⟨D, avs, rfl, ⟨hD2, nD⟩, ra.ext0 Ext0.show'⟩
section
variable {elt tg iter : Expr} {ifs : List Expr} {scope : Scope} {own : List (Str × Nat)} {fi : DI} {t : DG} {tt : DT} {te : DE} {sl : List Nat} {N : List Str} {sc : Scope}
theorem ge_lc (hc : X.calm = true) (hN : X.N.Nodup) (hi : GI g W X tg iter fi) (eN : X.N = N) (eS : X.env.scope = sc) (ok : blkC N sc scope own = true)
    (hg : ∀ (s : Shared) (H : Hp) (C : Addr) (cl : List (Str × Addr)) (fp : List Addr), GG g (X.blk s H scope (compEnvC scope cl C X.env) fp) tg sl t)
    (ht : ∀ (s : Shared) (H : Hp) (C : Addr) (cl : List (Str × Addr)) (fp : List Addr), GTs g W0 (X.blk s H scope (compEnvC scope cl C X.env) fp) ifs tt)
    (he : ∀ (s : Shared) (H : Hp) (C : Addr) (cl : List (Str × Addr)) (fp : List Addr), GE g W0 (X.blk s H scope (compEnvC scope cl C X.env) fp) elt te)
    (hsl : sl.all (fun i => decide (i ∈ own.map (·.2))) = true := by rfl) (hs : ∀ x, foldedSetIterable iter X.env x = pure x := by intro _; rfl) :
    GE g W X (.ListComp elt [⟨tg, iter, ifs, 0⟩] scope pos) (eLc fi t tt te (own.map (·.2))) :=
  by
  subst eN eS
  exact PE.imp (pe_lc hc hN hi (blkOk_by ok) hg ht he hs) fun _ _ _ q => lc_frozen (fun i hi => of_decide_eq_true (List.all_eq_true.mp hsl i hi)) q
/-- name = [..] on one line -/
theorem gs_setLc {i : Nat} {y : Str} {py spos : Pos} (hc : X.calm = true) (hN : X.N.Nodup) (hy : X.N[i]? = some y) (hyl : X.env.scope.names.lookup y = some .local)
    (hsw : swapsWith (.ListComp elt [⟨tg, iter, ifs, 0⟩] scope pos) (some (.Name y py)) spos.line X.env = pure true) (hi : GI g W X tg iter fi) (eN : X.N = N) (eS : X.env.scope = sc) (ok : blkC N sc scope own = true)
    (hg : ∀ (s : Shared) (H : Hp) (C : Addr) (cl : List (Str × Addr)) (fp : List Addr), GG g (X.blk s H scope (compEnvC scope cl C X.env) fp) tg sl t)
    (ht : ∀ (s : Shared) (H : Hp) (C : Addr) (cl : List (Str × Addr)) (fp : List Addr), GTs g W0 (X.blk s H scope (compEnvC scope cl C X.env) fp) ifs tt)
    (he : ∀ (s : Shared) (H : Hp) (C : Addr) (cl : List (Str × Addr)) (fp : List Addr), GE g W0 (X.blk s H scope (compEnvC scope cl C X.env) fp) elt te)
    (hsl : sl.all (fun i => decide (i ∈ own.map (·.2))) = true := by rfl) (hs : ∀ x, foldedSetIterable iter X.env x = pure x := by intro _; rfl) :
    GS g W X (.Assign [.Name y py] (.ListComp elt [⟨tg, iter, ifs, 0⟩] scope pos) spos) (sAsg (eLc fi t tt te (own.map (·.2))) (gN i)) := by
  subst eN eS
  refine PS.imp (ps_setLc hc hN hy hyl hsw hi (blkOk_by ok) hg ht he hs) fun D σ H q => ?_
  refine lc_frozen (fun i hi => of_decide_eq_true (List.all_eq_true.mp hsl i hi)) ?_
  obtain ⟨κ, ρ, μ, he, hs, hw⟩ := q
  refine ⟨κ, ρ, μ, he, hs, (wpS.bind he hw).mono fun d μ1 κ1 H1 e1 s1 h1 v rv => ?_⟩
  exact h1 κ1 H1 _ Ext.refl s1 ((he.ext e1).set rv)
end
end
end SD

set_option Elab.async false
set_option linter.all false
set_option maxRecDepth 100000
set_option maxHeartbeats 4000000
namespace SD
open PySem PySem.Spec PyProof.Rows L2

abbrev Fn := List DV → Sto → R DV
/-- how a def's value is handed back: fz: frozen; cl: as a new cell; an: a new cell as such, all else frozen -/
inductive Md where | fz | cl | an
def finF (n : Nat) (d : DV) (μ : Sto) : R DV :=
  if μ.length = n then .ok d μ else
    if (μ.take n).all (CO.low n) = true then
      match d with
      | .cell i => if i < n then .ok (.cell i) (μ.take n) else match μ[i]? with
        | some (.lst xs) => if lowL n xs = true then .ok (.lst xs) (μ.take n) else .stuck
        | some (.ins c ns xs) => if lowL n xs = true then .ok (.obj c ns xs) (μ.take n) else .stuck
        | _ => .stuck
      | d => if d.low n = true then .ok d (μ.take n) else .stuck
    else .stuck
def finC (n : Nat) (d : DV) (μ : Sto) : R DV :=
  if (μ.take n).all (CO.low n) = true then
    match d with
    | .cell i => if i < n then .stuck else match μ[i]? with
      | some (.lst xs) => if lowL n xs = true then .ok (.cell n) (μ.take n ++ [.lst xs]) else .stuck
      | _ => .stuck
    | _ => .stuck
  else .stuck
def finA (n : Nat) (d : DV) (μ : Sto) : R DV := match d with
  | .cell i => if i < n then finF n (.cell i) μ else finC n (.cell i) μ
  | d => finF n d μ
def fin (md : Md) (n : Nat) (d : DV) (μ : Sto) : R DV := match md with
  | .fz => finF n d μ
  | .cl => finC n d μ
  | .an => finA n d μ
def finX (n c : Nat) (ns : List Str) (xs : List DV) (μ : Sto) : R DV :=
  if μ.length = n then .ex c ns xs μ else
    if ((μ.take n).all (CO.low n) && lowL n xs) = true then .ex c ns xs (μ.take n) else .stuck
/-- a def: np parameters, n slots -/
def runF (md : Md) (np n : Nat) (body : DS) : Fn := fun ds μ => if ds.length = np then
    match body (ds.map some ++ List.replicate (n - ds.length) none) μ with
    | .nx _ μ' => fin md μ.length .non μ'
    | .rt d μ' => fin md μ.length d μ'
    | .ex c ns xs _ μ' => finX μ.length c ns xs μ'
    | _ => .stuck
  else .stuck

section
variable {g : Gc} {κ κ' : KA} {H H' : Hp} {μ μ' : Sto}
theorem all_low {n : Nat} (h : (μ'.take n).all (CO.low n) = true) : ∀ c ∈ μ'.take n, c.low n = true := fun c hc => List.all_eq_true.mp h c hc
theorem finF_ok {d d' : DV} {μ'' : Sto} {v : V} (s : StoOk g κ H μ) (e : Ext κ H κ' H') (s' : StoOk g κ' H' μ') (r : Rel g κ' H' d v) (h : finF μ.length d μ' = .ok d' μ'') :
    ∃ κ'', Ext κ H κ'' H' ∧ StoOk g κ'' H' μ'' ∧ Rel g κ'' H' d' v := by
  unfold finF at h
  by_cases hl : μ'.length = μ.length
  · rw [if_pos hl] at h; cases h; exact ⟨κ', e, s', r⟩
  rw [if_neg hl] at h
  by_cases ha : (μ'.take μ.length).all (CO.low μ.length) = true
  case neg => rw [if_neg ha] at h; cases h
  rw [if_pos ha] at h
  have hn : μ.length ≤ κ'.cs.length := by rw [← s.len]; exact e.len
  have ex : Ext κ H (κ'.cut μ.length) H' := by rw [← s.len]; exact e.cut
  have so : StoOk g (κ'.cut μ.length) H' (μ'.take μ.length) := s'.cut hn (all_low ha)
  have gen : d.low μ.length = true → (R.ok d (μ'.take μ.length) : R DV) = .ok d' μ'' → ∃ κ'', Ext κ H κ'' H' ∧ StoOk g κ'' H' μ'' ∧ Rel g κ'' H' d' v := fun hb h => by
    cases h; exact ⟨_, ex, so, r.cut hn hb⟩
  cases d with
  | cell i =>
    simp only at h
    by_cases hi : i < μ.length
    · rw [if_pos hi] at h
      exact gen (by simp [DV.low, hi]) h
    · rw [if_neg hi] at h
      simp only [Rel] at r
      cases ec : μ'[i]? with
      | none => rw [ec] at h; cases h
      | some co =>
        rw [ec] at h
        obtain ⟨a, h1, h2⟩ := s'.at_ i _ ec
        have apart : ∀ p, κ'.cs[i]? = some (some p) → ¬ (κ'.cut μ.length).has p := fun p hp m => by
          rcases m with m | m
          · obtain ⟨j, hj⟩ := List.getElem?_of_mem m
            have hj : (κ'.cs.take μ.length)[j]? = some (some p) := hj
            have hlj := (List.getElem?_eq_some_iff.mp hj).1
            rw [List.length_take] at hlj
            rw [List.getElem?_take_of_lt (by omega)] at hj
            have := s'.inj i j p hp hj
            omega
          · exact (s'.gst p m).2 (List.mem_of_getElem? hp)
        cases co with
        | dead => cases h
        | lst xs =>
          simp only at h
          by_cases hx : lowL μ.length xs = true
          · rw [if_pos hx] at h
            cases h
            obtain ⟨p, vs, rfl, h3, h4⟩ := h2
            refine ⟨_, ex, so, ?_⟩
            simp only [Rel]
            exact ⟨p, vs, r.2 p h1, ⟨h3, apart p h1⟩, h4.cut hn hx⟩
          · rw [if_neg hx] at h; cases h
        | ins c ns xs =>
          simp only at h
          by_cases hx : lowL μ.length xs = true
          · rw [if_pos hx] at h
            cases h
            obtain ⟨p, dx, vs, rfl, h3, hl, h4⟩ := h2
            refine ⟨_, ex, so, ?_⟩
            simp only [Rel]
            exact ⟨p, dx, vs, r.2 p h1, ⟨h3, apart p h1⟩, hl, h4.cut hn hx⟩
          · rw [if_neg hx] at h; cases h
        | dct ks xs => cases h
  | non => simp only at h; split at h; exact gen (by assumption) h; cases h
  | bl b => simp only at h; split at h; exact gen (by assumption) h; cases h
  | int i => simp only at h; split at h; exact gen (by assumption) h; cases h
  | str x => simp only at h; split at h; exact gen (by assumption) h; cases h
  | ty x => simp only at h; split at h; exact gen (by assumption) h; cases h
  | gl x => simp only at h; split at h; exact gen (by assumption) h; cases h
  | tup x => simp only at h; split at h; exact gen (by assumption) h; cases h
  | lst x => simp only at h; split at h; exact gen (by assumption) h; cases h
  | scr x => simp only at h; split at h; exact gen (by assumption) h; cases h
  | dct k x => simp only at h; split at h; exact gen (by assumption) h; cases h
  | obj c k x => simp only at h; split at h; exact gen (by assumption) h; cases h
  | exn c k x => simp only at h; split at h; exact gen (by assumption) h; cases h
  | exv c k x => simp only at h; split at h; exact gen (by assumption) h; cases h
theorem finC_ok {d d' : DV} {μ'' : Sto} {v : V} (s : StoOk g κ H μ) (e : Ext κ H κ' H') (s' : StoOk g κ' H' μ') (r : Rel g κ' H' d v) (h : finC μ.length d μ' = .ok d' μ'') :
    ∃ κ'', Ext κ H κ'' H' ∧ StoOk g κ'' H' μ'' ∧ Rel g κ'' H' d' v := by
  unfold finC at h
  by_cases ha : (μ'.take μ.length).all (CO.low μ.length) = true
  case neg => rw [if_neg ha] at h; cases h
  rw [if_pos ha] at h
  have hn : μ.length ≤ κ'.cs.length := by rw [← s.len]; exact e.len
  have ex : Ext κ H (κ'.cut μ.length) H' := by rw [← s.len]; exact e.cut
  have so : StoOk g (κ'.cut μ.length) H' (μ'.take μ.length) := s'.cut hn (all_low ha)
  cases d with
  | cell i =>
    simp only at h
    by_cases hi : i < μ.length
    · rw [if_pos hi] at h; cases h
    · rw [if_neg hi] at h
      simp only [Rel] at r
      cases ec : μ'[i]? with
      | none => rw [ec] at h; cases h
      | some co =>
        rw [ec] at h
        obtain ⟨a, h1, h2⟩ := s'.at_ i _ ec
        cases co with
        | lst xs =>
          simp only at h
          by_cases hx : lowL μ.length xs = true
          · rw [if_pos hx] at h
            cases h
            obtain ⟨p, vs, rfl, h3, h4⟩ := h2
            have apart : ¬ (κ'.cut μ.length).has p := fun m => by
              rcases m with m | m
              · obtain ⟨j, hj⟩ := List.getElem?_of_mem m
                have hj : (κ'.cs.take μ.length)[j]? = some (some p) := hj
                have hlj := (List.getElem?_eq_some_iff.mp hj).1
                rw [List.length_take] at hlj
                rw [List.getElem?_take_of_lt (by omega)] at hj
                have := s'.inj i j p h1 hj
                omega
              · exact (s'.gst p m).2 (List.mem_of_getElem? h1)
            have len : (κ'.cut μ.length).cs.length = μ.length := by show (κ'.cs.take μ.length).length = _; rw [List.length_take]; omega
            -- the hidden way: p is hidden first, then known as a cell
            have xe : Ext0 (κ'.cut μ.length) H' ((κ'.cut μ.length).hide p) H' → True := fun _ => trivial
            have hHp : ∀ q ∈ (κ'.cut μ.length).gh, q ≠ p := fun q hq e => apart (.inr (e ▸ hq))
            have rel : RelL g (κ'.cut μ.length) H' xs vs := h4.cut hn hx
            -- what stands in κ' stands apart from p as well, for p is a cell there
            have x1 : Ext0 κ' H' ((κ'.cut μ.length).more p) H' → True := fun _ => trivial
            have sep : ∀ a o, H' a = some o → ¬ κ'.has a → ¬ ((κ'.cut μ.length).more p).has a := fun a o ha n m => by
              rcases m with m | m
              · rcases List.mem_append.mp m with m | m
                · exact n (.inl (List.mem_of_mem_take m))
                · have : a = p := by simpa using m
                  exact n (.inl (by rw [this]; exact List.mem_of_getElem? h1))
              · exact n (.inr m)
            have relM : ∀ {xs : List DV} {vs : List V}, RelL g κ' H' xs vs → lowL μ.length xs = true → RelL g ((κ'.cut μ.length).more p) H' xs vs := by
              -- by a detour: cells below the bound keep their places
              have y : Ext0 (KA.mk (κ'.cs.take μ.length ++ κ'.cs.drop μ.length) κ'.gh) H' ((κ'.cut μ.length).more p) H' → True := fun _ => trivial
              have both : (∀ (d : DV) (v : V), Rel g κ' H' d v → d.low μ.length = true → Rel g ((κ'.cut μ.length).more p) H' d v) ∧ (∀ (xs : List DV) (vs : List V), RelL g κ' H' xs vs → lowL μ.length xs = true → RelL g ((κ'.cut μ.length).more p) H' xs vs) := by
                have at' : ∀ {a o}, At κ' H' a o → At ((κ'.cut μ.length).more p) H' a o := fun {a o} h => ⟨h.1, sep a o h.1 h.2⟩
                have fl : ∀ {a vs}, FrL g κ' H' a vs → FrL g ((κ'.cut μ.length).more p) H' a vs := fun {a vs} h => by
                  rcases h with h | ⟨ob, h⟩ | h
                  · exact .inl (at' h)
                  · exact .inr (.inl ⟨ob, at' h⟩)
                  · exact .inr (.inr h)
                have ft : ∀ {a vs}, FrT g κ' H' a vs → FrT g ((κ'.cut μ.length).more p) H' a vs := fun {a vs} h => by
                  rcases h with ⟨ob, d, h⟩ | h
                  · exact .inl ⟨ob, d, at' h⟩
                  · exact .inr h
                suffices hh : ∀ n : Nat, (∀ (d : DV) (v : V), sizeOf d < n → Rel g κ' H' d v → d.low μ.length = true → Rel g ((κ'.cut μ.length).more p) H' d v) ∧ (∀ (xs : List DV) (vs : List V), sizeOf xs < n → RelL g κ' H' xs vs → lowL μ.length xs = true → RelL g ((κ'.cut μ.length).more p) H' xs vs) from
                  ⟨fun d v => (hh (sizeOf d + 1)).1 d v (Nat.lt_succ_self _), fun xs vs => (hh (sizeOf xs + 1)).2 xs vs (Nat.lt_succ_self _)⟩
                intro n
                induction n with
                | zero => exact ⟨fun _ _ h => absurd h (Nat.not_lt_zero _), fun _ _ h => absurd h (Nat.not_lt_zero _)⟩
                | succ n ih =>
                  refine ⟨fun d v hs r b => ?_, fun xs vs hs r b => ?_⟩
                  · cases d with
                    | tup xs =>
                      simp only [Rel] at r ⊢; simp only [DV.low] at b
                      obtain ⟨a, vs, h1, h2, h3⟩ := r
                      exact ⟨a, vs, h1, ft h2, ih.2 xs vs (by simp at hs; omega) h3 b⟩
                    | lst xs =>
                      simp only [Rel] at r ⊢; simp only [DV.low] at b
                      obtain ⟨a, vs, h1, h2, h3⟩ := r
                      exact ⟨a, vs, h1, at' h2, ih.2 xs vs (by simp at hs; omega) h3 b⟩
                    | scr xs =>
                      simp only [Rel] at r ⊢; simp only [DV.low] at b
                      obtain ⟨a, vs, h1, h2, h3⟩ := r
                      exact ⟨a, vs, h1, fl h2, ih.2 xs vs (by simp at hs; omega) h3 b⟩
                    | dct ks xs =>
                      simp only [Rel] at r ⊢; simp only [DV.low] at b
                      obtain ⟨a, vs, h1, h2, hl, h3⟩ := r
                      exact ⟨a, vs, h1, at' h2, hl, ih.2 xs vs (by simp at hs; omega) h3 b⟩
                    | obj c ns xs =>
                      simp only [Rel] at r ⊢; simp only [DV.low] at b
                      obtain ⟨a, dx, vs, h1, h2, hl, h3⟩ := r
                      exact ⟨a, dx, vs, h1, at' h2, hl, ih.2 xs vs (by simp at hs; omega) h3 b⟩
                    | exn c ns xs =>
                      simp only [Rel] at r ⊢; simp only [DV.low] at b
                      obtain ⟨a, d, vs, h0, h1, h2, hl, h3⟩ := r
                      exact ⟨a, d, vs, h0, h1, at' h2, hl, ih.2 xs vs (by simp at hs; omega) h3 b⟩
                    | exv c ns xs =>
                      simp only [Rel] at r ⊢; simp only [DV.low] at b
                      obtain ⟨a, d, vs, h1, h2, h0, hl, h3⟩ := r
                      exact ⟨a, d, vs, h1, at' h2, at' h0, hl, ih.2 xs vs (by simp at hs; omega) h3 b⟩
                    | cell i =>
                      simp only [Rel] at r ⊢; simp only [DV.low, decide_eq_true_eq] at b
                      refine ⟨by show i < (κ'.cs.take μ.length ++ [some p]).length; simp; omega, fun a ha => r.2 a ?_⟩
                      have ha : (κ'.cs.take μ.length ++ [some p])[i]? = some (some a) := ha
                      rw [List.getElem?_append_left (by rw [List.length_take]; omega), List.getElem?_take_of_lt b] at ha
                      exact ha
                    | _ => simp only [Rel] at r ⊢; exact r
                  · cases xs with
                    | nil => simp only [RelL] at r ⊢; exact r
                    | cons x xs =>
                      simp only [lowL, Bool.and_eq_true] at b
                      obtain ⟨v, r', rfl, q1, q2⟩ := r.of_cons
                      exact RelL.cons (ih.1 x v (by simp at hs; omega) q1 b.1) (ih.2 xs r' (by simp at hs; omega) q2 b.2)
              exact fun {xs vs} => both.2 xs vs
            refine ⟨(κ'.cut μ.length).more p, ⟨⟨ex.keep, fun a o ha n => ?_, ?_, fun j a hj ha => ?_⟩, ex.ghs, ex.ghv⟩, ⟨?_, ?_, ?_, ?_, ?_⟩, ?_⟩
            · exact sep a o (e.keep a o ha n) (e.sep a o ha n)
            · show κ.cs.length ≤ (κ'.cs.take μ.length ++ [some p]).length
              have := s.len; simp; omega
            · have ha : (κ'.cs.take μ.length ++ [some p])[j]? = some (some a) := ha
              have hjl : j < μ.length := by rw [← s.len]; exact hj
              rw [List.getElem?_append_left (by rw [List.length_take]; omega), List.getElem?_take_of_lt hjl] at ha
              exact e.old j a hj ha
            · show (κ'.cs.take μ.length ++ [some p]).length = _
              have h1' := s'.len
              simp; omega
            · intro j k a hj hk
              have key : ∀ (i : Nat), (κ'.cs.take μ.length ++ [some p])[i]? = some (some a) → (i < μ.length ∧ κ'.cs[i]? = some (some a)) ∨ (i = μ.length ∧ a = p) := fun i hi => by
                have lt : (κ'.cs.take μ.length).length = μ.length := by rw [List.length_take]; omega
                by_cases hl : i < μ.length
                · rw [List.getElem?_append_left (by omega), List.getElem?_take_of_lt hl] at hi; exact .inl ⟨hl, hi⟩
                · rw [List.getElem?_append_right (by omega), lt] at hi
                  have : i - μ.length = 0 := by
                    have := (List.getElem?_eq_some_iff.mp hi).1
                    simp at this; omega
                  rw [this] at hi
                  have e : p = a := by simpa using hi
                  exact .inr ⟨by omega, e.symm⟩
              rcases key j hj with ⟨a1, a2⟩ | ⟨a1, a2⟩ <;> rcases key k hk with ⟨a3, a4⟩ | ⟨a3, a4⟩
              · exact s'.inj j k a a2 a4
              · rw [a4] at a2; have := s'.inj i j p h1 a2; omega
              · rw [a2] at a4; have := s'.inj i k p h1 a4; omega
              · omega
            · intro j c hc
              show ∃ a, (κ'.cs.take μ.length ++ [some p])[j]? = some a ∧ _
              have lt : (μ'.take μ.length).length = μ.length := by have := s'.len; rw [List.length_take]; omega
              have ltk : (κ'.cs.take μ.length).length = μ.length := by rw [List.length_take]; omega
              by_cases hl : j < μ.length
              · rw [List.getElem?_append_left (by omega)] at hc
                have hm := List.mem_of_getElem? hc
                rw [List.getElem?_take_of_lt hl] at hc
                obtain ⟨a, a1, a2⟩ := s'.at_ j c hc
                refine ⟨a, by rw [List.getElem?_append_left (by omega), List.getElem?_take_of_lt hl]; exact a1, ?_⟩
                have b := all_low ha c hm
                cases c with
                | dead => exact a2
                | lst xs =>
                  obtain ⟨p', vs', rfl, h5, h6⟩ := a2
                  exact ⟨p', vs', rfl, h5, relM h6 b⟩
                | ins c ns xs =>
                  obtain ⟨p', dx, vs', rfl, h5, hl, h6⟩ := a2
                  exact ⟨p', dx, vs', rfl, h5, hl, relM h6 b⟩
                | dct ks xs =>
                  obtain ⟨p', vs', rfl, h5, hl, h6⟩ := a2
                  exact ⟨p', vs', rfl, h5, hl, relM h6 b⟩
              · rw [List.getElem?_append_right (by omega), lt] at hc
                have e0 : j - μ.length = 0 := by
                  have := (List.getElem?_eq_some_iff.mp hc).1
                  simp at this; omega
                rw [e0] at hc
                have ec : CO.lst xs = c := by simpa using hc
                subst ec
                refine ⟨some p, by rw [List.getElem?_append_right (by omega), ltk, e0]; rfl, p, vs, rfl, h3, relM h4 hx⟩
            · intro a ha
              obtain ⟨b1, b2⟩ := s'.gst a ha
              refine ⟨b1, fun m => ?_⟩
              rcases List.mem_append.mp m with m | m
              · exact b2 (List.mem_of_mem_take m)
              · have : a = p := by simpa using m
                exact hHp a ha this
            · intro q hq
              obtain ⟨m, t⟩ := s'.tbs q hq
              exact ⟨m, t.move rfl fun c z => ⟨z.1, sep _ _ z.1 z.2⟩⟩
            · simp only [Rel]
              refine ⟨by show μ.length < (κ'.cs.take μ.length ++ [some p]).length; simp; omega, fun a ha => ?_⟩
              have ha : (κ'.cs.take μ.length ++ [some p])[μ.length]? = some (some a) := ha
              have ltk : (κ'.cs.take μ.length).length = μ.length := by rw [List.length_take]; omega
              rw [List.getElem?_append_right (by omega), ltk] at ha
              simp at ha
              rw [← ha]; exact r.2 p h1
          · rw [if_neg hx] at h; cases h
        | dead => cases h
        | ins c ns xs => cases h
        | dct ks xs => cases h
  | _ => cases h
theorem fin_ok {md : Md} {d d' : DV} {μ'' : Sto} {v : V} (s : StoOk g κ H μ) (e : Ext κ H κ' H') (s' : StoOk g κ' H' μ') (r : Rel g κ' H' d v) (h : fin md μ.length d μ' = .ok d' μ'') :
    ∃ κ'', Ext κ H κ'' H' ∧ StoOk g κ'' H' μ'' ∧ Rel g κ'' H' d' v := by
  cases md with
  | fz => exact finF_ok s e s' r h
  | cl => exact finC_ok s e s' r h
  | an =>
    have h : finA μ.length d μ' = .ok d' μ'' := h
    unfold finA at h
    split at h
    · split at h
      · exact finF_ok s e s' r h
      · exact finC_ok s e s' r h
    · exact finF_ok s e s' r h
theorem finF_no {n c : Nat} {ns : List Str} {xs : List DV} {d : DV} {μ'' : Sto} : finF n d μ' ≠ .ex c ns xs μ'' := by
  unfold finF
  intro h
  (repeat' split at h) <;> cases h
theorem finC_no {n c : Nat} {ns : List Str} {xs : List DV} {d : DV} {μ'' : Sto} : finC n d μ' ≠ .ex c ns xs μ'' := by
  unfold finC
  intro h
  (repeat' split at h) <;> cases h
theorem finA_no {n c : Nat} {ns : List Str} {xs : List DV} {d : DV} {μ'' : Sto} : finA n d μ' ≠ .ex c ns xs μ'' := by
  unfold finA
  intro h
  split at h
  · split at h
    · exact finF_no h
    · exact finC_no h
  · exact finF_no h
end

abbrev WF (E : XK) : WX := fun c d _ H => E c d H
def spF (g : Gc) (F : Fn) (np : Nat) : Sp := fun vs H Q E => vs.length = np ∧ ∃ κ ds μ, RelL g κ H ds vs ∧ StoOk g κ H μ ∧ wpR g (WF E) [] κ H (F ds μ) (fun d _ κ' H' => ∀ v, Rel g κ' H' d v → Q v H')
theorem wpR.slot {α : Type} {g : Gc} {E : XK} {W : WX} {σ τ : L2.St} {κ : KA} {H : Hp} {r : R α} {Φ : α → Sto → KA → Hp → Prop} (hW : ∀ c d H, W c d σ H → E c d H) (h : wpR g W σ κ H r Φ) : wpR g (WF E) τ κ H r Φ := by
  cases r with
  | ok a μ => exact h
  | ex c ns xs μ => intro κ' H' e s d vs h1 h2 h3; exact hW _ _ _ (h κ' H' e s d vs h1 h2 h3)
  | stuck => exact h
section
variable {P : Program} {w : World} {g : Gc} {mg : Str → Option Value} {base : Heap}
theorem start_rel {κ : KA} {H : Hp} {N : List Str} {ds : List DV} {vs : List V} (r : RelL g κ H ds vs) : RelE g κ H (ds.map some ++ List.replicate (N.length - ds.length) none) (L2.start N vs) := by
  refine ⟨by unfold L2.start; simp [r.length], fun i d hd => ?_⟩
  unfold L2.start
  by_cases hi : i < ds.length
  · rw [List.getElem?_append_left (by simpa using hi), List.getElem?_map] at hd
    cases e : ds[i]? with
    | none => rw [e] at hd; cases hd
    | some d' =>
      rw [e] at hd; cases hd
      obtain ⟨v, h1, h2⟩ := r.get e
      exact ⟨v, by rw [List.getElem?_append_left (by have := r.length; simp; omega), List.getElem?_map, h1]; rfl, h2⟩
  · rw [List.getElem?_append_right (by simpa using hi), List.getElem?_replicate] at hd
    split at hd <;> cases hd
/-- a def by its body -/
theorem gf_ok {x qual : Str} {params : Arguments} {body : List Stmt} {scope : Scope} {dvs : List V} {kws : List (Str × V)} {f : Addr} {fd : FuncData} {N ps : List Str} {k : Nat} {md : Md} {fb : DS}
    (F : FunD g.K x qual params body scope dvs kws f fd) (S : FnScope N ps scope)
    (hb : ∀ (cdv : Value) (A : Around) (outer : List Env) (s : Shared) (H : Hp) (E : XK), Room k (A.deeper (envOfC qual scope s.heap.objs.size f cdv)) → GSs g (WF E) (cxOf (L2.CX P w) P w g.K mg base N qual scope f cdv A outer s H E) body fb) :
    FnOk P w g.K mg base (L2.CX P w) (k + 1) f fd ps (spF g (runF md ps.length N.length fb) ps.length) := by
  refine F.ok S (fun vs H Q E h => h.1) (fun cdv A outer s H vs Q E hr h => ⟨_, hb cdv A outer s H E hr, ?_⟩)
  obtain ⟨hl, κ, ds, μ, r, so, h⟩ := h
  have hd : ds.length = ps.length := by rw [r.length]; exact hl
  unfold runF at h
  rw [if_pos hd] at h
  refine ⟨κ, _, μ, start_rel r, so, ?_⟩
  generalize fb (ds.map some ++ List.replicate (N.length - ds.length) none) μ = out at h
  have fin' : ∀ {d : DV} {v : V} {κ' : KA} {H' : Hp} {μ' : Sto}, Ext κ H κ' H' → StoOk g κ' H' μ' → Rel g κ' H' d v → wpR g (WF E) [] κ H (fin md μ.length d μ') (fun d _ κ' H' => ∀ v, Rel g κ' H' d v → Q v H') → Q v H' := fun {d v κ' H' μ'} e s' rv h => by
    cases ef : fin md μ.length d μ' with
    | ok d' μ'' =>
      rw [ef] at h
      obtain ⟨κ'', e2, s2, r2⟩ := fin_ok so e s' rv ef
      exact h κ'' H' e2 s2 v r2
    | ex c ns xs μ'' => cases md with
      | fz => exact (finF_no ef).elim
      | cl => exact (finC_no ef).elim
      | an => exact (finA_no ef).elim
    | stuck => rw [ef] at h; exact h.elim
  cases out with
  | nx ρ' μ' => intro κ' H' σ' e s' _; exact fin' e s' (by simp [Rel]) h
  | rt d μ' => intro κ' H' v e s' rv; exact fin' e s' rv h
  | bk ρ' μ' => exact h.elim
  | ct ρ' μ' => exact h.elim
  | ex c ns xs ρ' μ' =>
    intro κ' H' σ' e s' _ d vs' h1 h2 h3
    simp only at h
    unfold finX at h
    by_cases hl : μ'.length = μ.length
    · rw [if_pos hl] at h; exact h κ' H' e s' d vs' h1 h2 h3
    · rw [if_neg hl] at h
      by_cases hc : ((μ'.take μ.length).all (CO.low μ.length) && lowL μ.length xs) = true
      · rw [if_pos hc] at h
        simp only [Bool.and_eq_true] at hc
        have hn : μ.length ≤ κ'.cs.length := by rw [← so.len]; exact e.len
        exact h _ H' (by rw [← so.len]; exact e.cut) (s'.cut hn (all_low hc.1)) d vs' h1.cut h2 (h3.cut hn hc.2)
      · rw [if_neg hc] at h; exact h.elim
  | stuck => exact h.elim
/-- what never ends well keeps every promise -/
theorem fnOk_stuck {f : Addr} {fd : FuncData} {ps : List Str} {k : Nat} : FnOk P w g.K mg base (L2.CX P w) k f fd ps (spF g (fun _ _ => .stuck) ps.length) :=
  ⟨fun vs H Q E h => h.1, fun A outer s H args us vs Q E _ _ _ _ h => by obtain ⟨_, _, _, _, _, _, h⟩ := h; exact h.elim⟩

/-- a def as callers see it -/
structure FnG (P : Program) (w : World) (g : Gc) (mg : Str → Option Value) (base : Heap) (k : Nat) (x : Str) (st : Stmt) (ps : List Str) (dvs : List V) (F : Fn) : Prop where
  ex : ∃ (f : Addr) (fd : FuncData), mg x = some (.ref f) ∧ FunD g.K x x (defArgs st) (defBody st) (defScope st) dvs [] f fd ∧ FnOk P w g.K mg base (L2.CX P w) k f fd ps (spF g F ps.length)
theorem FnG.mono {k j : Nat} {x : Str} {st : Stmt} {ps : List Str} {dvs : List V} {F : Fn} (G : FnG P w g mg base k x st ps dvs F) (h : k ≤ j) : FnG P w g mg base j x st ps dvs F := by
  obtain ⟨f, fd, h1, h2, h3⟩ := G.ex
  exact ⟨f, fd, h1, h2, h3.mono h⟩
end

section
variable {g : Gc} {W : WX} {X : Cx} {e : Expr} {es : List Expr} {fr fk : DA} {pos p : Pos} {x : Str} {k : Nat} {st : Stmt} {ps : List Str} {dvs : List V} {F : Fn}
/-- f(..), dds: the defaults that fill up -/
def eCall (F : Fn) (r : DA) : DE := fun ρ μ => (r ρ μ).bind fun xs μ1 => F xs μ1
def eCallD (F : Fn) (dds : List DV) (r : DA) : DE := fun ρ μ => (r ρ μ).bind fun xs μ1 => F (xs ++ dds) μ1
/-- only calls with the right number of arguments end well -/
def Ar (F : Fn) (np : Nat) : Prop := ∀ ds μ, ds.length ≠ np → F ds μ = .stuck
theorem ar_run {md : Md} {np n : Nat} {b : DS} : Ar (runF md np n b) np := fun ds μ h => by unfold runF; rw [if_neg h]
theorem sp_read {σ : L2.St} {κ : KA} {H : Hp} {ds : List DV} {vs : List V} {μ : Sto} {Q : VK} {np : Nat} (ar : Ar F np) (r : RelL g κ H ds vs) (s : StoOk g κ H μ) (h : wpR g W σ κ H (F ds μ) (fun d _ κ' H' => ∀ v, Rel g κ' H' d v → Q v H')) : spF g F np vs H Q (WE W σ) := by
  refine ⟨?_, κ, ds, μ, r, s, h.slot fun _ _ _ q => q⟩
  by_cases hn : ds.length = np
  · rw [← r.length]; exact hn
  · rw [ar ds μ hn] at h; exact h.elim
theorem ge_call (G : FnG X.prog X.w g X.mg X.base k x st ps dvs F) (xg : X.K = g.K) (ar : Ar F ps.length) (hr : Room k X.A) (hg : Gl X x) (tk : Takes X W) (ha : GA g W X (e :: es) fr) (hd : dvs = [])
    (hb : ∀ (kV doc pm : Value) (an : Option Addr) (cdv ct : Value) (us : List Value), us.length = ps.length → bindArgs (PySem.W.fnOf x x (defArgs st) (defBody st) (defScope st) .none kV doc pm an cdv ct) ⟨us, []⟩ = pure (ps.zip us))
    (hdb : (x == ("__debug__" : Str)) = false := by decide) (he : starEach (e :: es) X.env = (false, eval e X.env) :: starEach es X.env := by rfl) (hpl : (backTo pos (starEach es X.env)).any (·.1) = false := by rfl) :
    GE g W X (.Call (.Name x p) (e :: es) [] pos) (eCall F fr) := by
  obtain ⟨K, cls, T, ex⟩ := g
  obtain rfl : X.K = K := xg
  subst hd
  obtain ⟨f, fd, h1, h2, h3⟩ := G.ex
  have bn : Binds X.K fd ps [] := h2.bindsN hb
  refine PE.imp (pe_callSD (E := fun σ => WE W σ) h3 hr hg h1 h2.kp bn .nil (fun σ => passAt tk σ) ha hdb he hpl) fun σ H Q q => ?_
  obtain ⟨κ, ρ, μ, he, hs, hw⟩ := q
  refine ⟨κ, ρ, μ, he, hs, hw.bind.mono fun xs μ1 κ1 H1 e1 s1 hh vs rv => ?_⟩
  show spF _ F ps.length (vs ++ []) H1 Q (WE W σ)
  rw [List.append_nil]
  exact sp_read ar rv s1 hh
/-- f() -/
theorem ge_call0 (G : FnG X.prog X.w g X.mg X.base k x st [] dvs F) (xg : X.K = g.K) (ar : Ar F 0) (hr : Room k X.A) (hg : Gl X x) (tk : Takes X W) (hd : dvs = [])
    (hb : ∀ (kV doc pm : Value) (an : Option Addr) (cdv ct : Value) (us : List Value), us.length = 0 → bindArgs (PySem.W.fnOf x x (defArgs st) (defBody st) (defScope st) .none kV doc pm an cdv ct) ⟨us, []⟩ = pure (([] : List Str).zip us))
    (hdb : (x == ("__debug__" : Str)) = false := by decide) : GE g W X (.Call (.Name x p) [] [] pos) (eCall F aNil) := by
  obtain ⟨K, cls, T, ex⟩ := g
  obtain rfl : X.K = K := xg
  subst hd
  obtain ⟨f, fd, h1, h2, h3⟩ := G.ex
  have bn : Binds X.K fd [] [] := h2.bindsN hb
  refine ⟨fun pins s σ H Q I h => ?_⟩
  obtain ⟨κ, ρ, μ, he, hs, hw⟩ := h
  refine wpAny_Call_Name_kw (ld_glob I hg h1 ?_ hdb)
  refine PySem.W.callWith_K0 I.kIn h2.kp (run_fnSD (E := fun σ => WE W σ) (us := []) (vs := []) (dvs := []) (ds := []) h3 hr bn .nil (passAt tk σ) I .nil ?_)
  exact sp_read ar RelL.nil hs hw
/-- keywords -/
abbrev GK (g : Gc) (W : WX) (X : Cx) (kws : List Keyword) (f : DA) : Prop := PK X kws (tA g W f)
theorem PK.imp {X : Cx} {es : List Keyword} {t u : TA} (h : PK X es t) (f : ∀ σ H Q, u σ H Q → t σ H Q) : PK X es u := ⟨fun pos pins s σ H Q I q => h.run pos pins s σ H Q I (f _ _ _ q)⟩
theorem gk_nil : GK g W X [] aNil := PK.imp pk_nil fun σ H Q q => by
  obtain ⟨κ, ρ, μ, he, hs, hw⟩ := q
  exact hw κ H Ext.refl hs [] RelL.nil
theorem gk_cons {fa : DE} {kws : List Keyword} {nm : Option Str} {kpos : Pos} (ha : GE g W X e fa) (hr : GK g W X kws fr) : GK g W X (⟨nm, e, kpos⟩ :: kws) (aCons fa fr) := by
  refine PK.imp (pk_cons ha hr) fun σ H Q q => ?_
  obtain ⟨κ, ρ, μ, he, hs, hw⟩ := q
  refine ⟨κ, ρ, μ, he, hs, hw.bind.mono fun x μ1 κ1 H1 e1 s1 h1 v rv => ?_⟩
  refine ⟨κ1, ρ, μ1, he.ext e1, s1, h1.bind.mono fun xs μ2 κ2 H2 e2 s2 h2 vs rvs => ?_⟩
  exact h2 κ2 H2 Ext.refl s2 (v :: vs) (RelL.cons (rv.ext e2) rvs)
/-- values in the parameters' order -/
def permL {α : Type} (ix : List Nat) (l : List α) : List α := ix.filterMap fun i => l[i]?
theorem permL_vals {ix : List Nat} {vs : List V} {us : List Value} (r : Vals vs us) : Vals (permL ix vs) (permL ix us) := by
  induction ix with
  | nil => exact .nil
  | cons i ix ih =>
    unfold permL at ih ⊢
    simp only [List.filterMap_cons]
    cases e : vs[i]? with
    | none => rw [r.none_of e]; exact ih
    | some v =>
      obtain ⟨u, h1, h2⟩ := r.get e
      rw [h1]; exact .cons h2 ih
theorem permL_rel {ix : List Nat} {κ : KA} {H : Hp} {ds : List DV} {vs : List V} (r : RelL g κ H ds vs) : RelL g κ H (permL ix ds) (permL ix vs) := by
  induction ix with
  | nil => exact RelL.nil
  | cons i ix ih =>
    unfold permL at ih ⊢
    simp only [List.filterMap_cons]
    cases e : ds[i]? with
    | none =>
      have : vs[i]? = none := by
        have h1 := List.getElem?_eq_none_iff.mp e
        exact List.getElem?_eq_none_iff.mpr (by rw [← r.length]; exact h1)
      rw [this]; exact ih
    | some d =>
      obtain ⟨v, h1, h2⟩ := r.get e
      rw [h1]; exact RelL.cons h2 ih
def eCallK (F : Fn) (ix : List Nat) (n m : Nat) (r k : DA) : DE := fun ρ μ => (r ρ μ).bind fun xs μ1 => (k ρ μ1).bind fun ys μ2 => if xs.length = n ∧ ys.length = m then F (permL ix (xs ++ ys)) μ2 else .stuck
end
end SD

set_option Elab.async false
set_option linter.all false
set_option maxRecDepth 100000
set_option maxHeartbeats 4000000
namespace SD
open PySem PySem.Spec PyProof.Rows L2

def lstOf (μ : Sto) : DV → Option (List DV)
  | .lst xs => some xs
  | .cell i => match μ[i]? with
    | some (.lst xs) => some xs
    | _ => none
  | _ => none
def seqOf (μ : Sto) : DV → Option (List DV)
  | .scr xs => some xs
  | d => lstOf μ d
section
variable {g : Gc} {κ : KA} {H : Hp} {μ : Sto} {d e : DV} {v u : V}
theorem lstOf_rel {xs : List DV} (s : StoOk g κ H μ) (r : Rel g κ H d v) (h : lstOf μ d = some xs) : ∃ a vs, v = .ref a ∧ H a = some (.lst vs) ∧ RelL g κ H xs vs := by
  cases d with
  | lst ys =>
    cases h
    simp only [Rel] at r
    obtain ⟨a, vs, rfl, h2, h3⟩ := r
    exact ⟨a, vs, rfl, h2.1, h3⟩
  | cell i =>
    simp only [lstOf] at h
    cases ec : μ[i]? with
    | none => rw [ec] at h; cases h
    | some c =>
      rw [ec] at h
      cases c with
      | lst ys =>
        cases h
        simp only [Rel] at r
        obtain ⟨o, h1, h2⟩ := s.at_ i _ ec
        obtain ⟨p, vs, rfl, h3, h4⟩ := h2
        exact ⟨p, vs, r.2 p h1, h3, h4⟩
      | _ => cases h
  | _ => cases h
theorem seqOf_rel {xs : List DV} (s : StoOk g κ H μ) (r : Rel g κ H d v) (h : seqOf μ d = some xs) : ∃ a vs, v = .ref a ∧ SqL g.K H a vs ∧ RelL g κ H xs vs := by
  cases d with
  | scr ys =>
    cases h
    simp only [Rel] at r
    obtain ⟨a, vs, rfl, h2, h3⟩ := r
    exact ⟨a, vs, rfl, h2.sq, h3⟩
  | _ =>
    obtain ⟨a, vs, e, h2, h3⟩ := lstOf_rel s r h
    exact ⟨a, vs, e, .inl (.inl h2), h3⟩
theorem tup_rel {xs : List DV} (r : Rel g κ H (.tup xs) v) : ∃ a vs, v = .ref a ∧ SqT g.K H a vs ∧ RelL g κ H xs vs := by
  simp only [Rel] at r
  obtain ⟨a, vs, rfl, h2, h3⟩ := r
  exact ⟨a, vs, rfl, h2.sq, h3⟩
/-- the end of a reading: a value without an object; a new tuple; a new list -/
theorem rOut.flat {z : DV} {w : V} {Q : VK} (s : StoOk g κ H μ) (h : rOut g κ H μ (some z) Q) (r : Rel g κ H z w) : Q w H := h κ H Ext.refl s w r
theorem rOut.newT {xs : List DV} {vs : List V} {Q : VK} {p : Addr} {ob : Obj} (s : StoOk g κ H μ) (h : rOut g κ H μ (some (.tup xs)) Q) (r : RelL g κ H xs vs) (hp : H p = none) (hd : ob.dict = none) : Q (.ref p) (upd H p (.frz ob (.tup vs))) :=
  h κ _ (Ext.new s hp) (s.new hp) _ (rel_tup s hp hd r)
theorem rOut.newL {xs : List DV} {vs : List V} {Q : VK} {p : Addr} (s : StoOk g κ H μ) (h : rOut g κ H μ (some (.lst xs)) Q) (r : RelL g κ H xs vs) (hp : H p = none) : Q (.ref p) (upd H p (.lst vs)) :=
  h κ _ (Ext.new s hp) (s.new hp) _ (rel_lst s hp r)
end
theorem okLen_iff {n : Nat} : okLen n = true ↔ n ≤ sizeLine := by simp [okLen]

def vAdd : V2 := fun d e μ => match d, e with
  | .int i, .int j => some (.int (i + j))
  | .str a, .str b => if okLen (a.length + b.length) = true then some (.str (a ++ b)) else none
  | .tup xs, .tup ys => if okLen (xs.length + ys.length) = true then some (.tup (xs ++ ys)) else none
  | d, e => match lstOf μ d, lstOf μ e with
    | some xs, some ys => if okLen (xs.length + ys.length) = true then some (.lst (xs ++ ys)) else none
    | _, _ => none
def vSub : V2 := fun d e _ => match d, e with
  | .int i, .int j => some (.int (i - j))
  | _, _ => none
def mulOk (i j : Int) : Bool := (decide (i.natAbs < 2 ^ 64) || decide (j.natAbs < 2 ^ 64)) || decide (i.natAbs.log2 + j.natAbs.log2 < 1000000)
def vMul : V2 := fun d e μ => match d, e with
  | .int i, .int j => if mulOk i j = true then some (.int (i * j)) else none
  | d, .int k => match lstOf μ d with
    | some xs => if (decide (-(2 ^ 63) ≤ k) && decide (k < 2 ^ 63) && okLen (xs.length * k.toNat)) = true then some (.lst (List.replicate k.toNat xs).flatten) else none
    | none => none
  | _, _ => none
def vDiv : V2 := fun d e _ => match d, e with
  | .int i, .int j => if decide (0 < j) && decide (j < 1073741824) = true then some (.int (i / j)) else none
  | _, _ => none
def vMod : V2 := fun d e _ => match d, e with
  | .int i, .int j => if decide (0 < j) = true then some (.int (i % j)) else none
  | _, _ => none
def vPow : V2 := fun d e _ => match d, e with
  | .int i, .int j => if (decide (0 ≤ j) && decide (j ≤ 1000000) && decide (i.natAbs < 2 ^ 64)) = true then some (.int (i ^ j.toNat)) else none
  | _, _ => none
section
variable {g : Gc} {X : Cx}
theorem relL_rep {κ : KA} {H : Hp} {xs : List DV} {vs : List V} (r : RelL g κ H xs vs) : ∀ k : Nat, RelL g κ H (List.replicate k xs).flatten (List.replicate k vs).flatten
  | 0 => RelL.nil
  | k + 1 => by
    rw [List.replicate_succ, List.replicate_succ, List.flatten_cons, List.flatten_cons]
    exact r.append (relL_rep r k)
theorem opAdd (xg : XG g X) : OpR X (binaryOp .Add) (r2 g vAdd) := by
  intro pins s σ H x y v u Q I rx ry h
  obtain ⟨κ, d, e, μ, rd, re, so, ho⟩ := h
  unfold vAdd at ho
  split at ho
  · simp only [Rel] at rd re
    subst rd re
    exact op_add pins s σ H _ _ v u Q I rx ry ⟨_, _, rfl, rfl, ho.flat so (by simp [Rel])⟩
  · simp only [Rel] at rd re
    subst rd re
    split at ho
    · rename_i hz
      exact op_add_str pins s σ H _ _ v u Q I rx ry ⟨_, _, rfl, rfl, okLen_iff.mp hz, ho.flat so (by simp [Rel])⟩
    · exact ho.elim
  · rename_i xs ys
    obtain ⟨a, vs, rfl, h1, h2⟩ := tup_rel rd
    obtain ⟨b, ws, rfl, h3, h4⟩ := tup_rel re
    split at ho
    · rename_i hz
      have hz := okLen_iff.mp hz
      refine op_catF pins s σ H _ _ v u Q I rx ry ⟨a, b, vs, ws, rfl, rfl, by rw [xg.K]; exact h1, by rw [xg.K]; exact h3, by rw [← h2.length, ← h4.length]; exact hz, fun e => ?_, fun e1 e => ?_, fun e1 e2 p ob hp hd => ho.newT so (h2.append h4) hp hd⟩
      · subst e
        have : xs = [] := by have := h2.length; simpa using this
        subst this
        exact ho.flat so re
      · subst e
        have : ys = [] := by have := h4.length; simpa using this
        subst this
        rw [List.append_nil] at ho
        exact ho.flat so rd
    · exact ho.elim
  · split at ho
    · rename_i xs ys hx hy
      split at ho
      · rename_i hz
        obtain ⟨a, vs, rfl, h1, h2⟩ := lstOf_rel so rd hx
        obtain ⟨b, ws, rfl, h3, h4⟩ := lstOf_rel so re hy
        exact op_cat pins s σ H _ _ v u Q I rx ry ⟨a, b, vs, ws, rfl, rfl, h1, h3, by rw [← h2.length, ← h4.length]; exact okLen_iff.mp hz, fun p hp => ho.newL so (h2.append h4) hp⟩
      · exact ho.elim
    · exact ho.elim
theorem opMul : OpR X (binaryOp .Mult) (r2 g vMul) := by
  intro pins s σ H x y v u Q I rx ry h
  obtain ⟨κ, d, e, μ, rd, re, so, ho⟩ := h
  unfold vMul at ho
  split at ho
  · rename_i i j
    simp only [Rel] at rd re
    subst rd re
    split at ho
    · rename_i hz
      simp only [mulOk, Bool.or_eq_true, decide_eq_true_eq] at hz
      rcases hz with hz | hz
      · exact op_mul pins s σ H _ _ v u Q I rx ry ⟨_, _, rfl, rfl, by unfold CMul; omega, ho.flat so (by simp [Rel])⟩
      · exact op_mulW pins s σ H _ _ v u Q I rx ry ⟨_, _, rfl, rfl, hz, ho.flat so (by simp [Rel])⟩
    · exact ho.elim
  · rename_i k _
    split at ho
    · rename_i xs hx
      split at ho
      · rename_i hz
        simp only [Bool.and_eq_true, decide_eq_true_eq, okLen_iff] at hz
        obtain ⟨a, vs, rfl, h1, h2⟩ := lstOf_rel so rd hx
        simp only [Rel] at re
        subst re
        exact op_rep pins s σ H _ _ v u Q I rx ry ⟨a, k, vs, rfl, rfl, h1, hz.1.1, hz.1.2, by rw [← h2.length]; exact hz.2, fun p hp => ho.newL so (relL_rep h2 _) hp⟩
      · exact ho.elim
    · exact ho.elim
  · exact ho.elim
theorem opDiv : OpR X (binaryOp .FloorDiv) (r2 g vDiv) := by
  intro pins s σ H x y v u Q I rx ry h
  obtain ⟨κ, d, e, μ, rd, re, so, ho⟩ := h
  unfold vDiv at ho
  split at ho
  · simp only [Rel] at rd re
    subst rd re
    split at ho
    · rename_i hz
      simp only [Bool.and_eq_true, decide_eq_true_eq] at hz
      exact op_fdiv pins s σ H _ _ v u Q I rx ry ⟨_, _, rfl, rfl, hz, ho.flat so (by simp [Rel])⟩
    · exact ho.elim
  · exact ho.elim
theorem opMod : OpR X (binaryOp .Mod) (r2 g vMod) := by
  intro pins s σ H x y v u Q I rx ry h
  obtain ⟨κ, d, e, μ, rd, re, so, ho⟩ := h
  unfold vMod at ho
  split at ho
  · simp only [Rel] at rd re
    subst rd re
    split at ho
    · rename_i hz
      simp only [decide_eq_true_eq] at hz
      exact op_mod pins s σ H _ _ v u Q I rx ry ⟨_, _, rfl, rfl, hz, ho.flat so (by simp [Rel])⟩
    · exact ho.elim
  · exact ho.elim
theorem opPow : OpR X (binaryOp .Pow) (r2 g vPow) := by
  intro pins s σ H x y v u Q I rx ry h
  obtain ⟨κ, d, e, μ, rd, re, so, ho⟩ := h
  unfold vPow at ho
  split at ho
  · simp only [Rel] at rd re
    subst rd re
    split at ho
    · rename_i hz
      simp only [Bool.and_eq_true, decide_eq_true_eq] at hz
      exact op_pow pins s σ H _ _ v u Q I rx ry ⟨_, _, rfl, rfl, ⟨hz.1.1, hz.1.2, hz.2⟩, ho.flat so (by simp [Rel])⟩
    · exact ho.elim
  · exact ho.elim
def vNeg : V1 := fun d _ => match d with
  | .int i => some (.int (-i))
  | _ => none
theorem unNeg : UnR X (unaryOp .USub) (r1 g vNeg) := by
  intro pins s σ H x v Q I rx h
  obtain ⟨κ, d, μ, rd, so, ho⟩ := h
  unfold vNeg at ho
  split at ho
  · simp only [Rel] at rd
    subst rd
    exact un_neg pins s σ H _ v Q I rx ⟨_, rfl, ho.flat so (by simp [Rel])⟩
  · exact ho.elim

mutual
def toPy : DV → Option PyData
  | .non => some .none
  | .bl b => some (.bool b)
  | .int i => some (.int i)
  | .str x => some (.str x)
  | .tup xs => (toPyL xs).map .tuple
  | .lst xs => (toPyL xs).map .list
  | .scr xs => (toPyL xs).map .list
  | _ => none
def toPyL : List DV → Option (List PyData)
  | [] => some []
  | x :: xs => match toPy x, toPyL xs with
    | some p, some ps => some (p :: ps)
    | _, _ => none
end
def toPyC (μ : Sto) : DV → Option PyData
  | .cell i => match μ[i]? with
    | some (.lst xs) => (toPyL xs).map .list
    | _ => none
  | d => toPy d
mutual
theorem dp_of {κ : KA} {H : Hp} : ∀ {d : DV} {v : V} {p : PyData}, Rel g κ H d v → toPy d = some p → Dp g.K H v p
  | .non, _, _, r, h => by simp only [Rel] at r; subst r; cases h; exact .non
  | .bl b, _, _, r, h => by simp only [Rel] at r; subst r; cases h; exact .bl b
  | .int i, _, _, r, h => by simp only [Rel] at r; subst r; cases h; exact .int i
  | .str x, _, _, r, h => by simp only [Rel] at r; subst r; cases h; exact .str x
  | .tup xs, v, p, r, h => by
    obtain ⟨a, vs, rfl, h1, h2⟩ := tup_rel r
    simp only [toPy, Option.map_eq_some_iff] at h
    obtain ⟨ps, h3, rfl⟩ := h
    exact .tup h1 (dpAll_of h2 h3)
  | .lst xs, v, p, r, h => by
    simp only [Rel] at r
    obtain ⟨a, vs, rfl, h1, h2⟩ := r
    simp only [toPy, Option.map_eq_some_iff] at h
    obtain ⟨ps, h3, rfl⟩ := h
    exact .lst (.inl (.inl h1.1)) (dpAll_of h2 h3)
  | .scr xs, v, p, r, h => by
    simp only [Rel] at r
    obtain ⟨a, vs, rfl, h1, h2⟩ := r
    simp only [toPy, Option.map_eq_some_iff] at h
    obtain ⟨ps, h3, rfl⟩ := h
    exact .lst h1.sq (dpAll_of h2 h3)
  | .dct _ _, _, _, _, h => by simp [toPy] at h
  | .cell _, _, _, _, h => by simp [toPy] at h
  | .obj _ _ _, _, _, _, h => by simp [toPy] at h
  | .exn _ _ _, _, _, _, h => by simp [toPy] at h
  | .exv _ _ _, _, _, _, h => by simp [toPy] at h
  | .gl _, _, _, _, h => by simp [toPy] at h
  | .ty _, _, _, _, h => by simp [toPy] at h
theorem dpAll_of {κ : KA} {H : Hp} : ∀ {xs : List DV} {vs : List V} {ps : List PyData}, RelL g κ H xs vs → toPyL xs = some ps → DpAll g.K H vs ps
  | [], _, _, r, h => by cases r.of_nil; cases h; exact .nil
  | x :: xs, _, ps, r, h => by
    obtain ⟨v, r', rfl, h1, h2⟩ := r.of_cons
    simp only [toPyL] at h
    cases e1 : toPy x with
    | none => rw [e1] at h; cases h
    | some p =>
      cases e2 : toPyL xs with
      | none => rw [e1, e2] at h; cases h
      | some q =>
        rw [e1, e2] at h
        cases h
        exact .cons (dp_of h1 e1) (dpAll_of h2 e2)
end
theorem dpC_of {κ : KA} {H : Hp} {μ : Sto} {d : DV} {v : V} {p : PyData} (s : StoOk g κ H μ) (r : Rel g κ H d v) (h : toPyC μ d = some p) : Dp g.K H v p := by
  cases d with
  | cell i =>
    simp only [toPyC] at h
    cases ec : μ[i]? with
    | none => rw [ec] at h; cases h
    | some c =>
      rw [ec] at h
      cases c with
      | lst xs =>
        simp only [Option.map_eq_some_iff] at h
        obtain ⟨ps, h3, rfl⟩ := h
        obtain ⟨a, vs, rfl, h1, h2⟩ := lstOf_rel (xs := xs) s r (by simp only [lstOf, ec])
        exact .lst (.inl (.inl h1)) (dpAll_of h2 h3)
      | _ => cases h
  | _ => exact dp_of r h
/-- equal plain data -/
def flatEq : DV → DV → Bool
  | .non, .non => true
  | .bl a, .bl b => a == b
  | .int i, .int j => decide (i = j)
  | .str a, .str b => decide (a = b)
  | _, _ => false
def flatEqs : List DV → List DV → Bool
  | [], [] => true
  | x :: xs, y :: ys => flatEq x y && flatEqs xs ys
  | _, _ => false
/-- two dicts that are told alike -/
def dctEq (ks : List Key) (xs : List DV) (ls : List Key) (ys : List DV) : Bool := decide (ks = ls) && (decide ks.Nodup && flatEqs xs ys)
theorem flatEqs_rel {κ : KA} {H : Hp} : ∀ {xs ys : List DV} {vs ws : List V}, RelL g κ H xs vs → RelL g κ H ys ws → flatEqs xs ys = true → vs = ws ∧ ∀ v ∈ vs, flatB v = true
  | [], [], _, _, r, q, _ => by cases r.of_nil; cases q.of_nil; exact ⟨rfl, fun v hv => by cases hv⟩
  | x :: xs, y :: ys, _, _, r, q, h => by
    obtain ⟨v, vs, rfl, r1, r2⟩ := r.of_cons
    obtain ⟨w, ws, rfl, q1, q2⟩ := q.of_cons
    have h : (flatEq x y && flatEqs xs ys) = true := h
    rw [Bool.and_eq_true] at h
    obtain ⟨e, f⟩ := flatEqs_rel r2 q2 h.2
    have one : v = w ∧ flatB v = true := by
      have h1 := h.1
      unfold flatEq at h1
      split at h1
      · simp only [Rel] at r1 q1; subst r1 q1; exact ⟨rfl, rfl⟩
      · simp only [Rel] at r1 q1; subst r1 q1; exact ⟨by rw [eq_of_beq h1], rfl⟩
      · simp only [Rel] at r1 q1; subst r1 q1; exact ⟨by rw [of_decide_eq_true h1], rfl⟩
      · simp only [Rel] at r1 q1; subst r1 q1; exact ⟨by rw [of_decide_eq_true h1], rfl⟩
      · cases h1
    refine ⟨by rw [one.1, e], fun u hu => ?_⟩
    rcases List.mem_cons.mp hu with z | z
    · rw [z]; exact one.2
    · exact f u z
theorem valV_zip : ∀ {ks : List Key} {vs : List V}, ks.Nodup → ∀ p ∈ ks.zip vs, valV (ks.zip vs) p.1 = some p.2
  | [], _, _, p, hp => by simp at hp
  | k :: ks, [], _, p, hp => by simp at hp
  | k :: ks, v :: vs, hn, p, hp => by
    rw [List.zip_cons_cons] at hp ⊢
    obtain ⟨n1, n2⟩ := List.nodup_cons.mp hn
    rcases List.mem_cons.mp hp with e | hp
    · subst e; exact valV_pos rfl
    · have hk : p.1 ∈ ks := (List.of_mem_zip hp).1
      rw [valV_neg (fun e : k = p.1 => n1 (by rw [e]; exact hk))]
      exact valV_zip n2 p hp
theorem dctEq_rel {κ : KA} {H : Hp} {ks ls : List Key} {xs ys : List DV} {x y : V} {Q : VK} (rx : Rel g κ H (.dct ks xs) x) (ry : Rel g κ H (.dct ls ys) y) (h : dctEq ks xs ls ys = true) :
    ∃ a b kv lv, x = .ref a ∧ y = .ref b ∧ H a = some (.dK kv) ∧ H b = some (.dK lv) ∧ kv.length = lv.length ∧ ∀ p ∈ kv, valV lv p.1 = some p.2 ∧ flatB p.2 = true := by
  simp only [Rel] at rx ry
  obtain ⟨a, vs, rfl, h1, l1, r1⟩ := rx
  obtain ⟨b, ws, rfl, h2, l2, r2⟩ := ry
  unfold dctEq at h
  rw [Bool.and_eq_true, Bool.and_eq_true, decide_eq_true_eq, decide_eq_true_eq] at h
  obtain ⟨rfl, hn, hf⟩ := h
  obtain ⟨rfl, hb⟩ := flatEqs_rel r1 r2 hf
  exact ⟨a, b, _, _, rfl, rfl, h1.1, h2.1, rfl, fun p hp => ⟨valV_zip hn p hp, hb _ (List.of_mem_zip hp).2⟩⟩
mutual
def toPyM (μ : Sto) : DV → Option PyData
  | .tup xs => (toPyML μ xs).map .tuple
  | .lst xs => (toPyML μ xs).map .list
  | .cell i => match μ[i]? with
    | some (.lst xs) => (toPyL xs).map .list
    | _ => none
  | .non => some .none
  | .bl b => some (.bool b)
  | .int i => some (.int i)
  | .str x => some (.str x)
  | _ => none
def toPyML (μ : Sto) : List DV → Option (List PyData)
  | [] => some []
  | x :: xs => match toPyM μ x, toPyML μ xs with
    | some p, some ps => some (p :: ps)
    | _, _ => none
end
mutual
theorem dpM_of {κ : KA} {H : Hp} {μ : Sto} (s : StoOk g κ H μ) : ∀ {d : DV} {v : V} {p : PyData}, Rel g κ H d v → toPyM μ d = some p → Dp g.K H v p
  | .non, _, _, r, h => by simp only [Rel] at r; subst r; cases h; exact .non
  | .bl b, _, _, r, h => by simp only [Rel] at r; subst r; cases h; exact .bl b
  | .int i, _, _, r, h => by simp only [Rel] at r; subst r; cases h; exact .int i
  | .str x, _, _, r, h => by simp only [Rel] at r; subst r; cases h; exact .str x
  | .tup xs, v, p, r, h => by
    obtain ⟨a, vs, rfl, h1, h2⟩ := tup_rel r
    simp only [toPyM, Option.map_eq_some_iff] at h
    obtain ⟨ps, h3, rfl⟩ := h
    exact .tup h1 (dpML_of s h2 h3)
  | .lst xs, v, p, r, h => by
    simp only [Rel] at r
    obtain ⟨a, vs, rfl, h1, h2⟩ := r
    simp only [toPyM, Option.map_eq_some_iff] at h
    obtain ⟨ps, h3, rfl⟩ := h
    exact .lst (.inl (.inl h1.1)) (dpML_of s h2 h3)
  | .cell i, v, p, r, h => dpC_of s r h
  | .scr _, _, _, _, h => by simp [toPyM] at h
  | .dct _ _, _, _, _, h => by simp [toPyM] at h
  | .obj _ _ _, _, _, _, h => by simp [toPyM] at h
  | .exn _ _ _, _, _, _, h => by simp [toPyM] at h
  | .exv _ _ _, _, _, _, h => by simp [toPyM] at h
  | .gl _, _, _, _, h => by simp [toPyM] at h
  | .ty _, _, _, _, h => by simp [toPyM] at h
theorem dpML_of {κ : KA} {H : Hp} {μ : Sto} (s : StoOk g κ H μ) : ∀ {xs : List DV} {vs : List V} {ps : List PyData}, RelL g κ H xs vs → toPyML μ xs = some ps → DpAll g.K H vs ps
  | [], _, _, r, h => by cases r.of_nil; cases h; exact .nil
  | x :: xs, _, ps, r, h => by
    obtain ⟨v, r', rfl, h1, h2⟩ := r.of_cons
    simp only [toPyML] at h
    cases e1 : toPyM μ x with
    | none => rw [e1] at h; cases h
    | some p =>
      cases e2 : toPyML μ xs with
      | none => rw [e1, e2] at h; cases h
      | some q =>
        rw [e1, e2] at h
        cases h
        exact .cons (dpM_of s h1 e1) (dpML_of s h2 e2)
end
/-- a tuple of whatever == () -/
def eqT0 (d e : DV) : Option Bool := match d, e with
  | .tup xs, .tup [] => some xs.isEmpty
  | _, _ => none
theorem eqT0_some {d e : DV} {b : Bool} (h : eqT0 d e = some b) : ∃ xs, d = .tup xs ∧ e = .tup [] ∧ b = xs.isEmpty := by
  unfold eqT0 at h
  split at h
  · cases h; exact ⟨_, rfl, rfl, rfl⟩
  · cases h
/-- == of data -/
def eqP (d e : DV) (μ : Sto) : Option Bool := match toPyC μ d, toPyC μ e with
  | some p, some q => if (SeqAt.shaped p && SeqAt.shaped q) = true then some (PyData.eqv p q) else none
  | _, _ => match toPyM μ d, toPyM μ e with
    | some p, some q => if (SeqAt.shaped p && SeqAt.shaped q) = true then some (PyData.eqv p q) else none
    | _, _ => eqT0 d e
def eqD (d e : DV) (μ : Sto) : Option Bool := match d, e with
  | .dct ks xs, .dct ls ys => if dctEq ks xs ls ys = true then some true else none
  | d, e => eqP d e μ
def vEq : V2 := fun d e μ => (eqD d e μ).map .bl
def vNe : V2 := fun d e μ => (eqD d e μ).map fun b => .bl (!b)
theorem eqP_some {κ : KA} {H : Hp} {d e : DV} {μ : Sto} {b : Bool} {x y : V} (so : StoOk g κ H μ) (rd : Rel g κ H d x) (re : Rel g κ H e y) (h : eqP d e μ = some b) : (∃ p q, Dp g.K H x p ∧ Dp g.K H y q ∧ SeqAt.shaped p = true ∧ SeqAt.shaped q = true ∧ b = PyData.eqv p q) ∨ ∃ xs, d = .tup xs ∧ e = .tup [] ∧ b = xs.isEmpty := by
  unfold eqP at h
  split at h
  · split at h
    · rename_i p q h1 h2 hz
      rw [Bool.and_eq_true] at hz
      cases h
      exact .inl ⟨p, q, dpC_of so rd h1, dpC_of so re h2, hz.1, hz.2, rfl⟩
    · cases h
  · split at h
    · split at h
      · rename_i p q h1 h2 hz
        rw [Bool.and_eq_true] at hz
        cases h
        exact .inl ⟨p, q, dpM_of so rd h1, dpM_of so re h2, hz.1, hz.2, rfl⟩
      · cases h
    · exact .inr (eqT0_some h)
theorem eqD_some {κ : KA} {H : Hp} {d e : DV} {μ : Sto} {b : Bool} {x y : V} (so : StoOk g κ H μ) (rd : Rel g κ H d x) (re : Rel g κ H e y) (h : eqD d e μ = some b) : (∃ p q, Dp g.K H x p ∧ Dp g.K H y q ∧ SeqAt.shaped p = true ∧ SeqAt.shaped q = true ∧ b = PyData.eqv p q) ∨ (∃ ks xs ls ys, d = .dct ks xs ∧ e = .dct ls ys ∧ dctEq ks xs ls ys = true ∧ b = true) ∨ ∃ xs, d = .tup xs ∧ e = .tup [] ∧ b = xs.isEmpty := by
  unfold eqD at h
  split at h
  · split at h
    · rename_i z; cases h; exact .inr (.inl ⟨_, _, _, _, rfl, rfl, z, rfl⟩)
    · cases h
  · exact (eqP_some so rd re h).imp id .inr
/-- both tuples, the second of nothing -/
theorem t0_at {κ : KA} {pins : List (Addr × Obj)} {σ : L2.St} {H : Hp} {s : Shared} {xs : List DV} {x y : V} {v u : Value} (xg : XG g X) (I : Inv X pins σ H s) (rd : Rel g κ H (.tup xs) x) (re : Rel g κ H (.tup []) y) (rx : RelV x v) (ry : RelV y u) :
    ∃ a b i1 i2, v = .ref a ∧ u = .ref b ∧ s.heap.IsTuple a i1 ∧ s.heap.IsTuple b i2 ∧ i1.size = xs.length ∧ i2.size = 0 := by
  obtain ⟨a, vs, rfl, h1, h2⟩ := tup_rel rd
  obtain ⟨b, ws, rfl, h3, h4⟩ := tup_rel re
  obtain ⟨i1, r1, t1, z1⟩ := I.tuple (xs := vs) (a := a) (by rw [xg.K]; exact h1)
  obtain ⟨i2, r2, t2, z2⟩ := I.tuple (xs := ws) (a := b) (by rw [xg.K]; exact h3)
  refine ⟨a, b, i1.toArray, i2.toArray, rx, ry, t1, t2, ?_, ?_⟩
  · rw [List.size_toArray, ← r1.length, ← h2.length]
  · have := h4.length
    rw [List.size_toArray, ← r2.length, ← this]
    rfl
theorem opEq (xg : XG g X) (hu : X.A.units + 64 < cLine) : OpR X (compareOp .Eq) (r2 g vEq) := by
  intro pins s σ H x y v u Q I rx ry h
  obtain ⟨κ, d, e, μ, rd, re, so, ho⟩ := h
  unfold vEq at ho
  cases hb : eqD d e μ with
  | none => rw [hb] at ho; exact ho.elim
  | some b =>
    rw [hb] at ho
    rcases eqD_some so rd re hb with ⟨p, q, h1, h2, h3, h4, rfl⟩ | ⟨ks, xs, ls, ys, rfl, rfl, hz, rfl⟩ | ⟨xs, rfl, rfl, rfl⟩
    rotate_left 2
    · obtain ⟨a, b, i1, i2, rfl, rfl, t1, t2, z1, z2⟩ := t0_at xg I rd re rx ry
      refine SeqAt.RcAt.tuples (e := fun _ => true) t1 t2 (by omega) (fun j _ h => by omega) X.prog X.w _ _ ⟨.bl xs.isEmpty, H, I, ?_, rOut.flat so ho (by simp [Rel])⟩
      rw [z1, z2, Nat.min_zero]
      cases xs <;> rfl
    · exact op_eqD hu pins s σ H _ _ v u Q I rx ry ⟨p, q, by rw [xg.K]; exact h1, by rw [xg.K]; exact h2, h3, h4, rOut.flat so ho (by simp [Rel])⟩
    · obtain ⟨a, b, kv, lv, e1, e2, h1, h2, h3, h4⟩ := dctEq_rel (Q := Q) rd re hz
      exact op_eq_dictA (by omega) pins s σ H _ _ v u Q I rx ry ⟨a, b, kv, lv, e1, e2, h1, h2, h3, h4, rOut.flat so ho (by simp [Rel])⟩
theorem opNe (xg : XG g X) (hu : X.A.units + 64 < cLine) : OpR X (compareOp .NotEq) (r2 g vNe) := by
  intro pins s σ H x y v u Q I rx ry h
  obtain ⟨κ, d, e, μ, rd, re, so, ho⟩ := h
  unfold vNe at ho
  cases hb : eqD d e μ with
  | none => rw [hb] at ho; exact ho.elim
  | some b =>
    rw [hb] at ho
    rcases eqD_some so rd re hb with ⟨p, q, h1, h2, h3, h4, rfl⟩ | ⟨ks, xs, ls, ys, rfl, rfl, hz, rfl⟩ | ⟨xs, rfl, rfl, rfl⟩
    rotate_left 2
    · obtain ⟨a, b, i1, i2, rfl, rfl, t1, t2, z1, z2⟩ := t0_at xg I rd re rx ry
      refine SeqAt.RcNeAt.tuples (e := fun _ => true) t1 t2 (by omega) (fun j _ h => by omega) X.prog X.w _ _ ⟨.bl (!xs.isEmpty), H, I, ?_, rOut.flat so ho (by simp [Rel])⟩
      rw [z1, z2, Nat.min_zero]
      cases xs <;> rfl
    · exact op_neD hu pins s σ H _ _ v u Q I rx ry ⟨p, q, by rw [xg.K]; exact h1, by rw [xg.K]; exact h2, h3, h4, rOut.flat so ho (by simp [Rel])⟩
    · obtain ⟨a, b, kv, lv, e1, e2, h1, h2, h3, h4⟩ := dctEq_rel (Q := Q) rd re hz
      exact op_ne_dictA (by omega) pins s σ H _ _ v u Q I rx ry ⟨a, b, kv, lv, e1, e2, h1, h2, h3, h4, rOut.flat so ho (by simp [Rel])⟩
def vCmp (f : Int → Int → Bool) : V2 := fun d e _ => match d, e with
  | .int i, .int j => some (.bl (f i j))
  | _, _ => none
theorem cmp_int {op : CmpOp} {f : Int → Int → Bool} (ho : OpR X (compareOp op) (rI0 fun i j => .bl (f i j))) : OpR X (compareOp op) (r2 g (vCmp f)) := by
  intro pins s σ H x y v u Q I rx ry h
  obtain ⟨κ, d, e, μ, rd, re, so, h⟩ := h
  unfold vCmp at h
  split at h
  · simp only [Rel] at rd re
    subst rd re
    exact ho pins s σ H _ _ v u Q I rx ry ⟨_, _, rfl, rfl, h.flat so (by simp [Rel])⟩
  · exact h.elim
def vLt : V2 := vCmp fun i j => decide (i < j)
def vLe : V2 := vCmp fun i j => decide (i ≤ j)
def vGt : V2 := vCmp fun i j => decide (j < i)
def vGe : V2 := vCmp fun i j => decide (j ≤ i)
theorem opLt : OpR X (compareOp .Lt) (r2 g vLt) := cmp_int op_lt
theorem opGt : OpR X (compareOp .Gt) (r2 g vGt) := cmp_int op_gt
theorem opGe : OpR X (compareOp .GtE) (r2 g vGe) := cmp_int op_ge
def isNon : DV → Bool
  | .non => true
  | _ => false
theorem isNon_rel {κ : KA} {H : Hp} {d : DV} {v : V} {μ : Sto} (s : StoOk g κ H μ) (r : Rel g κ H d v) (hc : ∀ i, d = .cell i → ∃ xs, μ[i]? = some (.lst xs)) : decide (v = .non) = isNon d := by
  cases d with
  | non => simp only [Rel] at r; subst r; rfl
  | cell i =>
    obtain ⟨xs, hx⟩ := hc i rfl
    obtain ⟨a, vs, rfl, _⟩ := lstOf_rel (xs := xs) s r (by simp only [lstOf, hx])
    rfl
  | bl b => simp only [Rel] at r; subst r; rfl
  | int b => simp only [Rel] at r; subst r; rfl
  | str b => simp only [Rel] at r; subst r; rfl
  | ty b => simp only [Rel] at r; subst r; rfl
  | gl b => simp only [Rel] at r; subst r; rfl
  | tup xs => simp only [Rel] at r; obtain ⟨a, vs, rfl, _⟩ := r; rfl
  | lst xs => simp only [Rel] at r; obtain ⟨a, vs, rfl, _⟩ := r; rfl
  | scr xs => simp only [Rel] at r; obtain ⟨a, vs, rfl, _⟩ := r; rfl
  | dct ks xs => simp only [Rel] at r; obtain ⟨a, vs, rfl, _⟩ := r; rfl
  | obj c ks xs => simp only [Rel] at r; obtain ⟨a, dx, vs, rfl, _⟩ := r; rfl
  | exn c ks xs => simp only [Rel] at r; obtain ⟨a, dx, vs, _, rfl, _⟩ := r; rfl
  | exv c ks xs => simp only [Rel] at r; obtain ⟨a, dx, vs, rfl, _⟩ := r; rfl
def okIs (μ : Sto) : DV → Bool
  | .cell i => match μ[i]? with
    | some (.lst _) => true
    | _ => false
  | _ => true
theorem okIs_c {μ : Sto} {d : DV} (h : okIs μ d = true) : ∀ i, d = .cell i → ∃ xs, μ[i]? = some (.lst xs) := by
  rintro i rfl
  simp only [okIs] at h
  split at h
  · exact ⟨_, by assumption⟩
  · cases h
/-- is None, is not None -/
def vIs : V2 := fun d e μ => match e with
  | .non => if okIs μ d = true then some (.bl (isNon d)) else none
  | _ => none
theorem opIs : OpR X (compareOp .Is) (r2 g vIs) := by
  intro pins s σ H x y v u Q I rx ry h
  obtain ⟨κ, d, e, μ, rd, re, so, ho⟩ := h
  unfold vIs at ho
  split at ho
  · split at ho
    · rename_i hc
      simp only [Rel] at re
      subst re
      exact op_isN pins s σ H _ _ v u Q I rx ry ⟨rfl, by rw [isNon_rel so rd (okIs_c hc)]; exact ho.flat so (by simp [Rel])⟩
    · exact ho.elim
  · exact ho.elim
/-- in: one sign in a text; data in a list -/
def inL (d : DV) (xs : List DV) : Option Bool := match toPy d, toPyL xs with
  | some p, some ps => if (SeqAt.shaped p && SeqAt.shaped (.list ps)) = true then some (ps.any fun z => PyData.eqv z p) else none
  | _, _ => none
def inD (d e : DV) (μ : Sto) : Option Bool := match d, e with
  | .str a, .str b => match a.cps.toList with
    | [c] => some (decide (c ∈ b.cps.toList))
    | _ => none
  | d, .tup xs => inL d xs
  | d, e => match seqOf μ e with
    | some xs => inL d xs
    | none => none
def vIn : V2 := fun d e μ => (inD d e μ).map .bl
def vNotIn : V2 := fun d e μ => (inD d e μ).map fun b => .bl (!b)
theorem str_one {a : Str} {c : Nat} (h : a.cps.toList = [c]) : a = ⟨#[c]⟩ := by
  obtain ⟨cps⟩ := a
  have : cps = #[c] := Array.ext' (by simpa using h)
  rw [this]
theorem inL_some {d : DV} {xs : List DV} {b : Bool} (h : inL d xs = some b) : ∃ p ps, toPy d = some p ∧ toPyL xs = some ps ∧ SeqAt.shaped p = true ∧ SeqAt.shaped (.list ps) = true ∧ b = ps.any fun z => PyData.eqv z p := by
  unfold inL at h
  split at h
  · split at h
    · rename_i p q h1 h2 hz
      rw [Bool.and_eq_true] at hz
      cases h
      exact ⟨p, q, h1, h2, hz.1, hz.2, rfl⟩
    · cases h
  · cases h
theorem in_read {d e : DV} {μ : Sto} {κ : KA} {H : Hp} {x y : V} {b : Bool} (so : StoOk g κ H μ) (rd : Rel g κ H d x) (re : Rel g κ H e y) (h : inD d e μ = some b) :
    (∃ c z, x = .str ⟨#[c]⟩ ∧ y = .str z ∧ b = decide (c ∈ z.cps.toList)) ∨ (∃ p ps, Dp g.K H x p ∧ Dp g.K H y (.list ps) ∧ SeqAt.shaped p = true ∧ SeqAt.shaped (.list ps) = true ∧ b = ps.any fun z => PyData.eqv z p) ∨
    (∃ p ps, Dp g.K H x p ∧ Dp g.K H y (.tuple ps) ∧ SeqAt.shaped p = true ∧ SeqAt.shaped (.list ps) = true ∧ b = ps.any fun z => PyData.eqv z p) := by
  unfold inD at h
  split at h
  · rename_i a b'
    split at h
    · rename_i c hc
      cases h
      simp only [Rel] at rd re
      subst rd re
      exact .inl ⟨c, b', by rw [str_one hc], rfl, rfl⟩
    · cases h
  · obtain ⟨p, ps, h1, h2, h3, h4, rfl⟩ := inL_some h
    obtain ⟨a, vs, rfl, h5, h6⟩ := tup_rel re
    exact .inr (.inr ⟨p, ps, dp_of rd h1, .tup h5 (dpAll_of h6 h2), h3, h4, rfl⟩)
  · split at h
    · rename_i xs hx
      obtain ⟨p, ps, h1, h2, h3, h4, rfl⟩ := inL_some h
      obtain ⟨a, vs, rfl, h5, h6⟩ := seqOf_rel so re hx
      exact .inr (.inl ⟨p, ps, dp_of rd h1, .lst h5 (dpAll_of h6 h2), h3, h4, rfl⟩)
    · cases h
/-- in a tuple -/
def rInT (K : PySem.W.Frag) : R2 := fun x y H Q => ∃ d ds, Dp K H x d ∧ Dp K H y (.tuple ds) ∧ SeqAt.shaped d = true ∧ SeqAt.shaped (.list ds) = true ∧ Q (.bl (ds.any fun z => PyData.eqv z d)) H
theorem op_inT (hu : X.A.units + 65 < cLine) : OpR X (compareOp .In) (rInT X.K) := by
  intro pins s σ H x y v u Q I rx ry h
  obtain ⟨d, ds, hd, hl, sd, sl, q⟩ := h
  obtain ⟨as, k1⟩ := Dp.reads I d x v hd rx
  obtain ⟨bs, k2⟩ := Dp.reads I (.tuple ds) y u hl ry
  exact SeqAt.in_tuple_reads k2 k1 (SeqAt.canLay_of_shaped sl) (SeqAt.canLay_of_shaped sd) (room_in_shaped sd hu) ⟨.bl _, H, I, rfl, q⟩
theorem opIn (xg : XG g X) (hu : X.A.units + 65 < cLine) : OpR X (compareOp .In) (r2 g vIn) := by
  intro pins s σ H x y v u Q I rx ry h
  obtain ⟨κ, d, e, μ, rd, re, so, ho⟩ := h
  unfold vIn at ho
  cases hb : inD d e μ with
  | none => rw [hb] at ho; exact ho.elim
  | some b =>
    rw [hb] at ho
    rcases in_read so rd re hb with ⟨c, z, rfl, rfl, rfl⟩ | ⟨p, ps, h1, h2, h3, h4, rfl⟩ | ⟨p, ps, h1, h2, h3, h4, rfl⟩
    · exact op_in_sign pins s σ H _ _ v u Q I rx ry ⟨c, z, rfl, rfl, rOut.flat so ho (by simp [Rel])⟩
    · exact op_inD hu pins s σ H _ _ v u Q I rx ry ⟨p, ps, by rw [xg.K]; exact h1, by rw [xg.K]; exact h2, h3, h4, rOut.flat so ho (by simp [Rel])⟩
    · exact op_inT hu pins s σ H _ _ v u Q I rx ry ⟨p, ps, by rw [xg.K]; exact h1, by rw [xg.K]; exact h2, h3, h4, rOut.flat so ho (by simp [Rel])⟩
def vIx : V2 := fun d e μ => match e with
  | .int i => match d with
    | .str z => if okLen z.length = true then (atI z.cps.toList i).map fun c => .str ⟨#[c]⟩ else none
    | .tup xs => atI xs i
    | d => match seqOf μ d with
      | some xs => atI xs i
      | none => none
  | _ => none
theorem atI_rel {κ : KA} {H : Hp} {xs : List DV} {vs : List V} {i : Int} {d : DV} (r : RelL g κ H xs vs) (h : atI xs i = some d) : ∃ v, atI vs i = some v ∧ Rel g κ H d v := by
  unfold atI at h ⊢
  rw [← r.length]
  cases e : ixN xs.length i with
  | none => rw [e] at h; cases h
  | some j =>
    rw [e] at h
    simp only [Option.bind_some] at h ⊢
    exact r.get h
theorem ixAny (xg : XG g X) : IxR X (r2 g vIx) := by
  intro value slice pins s σ H x y v u Q I rx ry h hs
  obtain ⟨κ, d, e, μ, rd, re, so, ho⟩ := h
  unfold vIx at ho
  split at ho
  · rename_i i
    simp only [Rel] at re
    subst re
    split at ho
    · rename_i z
      simp only [Rel] at rd
      subst rd
      split at ho
      · rename_i hz
        cases hc : atI z.cps.toList i with
        | none => rw [hc] at ho; exact ho.elim
        | some c =>
          rw [hc] at ho
          exact ix_str value slice pins s σ H _ _ v u Q I rx ry ⟨z, i, c, rfl, rfl, okLen_iff.mp hz, hc, rOut.flat so ho (by simp [Rel])⟩ hs
      · exact ho.elim
    · rename_i xs
      obtain ⟨a, vs, rfl, h1, h2⟩ := tup_rel rd
      cases hc : atI xs i with
      | none => rw [hc] at ho; exact ho.elim
      | some c =>
        rw [hc] at ho
        obtain ⟨w', h3, h4⟩ := atI_rel h2 hc
        exact ix_tup value slice pins s σ H _ _ v u Q I rx ry ⟨a, vs, i, w', rfl, rfl, by rw [xg.K]; exact h1, h3, rOut.flat so ho h4⟩ hs
    · split at ho
      · rename_i xs hx
        obtain ⟨a, vs, rfl, h1, h2⟩ := seqOf_rel so rd hx
        cases hc : atI xs i with
        | none => rw [hc] at ho; exact ho.elim
        | some c =>
          rw [hc] at ho
          obtain ⟨w', h3, h4⟩ := atI_rel h2 hc
          exact ix_list value slice pins s σ H _ _ v u Q I rx ry ⟨a, vs, i, w', rfl, rfl, by rw [xg.K]; exact h1, h3, rOut.flat so ho h4⟩ hs
      · exact ho.elim
  · exact ho.elim
def cutD (xs : List DV) (lo hi : Option Int) : List DV := (xs.drop (HT.sIx xs.length 0 lo)).take (HT.sIx xs.length xs.length hi - HT.sIx xs.length 0 lo)
theorem cutD_rel {κ : KA} {H : Hp} {xs : List DV} {vs : List V} {lo hi : Option Int} (r : RelL g κ H xs vs) : RelL g κ H (cutD xs lo hi) (cutV vs lo hi) := by
  unfold cutD cutV
  rw [r.length]
  exact RelL.take _ (RelL.drop _ r)
def vSlc : VSl := fun d lo hi μ => match d with
  | .str z => if okLen z.length = true then some (.str (cutS z lo hi)) else none
  | .tup xs => some (.tup (cutD xs lo hi))
  | d => match seqOf μ d with
    | some xs => some (.lst (cutD xs lo hi))
    | none => none
theorem slAny (xg : XG g X) : SlR X (rSl g vSlc) := by
  intro pins s σ H x v vl vu lo hi sl Q I rx hs pl pu h
  obtain ⟨κ, d, μ, rd, so, ho⟩ := h
  unfold vSlc at ho
  split at ho
  · rename_i z
    simp only [Rel] at rd
    subst rd
    split at ho
    · rename_i hz
      exact sl_str pins s σ H _ v vl vu lo hi sl Q I rx hs pl pu ⟨z, rfl, okLen_iff.mp hz, rOut.flat so ho (by simp [Rel])⟩
    · exact ho.elim
  · rename_i xs
    obtain ⟨a, vs, rfl, h1, h2⟩ := tup_rel rd
    refine sl_tupFA pins s σ H _ v vl vu lo hi sl Q I rx hs pl pu ⟨a, vs, rfl, by rw [xg.K]; exact h1, fun hw => ?_, fun _ p ob hp hd => ho.newT so (cutD_rel h2) hp hd⟩
    have e : cutD xs lo hi = xs := by
      unfold cutD
      rw [h2.length, hw.1, hw.2]
      simp [← h2.length]
    rw [e] at ho
    exact ho.flat so rd
  · split at ho
    · rename_i xs hx
      obtain ⟨a, vs, rfl, h1, h2⟩ := seqOf_rel so rd hx
      exact sl_list pins s σ H _ v vl vu lo hi sl Q I rx hs pl pu ⟨a, vs, rfl, by rw [xg.K]; exact h1, fun p hp => ho.newL so (cutD_rel h2) hp⟩
    · exact ho.elim
end
end SD

set_option Elab.async false
set_option linter.all false
set_option maxRecDepth 100000
set_option maxHeartbeats 4000000
namespace SD
open PySem PySem.Spec PyProof.Rows L2
section
variable {g : Gc} {X : Cx}

def vLen : VN := fun ds μ => match ds with
  | [.str z] => if okLen z.length = true then some (.int z.length) else none
  | [.tup xs] => some (.int xs.length)
  | [d] => match seqOf μ d with
    | some xs => some (.int xs.length)
    | none => none
  | _ => none
theorem relL1 {κ : KA} {H : Hp} {d : DV} {vs : List V} (r : RelL g κ H [d] vs) : ∃ v, vs = [v] ∧ Rel g κ H d v := by
  obtain ⟨v, r', rfl, h1, h2⟩ := r.of_cons
  cases h2.of_nil
  exact ⟨v, rfl, h1⟩
theorem relL2 {κ : KA} {H : Hp} {d e : DV} {vs : List V} (r : RelL g κ H [d, e] vs) : ∃ v w, vs = [v, w] ∧ Rel g κ H d v ∧ Rel g κ H e w := by
  obtain ⟨v, r', rfl, h1, h2⟩ := r.of_cons
  obtain ⟨w, rfl, h3⟩ := relL1 h2
  exact ⟨v, w, rfl, h1, h3⟩
theorem cLen (xg : XG g X) : CallR X (.builtin "len") (rN g vLen) := by
  intro pins s σ H xs us Q I rx h
  obtain ⟨κ, ds, μ, rd, so, ho⟩ := h
  unfold vLen at ho
  split at ho
  · obtain ⟨v, rfl, r1⟩ := relL1 rd
    simp only [Rel] at r1
    subst r1
    split at ho
    · rename_i hz
      exact call_len_str pins s σ H _ us Q I rx ⟨_, rfl, okLen_iff.mp hz, rOut.flat so ho (by simp [Rel])⟩
    · exact ho.elim
  · obtain ⟨v, rfl, r1⟩ := relL1 rd
    obtain ⟨a, vs, rfl, h1, h2⟩ := tup_rel r1
    exact call_len_seq pins s σ H _ us Q I rx ⟨a, vs, rfl, .inr (by rw [xg.K]; exact h1), rOut.flat so ho (by simp [Rel, h2.length])⟩
  · obtain ⟨v, rfl, r1⟩ := relL1 rd
    split at ho
    · rename_i ys hy
      obtain ⟨a, vs, rfl, h1, h2⟩ := seqOf_rel so r1 hy
      exact call_len_seq pins s σ H _ us Q I rx ⟨a, vs, rfl, .inl (by rw [xg.K]; exact h1), rOut.flat so ho (by simp [Rel, h2.length])⟩
    · exact ho.elim
  · exact ho.elim
def vAbs : VN := fun ds _ => match ds with
  | [.int i] => some (.int (if i < 0 then -i else i))
  | _ => none
theorem cAbs : CallR X (.builtin "abs") (rN g vAbs) := by
  intro pins s σ H xs us Q I rx h
  obtain ⟨κ, ds, μ, rd, so, ho⟩ := h
  unfold vAbs at ho
  split at ho
  · obtain ⟨v, rfl, r1⟩ := relL1 rd
    simp only [Rel] at r1
    subst r1
    exact call_abs pins s σ H _ us Q I rx ⟨_, rfl, rOut.flat so ho (by simp [Rel])⟩
  · exact ho.elim
/-- int(n), int(flag), int(text) -/
def vInt : VN := fun ds _ => match ds with
  | [.int i] => some (.int i)
  | [.bl b] => some (.int (if b then 1 else 0))
  | [.str a] => if decide (a.length ≤ 640) = true then (PySem.intText? a).map .int else none
  | _ => none
theorem cInt : CallR X (.type "int") (rN g vInt) := by
  intro pins s σ H xs us Q I rx h
  obtain ⟨κ, ds, μ, rd, so, ho⟩ := h
  unfold vInt at ho
  split at ho
  · obtain ⟨v, rfl, r1⟩ := relL1 rd
    simp only [Rel] at r1
    subst r1
    exact call_int1 pins s σ H _ us Q I rx (.inl ⟨_, rfl, rOut.flat so ho (by simp [Rel])⟩)
  · obtain ⟨v, rfl, r1⟩ := relL1 rd
    simp only [Rel] at r1
    subst r1
    exact call_int1 pins s σ H _ us Q I rx (.inr ⟨_, rfl, rOut.flat so ho (by simp [Rel])⟩)
  · rename_i a
    obtain ⟨v, rfl, r1⟩ := relL1 rd
    simp only [Rel] at r1
    subst r1
    split at ho
    · rename_i hz
      cases hn : PySem.intText? a with
      | none => rw [hn] at ho; exact ho.elim
      | some n =>
        rw [hn] at ho
        exact call_int_str pins s σ H _ us Q I rx ⟨a, n, rfl, hn, by simpa using hz, rOut.flat so ho (by simp [Rel])⟩
    · exact ho.elim
  · exact ho.elim
def asBs : List DV → Option (List Bool)
  | [] => some []
  | .bl b :: r => (asBs r).map (b :: ·)
  | _ => none
def asSs : List DV → Option (List Str)
  | [] => some []
  | .str i :: r => (asSs r).map (i :: ·)
  | _ => none
theorem asBs_rel {κ : KA} {H : Hp} : ∀ {xs : List DV} {vs : List V} {bs : List Bool}, RelL g κ H xs vs → asBs xs = some bs → vs = bs.map V.bl
  | [], _, _, r, h => by cases r.of_nil; cases h; rfl
  | x :: xs, _, bs, r, h => by
    obtain ⟨v, r', rfl, h1, h2⟩ := r.of_cons
    cases x with
    | bl b =>
      simp only [asBs, Option.map_eq_some_iff] at h
      obtain ⟨cs, h3, rfl⟩ := h
      simp only [Rel] at h1
      subst h1
      rw [asBs_rel h2 h3]; rfl
    | _ => cases h
theorem asSs_rel {κ : KA} {H : Hp} : ∀ {xs : List DV} {vs : List V} {bs : List Str}, RelL g κ H xs vs → asSs xs = some bs → vs = bs.map V.str
  | [], _, _, r, h => by cases r.of_nil; cases h; rfl
  | x :: xs, _, bs, r, h => by
    obtain ⟨v, r', rfl, h1, h2⟩ := r.of_cons
    cases x with
    | str b =>
      simp only [asSs, Option.map_eq_some_iff] at h
      obtain ⟨cs, h3, rfl⟩ := h
      simp only [Rel] at h1
      subst h1
      rw [asSs_rel h2 h3]; rfl
    | _ => cases h
def vAll : VN := fun ds μ => match ds with
  | [d] => match seqOf μ d with
    | some xs => (asBs xs).map fun bs => .bl (bs.all id)
    | none => none
  | _ => none
theorem cAll (xg : XG g X) (hc : X.calm = true) : CallR X (.builtin "all") (rN g vAll) := by
  intro pins s σ H xs us Q I rx h
  obtain ⟨κ, ds, μ, rd, so, ho⟩ := h
  unfold vAll at ho
  split at ho
  · obtain ⟨v, rfl, r1⟩ := relL1 rd
    split at ho
    · rename_i ys hy
      obtain ⟨a, vs, rfl, h1, h2⟩ := seqOf_rel so r1 hy
      cases hb : asBs ys with
      | none => rw [hb] at ho; exact ho.elim
      | some bs =>
        rw [hb] at ho
        have e := asBs_rel h2 hb
        subst e
        exact cr_all hc pins s σ H _ us Q I rx ⟨a, bs, rfl, by rw [xg.K]; exact h1, rOut.flat so ho (by simp [Rel])⟩
    · exact ho.elim
  · exact ho.elim
def tyOf (μ : Sto) : DV → Option T7
  | .non => some .non
  | .bl _ => some .bl
  | .int _ => some .int
  | .str _ => some .str
  | .tup _ => some .tup
  | .lst _ => some .lst
  | .scr _ => some .lst
  | .dct _ _ => some .dct
  | .cell i => match μ[i]? with
    | some (.lst _) => some .lst
    | _ => none
  | _ => none
def T7.sub (a b : T7) : Bool := decide (a = b) || (decide (a = .bl) && decide (b = .int))
theorem kit7 (a b : T7) : kitB a.name b.name = some (a.sub b) := by
  cases a <;> cases b <;> decide +kernel
theorem tyX_of {κ : KA} {H : Hp} {μ : Sto} {d : DV} {v : V} {t : T7} (so : StoOk g κ H μ) (r : Rel g κ H d v) (h : tyOf μ d = some t) : TyX g.K H v (.type t.name) := by
  cases d with
  | non => cases h; simp only [Rel] at r; subst r; exact .base .non
  | bl b => cases h; simp only [Rel] at r; subst r; exact .base (.bl b)
  | int b => cases h; simp only [Rel] at r; subst r; exact .base (.int b)
  | str b => cases h; simp only [Rel] at r; subst r; exact .base (.str b)
  | tup xs =>
    cases h
    simp only [Rel] at r
    obtain ⟨a, vs, rfl, h2, h3⟩ := r
    rcases h2 with ⟨ob, _, h2⟩ | ⟨o, its, n, h4, h5, _⟩
    · exact .fTuple h2.1
    · exact .kTuple h4 h5
  | lst xs =>
    cases h
    simp only [Rel] at r
    obtain ⟨a, vs, rfl, h2, h3⟩ := r
    exact .base (.lst h2.1)
  | scr xs =>
    cases h
    simp only [Rel] at r
    obtain ⟨a, vs, rfl, h2, h3⟩ := r
    rcases h2 with h2 | ⟨ob, h2⟩ | ⟨o, its, n, h4, h5, _⟩
    · exact .base (.lst h2.1)
    · exact .base (.frz h2.1)
    · exact .kList h4 h5
  | dct ks xs =>
    cases h
    simp only [Rel] at r
    obtain ⟨a, vs, rfl, h2, h3⟩ := r
    exact .base (.dK h2.1)
  | cell i =>
    simp only [tyOf] at h
    cases ec : μ[i]? with
    | none => rw [ec] at h; cases h
    | some c =>
      rw [ec] at h
      cases c with
      | lst xs =>
        cases h
        obtain ⟨a, vs, rfl, h1, h2⟩ := lstOf_rel (xs := xs) so r (by simp only [lstOf, ec])
        exact .base (.lst h1)
      | _ => cases h
  | _ => cases h
def asTys : List DV → Option (List T7)
  | [] => some []
  | .ty t :: r => (asTys r).map (t :: ·)
  | _ => none
def vIsi : VN := fun ds μ => match ds with
  | [d, .ty t] => (tyOf μ d).map fun a => .bl (a.sub t)
  | [d, .tup cs] => match tyOf μ d, asTys cs with
    | some a, some ts => some (.bl (ts.any fun t => a.sub t))
    | _, _ => none
  | _ => none
theorem asTys_rel {κ : KA} {H : Hp} : ∀ {xs : List DV} {vs : List V} {ts : List T7}, RelL g κ H xs vs → asTys xs = some ts → Paired ClsV vs (ts.map fun t => Value.type t.name)
  | [], _, _, r, h => by cases r.of_nil; cases h; exact .nil
  | x :: xs, _, ts, r, h => by
    obtain ⟨v, r', rfl, h1, h2⟩ := r.of_cons
    cases x with
    | ty t =>
      simp only [asTys, Option.map_eq_some_iff] at h
      obtain ⟨cs, h3, rfl⟩ := h
      simp only [Rel] at h1
      subst h1
      exact .cons (.ty _) (asTys_rel h2 h3)
    | _ => cases h
theorem kitAny7 {K : PySem.W.Frag} (a : T7) : ∀ ts : List T7, PySem.W.kitAny K (.type a.name) (ts.map fun t => Value.type t.name) = some (ts.any fun t => a.sub t)
  | [] => kitAny_nil
  | t :: ts => by
    rw [List.map_cons, List.any_cons]
    refine kitAny_cons (kit_ty (kit7 a t)) (fun h => ?_) (fun h => by rw [h, Bool.true_or])
    rw [h, Bool.false_or]
    exact kitAny7 a ts
theorem cIsi (xg : XG g X) : CallR X (.builtin "isinstance") (rN g vIsi) := by
  intro pins s σ H xs us Q I rx h
  obtain ⟨κ, ds, μ, rd, so, ho⟩ := h
  unfold vIsi at ho
  split at ho
  · rename_i d t
    obtain ⟨v, w', rfl, r1, r2⟩ := relL2 rd
    simp only [Rel] at r2
    subst r2
    cases ht : tyOf μ d with
    | none => rw [ht] at ho; exact ho.elim
    | some a =>
      rw [ht] at ho
      exact call_isi pins s σ H _ us Q I rx ⟨v, _, _, _, _, rfl, .ty _, by rw [xg.K]; exact tyX_of so r1 ht, kit_ty (kit7 a t), rOut.flat so ho (by simp [Rel])⟩
  · rename_i d cs
    obtain ⟨v, w', rfl, r1, r2⟩ := relL2 rd
    cases ht : tyOf μ d with
    | none => rw [ht] at ho; exact ho.elim
    | some a =>
      cases hc : asTys cs with
      | none => rw [ht, hc] at ho; exact ho.elim
      | some ts =>
        rw [ht, hc] at ho
        simp only [Rel] at r2
        obtain ⟨p, vs, rfl, h2, h3⟩ := r2
        have ty : TyX X.K H v (.type a.name) := by rw [xg.K]; exact tyX_of so r1 ht
        exact call_isiS pins s σ H _ us Q I rx ⟨v, p, vs, _, _, _, rfl, by rw [xg.K]; exact h2.sq, asTys_rel h3 hc, ty, kitAny7 a ts, rOut.flat so ho (by simp [Rel])⟩
  · exact ho.elim

/-- a cell that is a list, at its place -/
theorem cell_at {κ : KA} {H : Hp} {μ : Sto} {i : Nat} {v : V} {xs : List DV} (so : StoOk g κ H μ) (r : Rel g κ H (.cell i) v) (h : μ[i]? = some (.lst xs)) : ∃ p vs, v = .ref p ∧ κ.cs[i]? = some (some p) ∧ H p = some (.lst vs) ∧ RelL g κ H xs vs := by
  simp only [Rel] at r
  obtain ⟨o, h1, h2⟩ := so.at_ i _ h
  obtain ⟨p, vs, rfl, h3, h4⟩ := h2
  exact ⟨p, vs, r.2 p h1, h1, h3, h4⟩
theorem rOutS.write {κ : KA} {H : Hp} {μ : Sto} {i : Nat} {p : Addr} {z : DV} {xs : List DV} {vs : List V} {w : V} {Q : VK} (so : StoOk g κ H μ) (hi : κ.cs[i]? = some (some p)) (r : RelL g κ H xs vs) (rz : Rel g κ H z w) (h : rOutS g κ H (some (z, μ.set i (.lst xs))) Q) : Q w (upd H p (.lst vs)) := by
  have e := Ext.write (o := .lst vs) so hi
  exact h κ _ e (so.write hi ⟨p, vs, rfl, upd_same, r.ext e⟩) w (rz.ext e)
def mAppend : VM := fun d ds μ => match d, ds with
  | .cell i, [y] => match μ[i]? with
    | some (.lst xs) => if okLen (xs.length + 1) = true then some (.non, μ.set i (.lst (xs ++ [y]))) else none
    | _ => none
  | _, _ => none
theorem mtAppend : MtR X "list.append" (rM g mAppend) := by
  intro pins s σ H x xs v us Q I rx rs h
  obtain ⟨κ, d, ds, μ, rd, rds, so, ho⟩ := h
  unfold mAppend at ho
  split at ho
  · rename_i i y
    obtain ⟨w', rfl, ry⟩ := relL1 rds
    split at ho
    · rename_i ys hy
      split at ho
      · rename_i hz
        have hz := okLen_iff.mp hz
        obtain ⟨p, vs, rfl, h1, h2, h3⟩ := cell_at so rd hy
        exact mt_append pins s σ H _ _ v us Q I rx rs ⟨p, vs, w', rfl, rfl, h2, by rw [← h3.length]; omega, ho.write so h1 (h3.append (RelL.cons ry RelL.nil)) (by simp [Rel])⟩
      · exact ho.elim
    · exact ho.elim
  · exact ho.elim
def sSetIx (e o i : DE) : DS := fun ρ μ => (e ρ μ).toS ρ fun y μ1 => (o ρ μ1).toS ρ fun d μ2 => (i ρ μ2).toS ρ fun k μ3 => match d, k with
  | .cell c, .int k => match μ3[c]? with
    | some (.lst xs) => match ixN xs.length k with
      | some j => .nx ρ (μ3.set c (.lst (xs.set j y)))
      | none => .stuck
    | _ => .stuck
  | _, _ => .stuck
theorem gs_setIx {W : WX} {e o i : Expr} {fe fo fi : DE} {pos pos' : Pos} (he : GE g W X e fe) (ho : GE g W X o fo) (hi : GE g W X i fi)
    (ha : ∀ v, assign (.Subscript o i pos') X.env v = (do
      let ov ← holding [v] (eval o X.env)
      let iv ← holding [v, ov] (eval i X.env)
      standAt pos'
      holding [v, ov, iv] (setItem ov iv v)
      release [v, ov, iv] []) := by intro _; rfl)
    (hs : swapsWithSole [.Subscript o i pos'] e pos.line X.env = pure false := by rfl) (hw : swappedStores [.Subscript o i pos'] e X.env = pure none := by rfl)
    (h1 : (assignEach [.Subscript o i pos'] X.env).map (·.2) = [assign (.Subscript o i pos') X.env] := by rfl) : GS g W X (.Assign [.Subscript o i pos'] e pos) (sSetIx fe fo fi) :=
  PS.imp (ps_asg he (pg_sub ho hi set_list ha) hs hw h1) fun D σ H q => by
  obtain ⟨κ, ρ, μ, he, hs, hw⟩ := q
  refine ⟨κ, ρ, μ, he, hs, (wpS.bind he hw).mono fun y μ1 κ1 H1 e1 s1 h1 v rv => ?_⟩
  refine ⟨κ1, ρ, μ1, he.ext e1, s1, (wpS.bind (he.ext e1) h1).mono fun d μ2 κ2 H2 e2 s2 h2 w' rw' => ?_⟩
  refine ⟨κ2, ρ, μ2, (he.ext e1).ext e2, s2, (wpS.bind ((he.ext e1).ext e2) h2).mono fun k μ3 κ3 H3 e3 s3 h3 z rz => ?_⟩
  split at h3
  · rename_i c k
    split at h3
    · rename_i xs hx
      split at h3
      · rename_i j hj
        obtain ⟨p, vs, rfl, h4, h5, h6⟩ := cell_at s3 (rw'.ext e3) hx
        simp only [Rel] at rz
        subst rz
        have ry := rv.ext (e2.trans e3)
        have ex := Ext.write (o := .lst (vs.set j v)) s3 h4
        refine ⟨p, vs, k, j, rfl, rfl, h5, by rw [← h6.length]; exact hj, ?_⟩
        exact h3 κ3 _ σ ex (s3.write h4 ⟨p, _, rfl, upd_same, (RelL.set ry j h6).ext ex⟩) ((((he.ext e1).ext e2).ext e3).ext ex)
      · exact h3.elim
    · exact h3.elim
  · exact h3.elim

theorem outS_flat {κ : KA} {H : Hp} {μ : Sto} {z : DV} {w : V} {Q : VK} (so : StoOk g κ H μ) (h : rOutS g κ H (some (z, μ)) Q) (r : Rel g κ H z w) : Q w H := h κ H Ext.refl so w r
def mJoin : VM := fun d ds μ => match d, ds with
  | .str a, [.tup xs] => (asSs xs).bind fun ys => if decide ((ys.map (·.length)).sum + ys.length * a.length ≤ 16777216) = true then some (.str (Txt.join a ys), μ) else none
  | .str a, [e] => match seqOf μ e with
    | some xs => (asSs xs).bind fun ys => if decide ((ys.map (·.length)).sum + ys.length * a.length ≤ 16777216) = true then some (.str (Txt.join a ys), μ) else none
    | none => none
  | _, _ => none
theorem mtJoin (xg : XG g X) : MtR X "str.join" (rM g mJoin) := by
  intro pins s σ H x xs v us Q I rx rs h
  obtain ⟨κ, d, ds, μ, rd, rds, so, ho⟩ := h
  unfold mJoin at ho
  split at ho
  · rename_i a zs
    obtain ⟨w', rfl, ry⟩ := relL1 rds
    simp only [Rel] at rd
    subst rd
    obtain ⟨p, vs, rfl, h1, h2⟩ := tup_rel ry
    cases hb : asSs zs with
    | none => rw [hb] at ho; exact ho.elim
    | some ys =>
      rw [hb] at ho
      simp only [Option.bind_some] at ho
      split at ho
      · rename_i hz
        have e := asSs_rel h2 hb
        subst e
        exact mt_join pins s σ H _ _ v us Q I rx rs ⟨a, p, ys, rfl, rfl, .inr (by rw [xg.K]; exact h1), by simpa using hz, outS_flat so ho (by simp [Rel])⟩
      · exact ho.elim
  · rename_i a e _
    obtain ⟨w', rfl, ry⟩ := relL1 rds
    simp only [Rel] at rd
    subst rd
    split at ho
    · rename_i zs hx
      obtain ⟨p, vs, rfl, h1, h2⟩ := seqOf_rel so ry hx
      cases hb : asSs zs with
      | none => rw [hb] at ho; exact ho.elim
      | some ys =>
        rw [hb] at ho
        simp only [Option.bind_some] at ho
        split at ho
        · rename_i hz
          have e := asSs_rel h2 hb
          subst e
          exact mt_join pins s σ H _ _ v us Q I rx rs ⟨a, p, ys, rfl, rfl, .inl (by rw [xg.K]; exact h1), by simpa using hz, outS_flat so ho (by simp [Rel])⟩
        · exact ho.elim
    · exact ho.elim
  · exact ho.elim
end
end SD

set_option Elab.async false
set_option linter.all false
set_option maxRecDepth 100000
set_option maxHeartbeats 4000000
namespace SD
open PySem PySem.Spec PyProof.Rows L2
section
variable {g : Gc} {W : WX} {X : Cx} {pos : Pos}
def eDct0 : DE := fun _ μ => .ok (.dct [] []) μ
theorem ge_dct0 : GE g W X (.Dict [] [] pos) eDct0 := PE.imp pe_dnewK fun σ H Q q => by
  obtain ⟨κ, ρ, μ, he, hs, hw⟩ := q
  intro p hp
  refine hw κ _ (Ext.new hs hp) (hs.new hp) (.ref p) ?_
  simp only [Rel]
  exact ⟨p, [], rfl, ⟨upd_same, hs.fresh hp⟩, rfl, RelL.nil⟩
def evPs : List (DE × DE) → En → Sto → R (List (DV × DV))
  | [], _, μ => .ok [] μ
  | (k, v) :: r, ρ, μ => (k ρ μ).bind fun x μ1 => (v ρ μ1).bind fun y μ2 => (evPs r ρ μ2).bind fun ps μ3 => .ok ((x, y) :: ps) μ3
def asKey : DV → Option Key
  | .int i => some (.inl i)
  | .str x => some (.inr x)
  | _ => none
def asKeys : List (DV × DV) → Option (List Key)
  | [] => some []
  | (k, _) :: r => match asKey k, asKeys r with
    | some k, some ks => some (k :: ks)
    | _, _ => none
def nodupB : List Key → Bool
  | [] => true
  | k :: ks => !(ks.any fun j => decide (j = k)) && nodupB ks
/-- {k: v, ..}, frozen, its keys ints and texts, all different -/
def eDct (ps : List (DE × DE)) : DE := fun ρ μ => (evPs ps ρ μ).bind fun kvs μ1 => match asKeys kvs with
  | some ks => if (decide (kvs.length ≤ 15) && nodupB ks) = true then .ok (.dct ks (kvs.map (·.2))) μ1 else .stuck
  | none => .stuck
theorem putK_new {kvs : List (Key × V)} {k : Key} {v : V} (h : (kvs.any fun kv => decide (kv.1 = k)) = false) : putK kvs k v = kvs ++ [(k, v)] := by
  unfold putK
  rw [if_neg (by rw [h]; exact Bool.false_ne_true)]
theorem mergeK_nodup : ∀ (more kvs : List (Key × V)), (∀ p ∈ more, ∀ q ∈ kvs, q.1 ≠ p.1) → nodupB (more.map (·.1)) = true → mergeK kvs more = kvs ++ more
  | [], kvs, _, _ => by simp [mergeK]
  | p :: more, kvs, h, hn => by
    simp only [List.map_cons, nodupB, Bool.and_eq_true, Bool.not_eq_true'] at hn
    have h1 : mergeK kvs (p :: more) = mergeK (putK kvs p.1 p.2) more := rfl
    rw [h1, putK_new (by
      rw [List.any_eq_false]
      intro q hq
      simpa using h p (by simp) q hq)]
    rw [mergeK_nodup more (kvs ++ [(p.1, p.2)]) (fun q hq r hr => ?_) hn.2]
    · simp
    · rcases List.mem_append.mp hr with hr | hr
      · exact h q (List.mem_cons_of_mem _ hq) r hr
      · have : r = (p.1, p.2) := by simpa using hr
        subst this
        intro e
        have := List.any_eq_false.mp hn.1 q.1 (List.mem_map_of_mem hq)
        simp at this
        exact this e.symm
structure GPs (g : Gc) (W : WX) (X : Cx) (pos : Pos) (keys : List (Option Expr)) (values : List Expr) (ps : List (DE × DE)) : Prop where
  ok : PPs X pos keys values (ps.map fun p => (tE g W p.1, tE g W p.2))
  all : keys.all (·.isSome) = true
  len : keys.length = values.length
  few : keys.length = ps.length
theorem gps_nil : GPs g W X pos [] [] [] := ⟨pps_nil, rfl, rfl, rfl⟩
theorem gps_cons {k v : Expr} {fk fv : DE} {ks : List (Option Expr)} {vs : List Expr} {ps : List (DE × DE)} (hk : GE g W X k fk) (hv : GE g W X v fv) (hr : GPs g W X pos ks vs ps) : GPs g W X pos (some k :: ks) (v :: vs) ((fk, fv) :: ps) :=
  ⟨pps_cons hk hv hr.ok, by simp [hr.all], by simp [hr.len], by simp [hr.few]⟩
theorem pairs_read {σ : L2.St} {ρ : En} : ∀ (ps : List (DE × DE)) {κ : KA} {H : Hp} {μ : Sto} {Q : List (V × V) → Hp → Prop}, RelE g κ H ρ σ → StoOk g κ H μ →
    wpR g W σ κ H (evPs ps ρ μ) (fun kvs μ' κ' H' => ∀ xs ys, RelL g κ' H' (kvs.map (·.1)) xs → RelL g κ' H' (kvs.map (·.2)) ys → Q (xs.zip ys) H') → tPairs (ps.map fun p => (tE g W p.1, tE g W p.2)) σ H Q
  | [], κ, H, μ, Q, he, hs, hw => hw κ H Ext.refl hs [] [] RelL.nil RelL.nil
  | (k, v) :: ps, κ, H, μ, Q, he, hs, hw => by
    refine ⟨κ, ρ, μ, he, hs, (wpR.bind (show wpR g W σ κ H ((k ρ μ).bind fun x μ1 => (v ρ μ1).bind fun y μ2 => (evPs ps ρ μ2).bind fun ps μ3 => .ok ((x, y) :: ps) μ3) _ from hw)).mono fun x μ1 κ1 H1 e1 s1 h1 vx rx => ?_⟩
    refine ⟨κ1, ρ, μ1, he.ext e1, s1, h1.bind.mono fun y μ2 κ2 H2 e2 s2 h2 vy ry => ?_⟩
    refine pairs_read ps ((he.ext e1).ext e2) s2 (h2.bind.mono fun kvs μ3 κ3 H3 e3 s3 h3 xs ys r1 r2 => ?_)
    exact h3 κ3 H3 Ext.refl s3 (vx :: xs) (vy :: ys) (RelL.cons (rx.ext (e2.trans e3)) r1) (RelL.cons (ry.ext e3) r2)
theorem asKeys_rel {κ : KA} {H : Hp} : ∀ {kvs : List (DV × DV)} {ks : List Key} {xs : List V}, asKeys kvs = some ks → RelL g κ H (kvs.map (·.1)) xs → xs = ks.map kV ∧ ks.length = kvs.length
  | [], _, _, h, r => by cases h; cases r.of_nil; exact ⟨rfl, rfl⟩
  | (k, v) :: kvs, ks, xs, h, r => by
    obtain ⟨x, r', rfl, h1, h2⟩ := RelL.of_cons (show RelL g κ H (k :: kvs.map (·.1)) xs from r)
    simp only [asKeys] at h
    cases e1 : asKey k with
    | none => rw [e1] at h; cases h
    | some k' =>
      cases e2 : asKeys kvs with
      | none => rw [e1, e2] at h; cases h
      | some ks' =>
        rw [e1, e2] at h
        cases h
        obtain ⟨h3, h4⟩ := asKeys_rel e2 h2
        refine ⟨?_, by simp [h4]⟩
        rw [h3]
        cases k with
        | int i => cases e1; simp only [Rel] at h1; subst h1; rfl
        | str i => cases e1; simp only [Rel] at h1; subst h1; rfl
        | _ => cases e1
theorem zip_kvs {ks : List Key} {ys : List V} (h : ks.length = ys.length) : (ks.map kV).zip ys = (ks.zip ys).map fun kv => (kV kv.1, kv.2) := by
  induction ks generalizing ys with
  | nil => rfl
  | cons k ks ih =>
    cases ys with
    | nil => cases h
    | cons y ys => simp only [List.map_cons, List.zip_cons_cons]; rw [ih (by simpa using h)]
theorem zip_fst {ks : List Key} {ys : List V} (h : ks.length = ys.length) : (ks.zip ys).map (·.1) = ks := by
  induction ks generalizing ys with
  | nil => rfl
  | cons k ks ih =>
    cases ys with
    | nil => cases h
    | cons y ys => simp only [List.zip_cons_cons, List.map_cons]; rw [ih (by simpa using h)]
theorem ge_dct {keys : List (Option Expr)} {values : List Expr} {ps : List (DE × DE)} (h : GPs g W X pos keys values ps) (h0 : keys ≠ []) (h15 : keys.length ≤ 15) : GE g W X (.Dict keys values pos) (eDct ps) := by
  refine PE.imp (pe_disp h.ok h.all h.len h0 h15) fun σ H Q q => ?_
  obtain ⟨κ, ρ, μ, he, hs, hw⟩ := q
  intro p hp
  have x0 : Ext0 κ H (κ.hide p) (upd H p (.dK [])) := Ext0.hide hp
  have he1 : RelE g (κ.hide p) (upd H p (.dK [])) ρ σ := ⟨he.len, fun i d hd => by
    obtain ⟨v, a1, a2⟩ := he.at_ i d hd
    exact ⟨v, a1, a2.ext0 x0⟩⟩
  refine pairs_read ps he1 (hs.hide hp) ?_
  -- the pairs, with p hidden
  have hb : ∀ (Φ : List (DV × DV) → Sto → KA → Hp → Prop), (∀ kvs μ1, evPs ps ρ μ = .ok kvs μ1 → ∀ κ' H', Ext (κ.hide p) (upd H p (.dK [])) κ' H' → StoOk g κ' H' μ1 → Φ kvs μ1 κ' H') →
      (∀ c ns xs μ1, evPs ps ρ μ = .ex c ns xs μ1 → wpR g W σ (κ.hide p) (upd H p (.dK [])) (.ex c ns xs μ1 : R (List (DV × DV))) Φ) → evPs ps ρ μ ≠ .stuck → wpR g W σ (κ.hide p) (upd H p (.dK [])) (evPs ps ρ μ) Φ := by
    intro Φ h1 h2 h3
    cases e : evPs ps ρ μ with
    | ok a μ1 => exact h1 a μ1 e
    | ex c ns xs μ1 => exact h2 c ns xs μ1 e
    | stuck => exact (h3 e).elim
  have again : ∀ {κ' : KA}, κ'.gh = (κ.hide p).gh → κ' = (KA.mk κ'.cs κ.gh).hide p := fun {κ'} e => by
    obtain ⟨cs, gh⟩ := κ'
    show KA.mk cs gh = KA.mk cs (p :: κ.gh)
    rw [show gh = p :: κ.gh from e]
  have fin : ∀ {κ' : KA} {H' : Hp}, Ext (κ.hide p) (upd H p (.dK [])) κ' H' → Ext κ H (KA.mk κ'.cs κ.gh) H' := fun {κ' H'} e => by
    have k1 := again e.ghs
    have x1 : Ext0 κ H ((KA.mk κ'.cs κ.gh).hide p) H' := by rw [← k1]; exact x0.trans e.toExt0
    refine ⟨x1.trans Ext0.show', rfl, fun a ha nt => ?_⟩
    have : a ≠ p := fun z => by
      obtain ⟨⟨u, hu⟩, _⟩ := hs.gst a ha
      rw [z, hp] at hu; cases hu
    rw [e.ghv a (List.mem_cons_of_mem _ ha) (fun ps => by rw [upd_ne this]; exact nt ps), upd_ne this]
  have hw : wpR g W σ κ H ((evPs ps ρ μ).bind fun kvs μ1 => match asKeys kvs with
    | some ks => if (decide (kvs.length ≤ 15) && nodupB ks) = true then .ok (.dct ks (kvs.map (·.2))) μ1 else .stuck
    | none => .stuck) (fun d _ κ' H' => ∀ v, Rel g κ' H' d v → Q v H') := hw
  refine hb _ (fun kvs μ1 e κ' H' ex so xs ys r1 r2 => ?_) (fun c ns xs μ1 e => ?_) (fun e => by rw [e] at hw; exact hw)
  · rw [e] at hw
    have hw : wpR g W σ κ H (match asKeys kvs with
      | some ks => if (decide (kvs.length ≤ 15) && nodupB ks) = true then R.ok (DV.dct ks (kvs.map (·.2))) μ1 else .stuck
      | none => .stuck) (fun d _ κ' H' => ∀ v, Rel g κ' H' d v → Q v H') := hw
    have hH : H' p = some (.dK []) := by
      rw [ex.ghv p (show p ∈ p :: κ.gh by simp) (fun ps => by rw [upd_same]; exact fun z => by cases z), upd_same]
    refine ⟨hH, ?_⟩
    cases ek : asKeys kvs with
    | none => rw [ek] at hw; exact hw.elim
    | some ks =>
      rw [ek] at hw
      simp only at hw
      split at hw
      · rename_i hz
        simp only [Bool.and_eq_true, decide_eq_true_eq] at hz
        obtain ⟨rfl, hl⟩ := asKeys_rel ek r1
        have hly : ks.length = ys.length := by rw [hl, ← r2.length]; simp
        refine ⟨ks.zip ys, zip_kvs hly, by rw [List.length_zip]; omega, ?_⟩
        rw [mergeK_nodup _ [] (fun _ _ _ h => nomatch h) (by rw [zip_fst hly]; exact hz.2), List.nil_append]
        -- p is filled, then known
        have k1 := again ex.ghs
        have mp : p ∈ κ'.gh := by rw [ex.ghs]; show p ∈ p :: κ.gh; simp
        have xw : Ext0 κ' H' κ' (upd H' p (.dK (ks.zip ys))) := Ext0.write (.inr mp)
        have so2 : StoOk g ((KA.mk κ'.cs κ.gh).hide p) (upd H' p (.dK (ks.zip ys))) μ1 := by rw [← k1]; exact so.fill mp (fun ps => by rw [hH]; exact fun z => by cases z)
        have npg : p ∉ κ.gh := fun m => by
          obtain ⟨⟨u, hu⟩, _⟩ := hs.gst p m
          rw [hp] at hu; cases hu
        have np : ¬ (KA.mk κ'.cs κ.gh).has p := fun m => m.elim (fun m => (so.gst p mp).2 m) npg
        have x2 : Ext κ H (KA.mk κ'.cs κ.gh) (upd H' p (.dK (ks.zip ys))) := by
          have f := fin ex
          have x1 : Ext0 κ H ((KA.mk κ'.cs κ.gh).hide p) (upd H' p (.dK (ks.zip ys))) := by rw [← k1]; exact (x0.trans ex.toExt0).trans xw
          exact ⟨x1.trans Ext0.show', rfl, fun a ha nt => by
            have hap : a ≠ p := fun z => npg (by rw [← z]; exact ha)
            rw [upd_ne hap]; exact f.ghv a ha nt⟩
        refine hw _ _ x2 (so2.show' fun ps => by rw [upd_same]; exact fun z => by cases z) (.ref p) ?_
        simp only [Rel]
        refine ⟨p, ys, rfl, ⟨upd_same, np⟩, hly, ?_⟩
        have r3 : RelL g ((KA.mk κ'.cs κ.gh).hide p) (upd H' p (.dK (ks.zip ys))) (kvs.map (·.2)) ys := by rw [← k1]; exact r2.ext0 xw
        exact r3.ext0 Ext0.show'
      · exact hw.elim
  · rw [e] at hw
    intro κ' H' ex so d vs h1 h2 h3
    have k1 := again ex.ghs
    have so2 : StoOk g ((KA.mk κ'.cs κ.gh).hide p) H' μ1 := by rw [← k1]; exact so
    have h1' : At (KA.mk κ'.cs κ.gh) H' d (.xd (ns.zip vs)) := ⟨h1.1, fun m => h1.2 (m.elim .inl fun m => .inr (by rw [ex.ghs]; exact List.mem_cons_of_mem _ m))⟩
    have h3' : RelL g ((KA.mk κ'.cs κ.gh).hide p) H' xs vs := by rw [← k1]; exact h3
    exact hw _ H' (fin ex) (so2.show' fun ps => by rw [ex.ghv p (show p ∈ p :: κ.gh by simp) (fun ps => by rw [upd_same]; exact fun z => by cases z), upd_same]; exact fun z => by cases z) d vs h1' h2 (h3'.ext0 Ext0.show')
end
end SD

set_option Elab.async false
set_option linter.all false
set_option maxRecDepth 100000
set_option maxHeartbeats 4000000
namespace SD
open PySem PySem.Spec PyProof.Rows L2
section
variable {g : Gc} {W : WX} {X : Cx} {x : Str} {pos : Pos}
theorem ge_ty (t : T7) (hm : X.mg x = none) (hg : Gl X x) (hv : bootBuiltins x = some (.type t.name)) (hn : x ≠ "__name__" := by decide) (hd : (x == ("__debug__" : Str)) = false := by decide) : GE g W X (.Name x pos) (eC (.ty t)) :=
  ge_c (v := .ty t.name) (pe_bltn hg hm hv rfl hn hd)
end
theorem hu65 {k : Nat} {A : Around} (r : Room k A) : A.units + 65 < cLine := by have := r.un; omega
theorem hu64 {k : Nat} {A : Around} (r : Room k A) : A.units + 64 < cLine := r.units
/-- the facts of the head, over some heap -/
structure Hd (fa : List He.Fa) (fn : List He.DefD) (K : PySem.W.Frag) (mg : Str → Option Value) : Prop where
  ex : ∃ h : Heap, K.In h ∧ h.Ns mainGlobals mg ∧ He.SaysD fa fn K
section
variable {fa : List He.Fa} {fn : List He.DefD} {K : PySem.W.Frag} {mg : Str → Option Value}
theorem Hd.glo (T : Hd fa fn K mg) (i : Nat) {x : Str} (h : fa[i]? = some (.glo x) := by rfl) : mg x = some (.ref (He.ga K x)) := by
  obtain ⟨_, X, G, c⟩ := T.ex
  exact He.glo_ok X G (c.fact i h)
theorem Hd.free (T : Hd fa fn K mg) (i : Nat) {x : Str} (h : fa[i]? = some (.free x) := by rfl) : mg x = none := by
  obtain ⟨_, X, G, c⟩ := T.ex
  exact He.free_ok X G (c.fact i h)
theorem Hd.int (T : Hd fa fn K mg) (i : Nat) {x : Str} {k : Int} (h : fa[i]? = some (.int x k) := by rfl) : ∃ t, mg x = some (.int k t) := by
  obtain ⟨_, X, G, c⟩ := T.ex
  exact He.int_ok X G (c.fact i h)
theorem Hd.str (T : Hd fa fn K mg) (i : Nat) {x z : Str} (h : fa[i]? = some (.str x z) := by rfl) : ∃ t, mg x = some (.str z t) := by
  obtain ⟨_, X, G, c⟩ := T.ex
  exact He.str_ok X G (c.fact i h)
theorem Hd.def_ (T : Hd fa fn K mg) (i : Nat) {d : He.DefD} (h : fn[i]? = some d := by rfl) : ∃ fd, FunD K d.name d.qual d.params d.body d.scope (d.dvs K) (d.kws K) (He.fAd K d.at_) fd := by
  obtain ⟨_, X, G, c⟩ := T.ex
  exact c.def_ i h
end
/-- a global def: where it stands, and its promise by its body -/
theorem fg_of {P : Program} {w : World} {g : Gc} {mg : Str → Option Value} {base : Heap} {x : Str} {st : Stmt} {N ps : List Str} {dvs : List V} {k : Nat} {md : Md} {fb : DS} {f : Addr}
    (hm : mg x = some (.ref f)) (hF : ∃ fd, FunD g.K x x (defArgs st) (defBody st) (defScope st) dvs [] f fd) (S : FnScope N ps (defScope st))
    (hb : ∀ (cdv : Value) (A : Around) (outer : List Env) (s : Shared) (H : Hp) (E : XK), Room k (A.deeper (envOfC x (defScope st) s.heap.objs.size f cdv)) → GSs g (WF E) (cxOf (L2.CX P w) P w g.K mg base N x (defScope st) f cdv A outer s H E) (defBody st) fb) :
    FnG P w g mg base (k + 1) x st ps dvs (runF md ps.length N.length fb) := by
  obtain ⟨fd, F⟩ := hF
  exact ⟨f, fd, hm, F, gf_ok F S hb⟩
theorem fg_stuck {P : Program} {w : World} {g : Gc} {mg : Str → Option Value} {base : Heap} {x : Str} {st : Stmt} {ps : List Str} {dvs : List V} {k : Nat} {f : Addr}
    (hm : mg x = some (.ref f)) (hF : ∃ fd, FunD g.K x x (defArgs st) (defBody st) (defScope st) dvs [] f fd) : FnG P w g mg base k x st ps dvs (fun _ _ => .stuck) := by
  obtain ⟨fd, F⟩ := hF
  exact ⟨f, fd, hm, F, fnOk_stuck⟩
theorem ar_stuck {np : Nat} : Ar (fun _ _ => .stuck) np := fun _ _ _ => rfl
/-- the body's wish about exceptions -/
theorem tk_of {P : Program} {w : World} {K : PySem.W.Frag} {mg : Str → Option Value} {base : Heap} {N : List Str} {qual : Str} {scope : Scope} {f : Addr} {cdv : Value} {A : Around} {outer : List Env} {s : Shared} {H : Hp} {E : XK} :
    Takes (cxOf (L2.CX P w) P w K mg base N qual scope f cdv A outer s H E) (WF E) := takes_of rfl rfl rfl rfl
theorem po_of {P : Program} {w : World} {K : PySem.W.Frag} {mg : Str → Option Value} {base : Heap} {N : List Str} {qual : Str} {scope : Scope} {f : Addr} {cdv : Value} {A : Around} {outer : List Env} {s : Shared} {H : Hp} {E : XK} :
    PassesOwn (model P w) (cxOf (L2.CX P w) P w K mg base N qual scope f cdv A outer s H E).A (cxOf (L2.CX P w) P w K mg base N qual scope f cdv A outer s H E).env (cxOf (L2.CX P w) P w K mg base N qual scope f cdv A outer s H E).xe :=
  passes_of (X := cxOf (L2.CX P w) P w K mg base N qual scope f cdv A outer s H E) rfl
end SD

set_option Elab.async false
set_option linter.all false
set_option maxRecDepth 100000
set_option maxHeartbeats 4000000
namespace HT2
open PySem PySem.Spec PyProof.Rows HT PySem.W
section
variable {prog : Program} {w : World} {A : Around} {E : Value → Shared → Prop} {s : Shared}
end
end HT2
namespace SD
open PySem PySem.Spec PyProof.Rows L2
section
variable {g : Gc} {W : WX} {X : Cx}
theorem RelL.rev {κ : KA} {H : Hp} : ∀ {xs : List DV} {vs : List V}, RelL g κ H xs vs → RelL g κ H xs.reverse vs.reverse
  | [], _, r => by cases r.of_nil; exact RelL.nil
  | x :: xs, _, r => by
    obtain ⟨v, r', rfl, h1, h2⟩ := r.of_cons
    rw [List.reverse_cons, List.reverse_cons]
    exact (RelL.rev h2).append (RelL.cons h1 RelL.nil)
theorem PE.or {e : Expr} {t u : TE} (h : PE X e t) (h' : PE X e u) : PE X e (fun σ H Q => t σ H Q ∨ u σ H Q) := ⟨fun pins s σ H Q I q => q.elim (h.run pins s σ H Q I) (h'.run pins s σ H Q I)⟩
end
end SD
namespace SD
open PySem PySem.Spec PyProof.Rows L2
theorem noCX {P : Program} {w : World} {H : Hp} {s : Shared} {e : Value} {s' : Shared} (z : L2.CX P w [] H s (fun _ _ _ => False) e s') : False := by
  obtain ⟨_, _, _, _, _, _, _, _, _, _, _, _, z⟩ := z
  exact z
end SD

set_option Elab.async false
set_option linter.all false
set_option maxRecDepth 100000
set_option maxHeartbeats 4000000
namespace SD
open PySem PySem.Spec PyProof.Rows L2
section
variable {g : Gc} {X : Cx}
/-- a, b = [..] -/
def gUnl' (f : DGs) (n : Nat) : DG := fun d ρ μ => match seqOf μ d with
  | some xs => if xs.length = n then f xs ρ μ else none
  | none => none
/-- x, y, z = a, b, c -/
def sPar3 (i j l : Nat) (r : DA) : DS := fun ρ μ => (r ρ μ).toS ρ fun ds μ1 => match ds with
  | [d, e, f] => .nx (((ρ.set i (some d)).set j (some e)).set l (some f)) μ1
  | _ => .stuck
theorem gs_par3 {W : WX} {fr : DA} {pos : Pos} {i j l : Nat} {x y z : Str} {a b c : Expr} {px py pz pt : Pos} {kt k2 pt2} (hc : X.calm = true) (hN : X.N.Nodup) (hi : X.N[i]? = some x) (hj : X.N[j]? = some y) (hl : X.N[l]? = some z) (hij : i ≠ j) (hil : i ≠ l) (hjl : j ≠ l)
    (hx : X.env.scope.names.lookup x = some .local) (hy : X.env.scope.names.lookup y = some .local) (hz : X.env.scope.names.lookup z = some .local) (ha : GA g W X [a, b, c] fr)
    (hw : swappedStores [.Tuple [.Name x px, .Name y py, .Name z pz] kt pt] (.Tuple [a, b, c] k2 pt2) X.env = pure (some [x, y, z]) := by rfl)
    (hs : swapsWithSole [.Tuple [.Name x px, .Name y py, .Name z pz] kt pt] (.Tuple [a, b, c] k2 pt2) pos.line X.env = pure false := by rfl) :
    GS g W X (.Assign [.Tuple [.Name x px, .Name y py, .Name z pz] kt pt] (.Tuple [a, b, c] k2 pt2) pos) (sPar3 i j l fr) := PS.imp (ps_par3 hc hN hi hj hl hij hil hjl hx hy hz ha hw hs) fun D σ H q => by
  obtain ⟨κ, ρ, μ, he, hs, hw⟩ := q
  refine ⟨κ, ρ, μ, he, hs, (wpS.bind he hw).mono fun ds μ1 κ1 H1 e1 s1 h1 vs rv => ?_⟩
  match ds, rv, h1 with
  | [d, e, f], rv, h1 =>
    obtain ⟨v, r1, rfl, q1, q2⟩ := rv.of_cons
    obtain ⟨w, r2, rfl, q3, q4⟩ := q2.of_cons
    obtain ⟨u, r3, rfl, q5, q6⟩ := q4.of_cons
    cases q6.of_nil
    exact ⟨v, w, u, rfl, h1 κ1 H1 _ Ext.refl s1 ((((he.ext e1).set q1).set q3).set q5)⟩
  | [], _, h1 => exact h1.elim
  | [_], _, h1 => exact h1.elim
  | [_, _], _, h1 => exact h1.elim
  | _ :: _ :: _ :: _ :: _, _, h1 => exact h1.elim
end
end SD

set_option Elab.async false
set_option linter.all false
set_option maxRecDepth 100000
set_option maxHeartbeats 4000000
namespace L2
open PySem PySem.Spec PyProof.Rows
end L2
namespace SD
open PySem PySem.Spec PyProof.Rows L2
section
variable {g : Gc} {W : WX} {X : Cx} {e : Expr} {fa : DE} {pos : Pos}
end
end SD

set_option Elab.async false
set_option linter.all false
set_option maxRecDepth 100000
set_option maxHeartbeats 4000000
namespace PySem
section
variable {prog : Program} {w : World} {A : Around} {R : Result → Shared → Prop} {it : Addr} {fp wr : List Addr} {n : Nat} {P : Nat → Value → Prop} {St : Nat → Heap → Prop} {S : Addr}
/-- all but the walk's own and the keeper stay -/
def Stay (wr : List Addr) (S : Addr) (h h' : Heap) : Prop := ∀ b o, b ∉ wr → b ≠ S → h.get? b = some o → h'.get? b = some o
theorem Stay.trans {h h1 h2 : Heap} (a : Stay wr S h h1) (b : Stay wr S h1 h2) : Stay wr S h h2 := fun c o x y e => b c o x y (a c o x y e)
end
section
open PyProof.Rows
variable {prog : Program} {w : World} {A : Around} {E : Value → Shared → Prop} {s : Shared}
end
end PySem
namespace SD
open PySem PySem.Spec PyProof.Rows L2
section
variable {g : Gc} {X : Cx}
end
end SD

set_option Elab.async false
set_option linter.all false
set_option maxRecDepth 100000
set_option maxHeartbeats 4000000
namespace SD
open PySem PySem.Spec PyProof.Rows L2
section
variable {g : Gc} {X : Cx}
end
end SD

set_option Elab.async false
set_option linter.all false
set_option maxRecDepth 100000
set_option maxHeartbeats 4000000
namespace SD
open PySem PySem.Spec PyProof.Rows L2
abbrev leTail : List Value := [.type "LookupError", .type "Exception", .type "BaseException", .type "object"]
/-- own classes, then LookupError's -/
def refsLE : List Value → Bool
  | .ref _ :: r => refsLE r
  | l => l == leTail
/-- what is asked of the classes behind one's own -/
structure Tl (bm tl : List Value) : Prop where
  has : ∀ Y : String, bm.contains (.type Y) = tl.contains (.type Y)
  ob : tl.contains (.type "object") = true
  pass : ∀ self : Value, refuseLoop self "__setattr__" bm = pure ()
theorem Tl.ve {bm : List Value} (h : PySem.HandSPX.refsVE bm = true) : Tl bm PySem.HandSPX.veTail := ⟨fun Y => PySem.HandSPX.refsVE_contains Y bm h, by decide +kernel, fun self => PySem.HandSPX.refsVE_pass self bm h⟩
theorem le_pass (self : Value) : refuseLoop self "__setattr__" leTail = pure () := by kernel_rfl
theorem Tl.le : ∀ {bm : List Value}, refsLE bm = true → Tl bm leTail
  | [], e => absurd e (by decide)
  | .ref c :: r, e => by
    have T := Tl.le (bm := r) e
    exact ⟨fun Y => by rw [List.contains_cons, T.has Y]; rfl, T.ob, fun self => by rw [refuseLoop_ref]; exact T.pass self⟩
  | .none :: _, e => by rw [show _ = leTail from beq_iff_eq.mp e]; exact ⟨fun _ => rfl, by decide +kernel, le_pass⟩
  | .ellipsis :: _, e => by rw [show _ = leTail from beq_iff_eq.mp e]; exact ⟨fun _ => rfl, by decide +kernel, le_pass⟩
  | .notImplemented :: _, e => by rw [show _ = leTail from beq_iff_eq.mp e]; exact ⟨fun _ => rfl, by decide +kernel, le_pass⟩
  | .bool _ :: _, e => by rw [show _ = leTail from beq_iff_eq.mp e]; exact ⟨fun _ => rfl, by decide +kernel, le_pass⟩
  | .int _ _ :: _, e => by rw [show _ = leTail from beq_iff_eq.mp e]; exact ⟨fun _ => rfl, by decide +kernel, le_pass⟩
  | .float _ _ :: _, e => by rw [show _ = leTail from beq_iff_eq.mp e]; exact ⟨fun _ => rfl, by decide +kernel, le_pass⟩
  | .str _ _ :: _, e => by rw [show _ = leTail from beq_iff_eq.mp e]; exact ⟨fun _ => rfl, by decide +kernel, le_pass⟩
  | .bytes _ _ :: _, e => by rw [show _ = leTail from beq_iff_eq.mp e]; exact ⟨fun _ => rfl, by decide +kernel, le_pass⟩
  | .type _ :: _, e => by rw [show _ = leTail from beq_iff_eq.mp e]; exact ⟨fun _ => rfl, by decide +kernel, le_pass⟩
  | .builtin _ :: _, e => by rw [show _ = leTail from beq_iff_eq.mp e]; exact ⟨fun _ => rfl, by decide +kernel, le_pass⟩
abbrev ieTail : List Value := .type "IndexError" :: leTail
theorem ie_pass (self : Value) : refuseLoop self "__setattr__" ieTail = pure () := by kernel_rfl
theorem Tl.ie {bm : List Value} (h : (bm == ieTail) = true) : Tl bm ieTail := by
  rw [beq_iff_eq.mp h]
  exact ⟨fun _ => rfl, by decide +kernel, ie_pass⟩
/-- an own exception class over either base -/
structure OexG (K : PySem.W.Frag) (C : Addr) : Prop where
  cls : ∃ nm q N bs bm sn sub ab col dd k0 k1 k2 k3 k5 B nw ni tl, K.lookup C = some (excClassObj nm q C N bs bm true sn sub ab col dd k0 k1 k2 k3 k5 nw) ∧ ExcBaseFacts B nw ni tl ∧ Tl bm tl
  sa : PySem.W.findIn K (.ref C) "__setattr__" = some (some (.builtin "object.__setattr__"))
  exC : PySem.W.subIn K (.ref C) (.type "BaseException") = some true
  tyC : PySem.W.typeIn K (.ref C) = some (.type "type")
  kC : PySem.W.keepIn K (.ref C) = true
section
open Builtin Builtin.ObjectAttr PySem.HandSPX PySem.W PySem.Calls
variable {prog : Program} {w : World} {A : Around} {E : Value → Shared → Prop} {R : Result → Shared → Prop} {hp : Heap} {g : Array GenState} {d : Drawn} {t : Nat} {os : OsState}
variable {K : PySem.W.Frag} {name : Str} {tk : Tok} {v : Value} {x C dx : Addr} {fv : Array Value} {cd : ClassData} {bm tl : List Value}
/-- the first field -/
theorem osa_newG (X : K.In hp) (hx : hp.get? x = some { cls := .ref C, data := .fields fv }) (hcd : PySem.W.clsIn K C = some cd) (hm : cd.mro = .ref C :: bm) (T : Tl bm tl) (hh : cd.hasDict = true) (ha : PySem.W.findIn K (.ref C) name = some none)
    (hq : ∀ h' tk' dx, (∀ b o, b ≠ x → hp.get? b = some o → h'.get? b = some o) → hp.objs.size ≤ dx → dx ≠ x → h'.get? x = some { cls := .ref C, dict := some dx, data := .fields fv } →
      h'.Ns1 dx (fun y => if y = name then some v else none) → R (.ok (.ret .none)) ⟨h', g, d, tk', os⟩) :
    codeAny (model prog w) A (.call (.builtin "object.__setattr__") ⟨[.ref x, .str name tk, v], []⟩) R ⟨hp, g, d, t, os⟩ := by
  have I : PySem.W.InstAt hp x { cls := .ref C, data := .fields fv } C none := ⟨hx, rfl, rfl, trivial⟩
  have SF := F.store_object
  have hob : cd.mro.contains (.type "object") = true := by rw [hm, List.contains_cons, T.has, T.ob, Bool.or_true]
  have ne : cd.mro.isEmpty = false := by rw [hm]; rfl
  have hxs : x ≠ hp.objs.size := Nat.ne_of_lt (Heap.lt_size hx)
  have sub : PySem.W.Looks (model prog w) hp (isInstance (.ref x) (.type "object")) true := I.type.andThen (PySem.W.looks_mroIn X (by unfold PySem.W.mroIn; rw [hcd, Option.bind_some, if_neg (by rw [ne]; decide), hob]))
  refine codeAny_call_builtin SF.slot.plain SF.entry (@PySem.W.check_slot (model prog w) _ _ ⟨hp, g, d, t, os⟩ "object.__setattr__" "object" "__setattr__" (.ref x) [.str name tk, v] [] _ SF.kind SF.split sub (SF.args (.ref x) (.str name tk) v) ?_)
  have hmr : PySem.W.Looks (model prog w) hp (mroOf (.ref C)) cd.mro := (PySem.W.looks_clsIn X hcd).andThen .now
  have L3 : PySem.W.Looks (model prog w) hp (storeTaker? none) none := .now
  have hcls : PySem.W.Looks (model prog w) hp (classData C) cd := PySem.W.looks_clsIn X hcd
  rw [PySem.W.osa_eq, refuse_eq]
  refine wpAny_bind (wpAny_bind (I.type.at (wpAny_bind (hmr.at ?_))))
  rw [hm, refuseLoop_ref, T.pass]
  refine wpAny_pure (wpAny_bind (I.type.at (wpAny_bind ((PySem.W.looks_findIn X ha).at (wpAny_bind (L3.at ?_))))))
  show wpAny _ _ (storeInOwnDict (.ref x) (.ref C) (.str name tk) name v false) _ _ _
  obtain ⟨nm, bs, mro, ns, qn, hd, sn, sb, ab, col, del⟩ := cd
  dsimp only at hh
  subst hh
  unfold storeInOwnDict ownDictForStores
  repeat (first | with_reducible refine PySem.HandSPX.store_in_new ?_ ?_ | with_reducible refine wpAny_loadPart_at hx ?_ | with_reducible refine hcls.at ?_ | wp_step)
  · exact ⟨_, #[], _, (Heap.get?_update_ne _ _ _ _ hxs.symm).trans (Heap.get?_push_at rfl rfl), rfl, fun e he => absurd he (by simp), fun _ => rfl⟩
  · intro h' tk' hn' hs
    have hx₁ : (hp.push { cls := .type "dict", data := .dict #[] }).get? x = some { cls := .ref C, data := .fields fv } := Heap.get?_push_of_some _ hx
    refine hq h' tk' hp.objs.size (fun b o hb ho => ?_) (Nat.le_refl _) hxs.symm ?_ hn'
    · exact (hs.2 b (Nat.ne_of_lt (Heap.lt_size ho))).trans ((Heap.get?_update_ne _ _ _ _ hb).trans (Heap.get?_push_of_some _ ho))
    · exact (hs.2 x hxs).trans (Heap.get?_update_self _ hx₁ rfl)
/-- a further field -/
theorem osa_oldG {m0 : Str → Option Value} {nl : List Str} (X : K.In hp) (hx : hp.get? x = some { cls := .ref C, dict := some dx, data := .fields fv }) (hns : hp.Ns1 dx m0) (hw : Within m0 nl) (hz : nl.length ≤ 1000) (hcd : PySem.W.clsIn K C = some cd) (hm : cd.mro = .ref C :: bm) (T : Tl bm tl) (hh : cd.hasDict = true)
    (ha : PySem.W.findIn K (.ref C) name = some none)
    (hq : ∀ h' tk', (∀ b o, b ≠ dx → hp.get? b = some o → h'.get? b = some o) → h'.Ns1 dx (fun y => if y = name then some v else m0 y) → R (.ok (.ret .none)) ⟨h', g, d, tk', os⟩) :
    codeAny (model prog w) A (.call (.builtin "object.__setattr__") ⟨[.ref x, .str name tk, v], []⟩) R ⟨hp, g, d, t, os⟩ := by
  obtain ⟨oD, esD, epD, hoD, hdD, _⟩ := hns.count hw
  have I : PySem.W.InstAt hp x { cls := .ref C, dict := some dx, data := .fields fv } C (some oD) := ⟨hx, rfl, rfl, hoD⟩
  have SF := F.store_object
  have hob : cd.mro.contains (.type "object") = true := by rw [hm, List.contains_cons, T.has, T.ob, Bool.or_true]
  have ne : cd.mro.isEmpty = false := by rw [hm]; rfl
  have sub : PySem.W.Looks (model prog w) hp (isInstance (.ref x) (.type "object")) true := I.type.andThen (PySem.W.looks_mroIn X (by unfold PySem.W.mroIn; rw [hcd, Option.bind_some, if_neg (by rw [ne]; decide), hob]))
  refine codeAny_call_builtin SF.slot.plain SF.entry (@PySem.W.check_slot (model prog w) _ _ ⟨hp, g, d, t, os⟩ "object.__setattr__" "object" "__setattr__" (.ref x) [.str name tk, v] [] _ SF.kind SF.split sub (SF.args (.ref x) (.str name tk) v) ?_)
  have hmr : PySem.W.Looks (model prog w) hp (mroOf (.ref C)) cd.mro := (PySem.W.looks_clsIn X hcd).andThen .now
  have L3 : PySem.W.Looks (model prog w) hp (storeTaker? none) none := .now
  have hcls : PySem.W.Looks (model prog w) hp (classData C) cd := PySem.W.looks_clsIn X hcd
  rw [PySem.W.osa_eq, refuse_eq]
  refine wpAny_bind (wpAny_bind (I.type.at (wpAny_bind (hmr.at ?_))))
  rw [hm, refuseLoop_ref, T.pass]
  refine wpAny_pure (wpAny_bind (I.type.at (wpAny_bind ((PySem.W.looks_findIn X ha).at (wpAny_bind (L3.at ?_))))))
  show wpAny _ _ (storeInOwnDict (.ref x) (.ref C) (.str name tk) name v false) _ _ _
  obtain ⟨nm, bs, mro, ns, qn, hd, sn, sb, ab, col, del⟩ := cd
  dsimp only at hh
  subst hh
  unfold storeInOwnDict ownDictForStores
  repeat (first | with_reducible refine PySem.OEX.store_in_old hns hw hz ?_ | with_reducible refine wpAny_loadPart_at hx ?_ | with_reducible refine hcls.at ?_ | wp_step)
  intro h' tk' hn' hs
  exact hq h' tk' (fun b o hb ho => (hs.2 b hb).trans ho) hn'
end
section
variable {X : Cx} {pins : List (Addr × Obj)} {σ : L2.St} {H : Hp} {s : Shared} {a C dx : Addr} {f : Str} {y : V} {u : Value} {fs : List (Str × V)} {Q : Unit → Shared → Prop} {E : Value → Shared → Prop} {A : Around}
theorem OexG.of {K : PySem.W.Frag} {C : Addr} (T : OexC K C) : OexG K C := by
  obtain ⟨⟨nm, q, N, bs, bm, sn, sub, ab, col, dd, k0, k1, k2, k3, k5, hC, hbm⟩, h1, h2, h3, h4⟩ := T
  exact ⟨⟨nm, q, N, bs, bm, sn, sub, ab, col, dd, k0, k1, k2, k3, k5, _, _, _, _, hC, F.excBase_ValueError, Tl.ve hbm⟩, h1, h2, h3, h4⟩
/-- self.f = y, the first one -/
theorem ostG_new (T : OexG X.K C) (I : Inv X pins σ H s) (e : H a = some (exo a C none)) (hno : PySem.W.findIn X.K (.ref C) f = some none) (ry : RelV y u)
    (h : ∀ dx s', H dx = none → dx ≠ a → Inv X pins σ (upd (upd H dx (exd dx [(f, y)])) a (exo a C (some dx))) s' → Q () s') : wpAny (model X.prog X.w) A (setAttr (.ref a) f u) Q E s := by
  obtain ⟨nm, q, N, bs, bm, sn, sub, ab, col, dd, k0, k1, k2, k3, k5, B, nw, ni, tl, hC, _, ht⟩ := T.cls
  have hcl : PySem.W.clsIn X.K C = some { name := nm, bases := bs, mro := .ref C :: bm, ns := N, qualname := q, hasDict := true, slotNames := sn, subclasses := sub, abstract := ab, collection := col, hasDel := false } := by unfold PySem.W.clsIn; rw [hC] <;> rfl
  obtain ⟨t1, ho⟩ := exo_at I.hok e
  obtain ⟨hp, g, d, t, os⟩ := s
  refine PySem.W.set_plain I.kIn (ox := { cls := .ref C, dict := none, data := .fields #[.ref t1, .none, .none, .none, .bool false, .none] }) (od := none) ⟨ho, rfl, rfl, trivial⟩ T.sa ?_
  refine osa_newG I.kIn ho hcl rfl ht rfl hno (fun h' tk' dx k dn dne hx hn => ?_)
  have hnd : H dx = none := I.hok.fresh dn
  have nd : ∀ {b : Addr} {o : Obj}, hp.get? b = some o → b ≠ dx := fun {b o} q => Nat.ne_of_lt (Nat.lt_of_lt_of_le (Heap.lt_size q) dn)
  have na : ∀ {b : Addr}, H b = none → b ≠ a := fun {b} n z => by
    rw [z, e] at n
    cases n
  have Un1 : Un X.fs [] H (upd (upd H dx (exd dx [(f, y)])) a (exo a C (some dx))) hp h' := {
    keep := fun b o q n _ _ => k b o (na n) q
    slot := fun b o q n _ _ => ⟨o.slots, k b o (na n) q⟩
    free := fun b o q n _ => by rw [upd_ne (na n), upd_ne (nd q)]; exact n
    there := fun b o q _ => by
      by_cases hb : b = a
      · exact ⟨_, by rw [hb]; exact hx⟩
      · exact ⟨o, k b o hb q⟩
    tups := fun b xs q => by rw [upd_ne (at_ne e q exo_tup), upd_ne (ne_of_none q hnd)]; exact q
    frzs := fun b o v q => by rw [upd_ne (at_ne e q exo_frz), upd_ne (ne_of_none q hnd)]; exact q
    tbls := fun b ps q => ⟨#[], by rw [upd_ne (at_ne e q exo_tbl), upd_ne (ne_of_none q hnd), q]; simp⟩ }
  refine h dx _ hnd dne (I.un (t' := tk') Un1 fun b o q => ?_)
  by_cases hb : b = a
  · subst hb
    rw [upd_same] at q
    cases q
    exact exo_ok hx
  · rw [upd_ne hb] at q
    by_cases hd : b = dx
    · subst hd
      rw [upd_same] at q
      cases q
      exact exd_ok hn (relO_put (fs := []) ry fun g => True.intro)
    · rw [upd_ne hd] at q
      exact (I.hok b o q).stay (fun c v hc z => k c v (by
          rcases hc with hc | hc
          · rw [hc]
            exact hb
          · exact at_ne e hc exo_own) z)
        (fun c hc => by rw [upd_ne (at_ne e hc exo_own), upd_ne (ne_of_none hc hnd)]; exact hc) (fun c xs hc => by rw [upd_ne (at_ne e hc exo_tup), upd_ne (ne_of_none hc hnd)]; exact hc)
/-- self.f = y, a further one -/
theorem ostG_old (T : OexG X.K C) (I : Inv X pins σ H s) (e : H a = some (exo a C (some dx))) (ed : H dx = some (exd dx fs)) (hl : fs.length ≤ 900) (hno : PySem.W.findIn X.K (.ref C) f = some none) (ry : RelV y u)
    (h : ∀ s', Inv X pins σ (upd H dx (exd dx ((f, y) :: fs))) s' → Q () s') : wpAny (model X.prog X.w) A (setAttr (.ref a) f u) Q E s := by
  obtain ⟨nm, q, N, bs, bm, sn, sub, ab, col, dd, k0, k1, k2, k3, k5, B, nw, ni, tl, hC, _, ht⟩ := T.cls
  have hcl : PySem.W.clsIn X.K C = some { name := nm, bases := bs, mro := .ref C :: bm, ns := N, qualname := q, hasDict := true, slotNames := sn, subclasses := sub, abstract := ab, collection := col, hasDel := false } := by unfold PySem.W.clsIn; rw [hC] <;> rfl
  obtain ⟨t1, ho⟩ := exo_at I.hok e
  obtain ⟨mA, hns, rel⟩ := exd_at I.hok ed
  have hw := within_of rel
  obtain ⟨hp, g, d, t, os⟩ := s
  obtain ⟨oD, _, _, hoD, _, _⟩ := hns.count hw
  refine PySem.W.set_plain I.kIn (ox := { cls := .ref C, dict := some dx, data := .fields #[.ref t1, .none, .none, .none, .bool false, .none] }) (od := some oD) ⟨ho, rfl, rfl, hoD⟩ T.sa ?_
  refine osa_oldG I.kIn ho hns hw (by rw [List.length_map]; omega) hcl rfl ht rfl hno (fun h' tk' k hn => ?_)
  have hd : ∃ o, h'.get? dx = some o := by
    obtain ⟨o, _, _, e', _⟩ := hn
    exact ⟨o, e'⟩
  exact h _ (I.write (t' := tk') (x := dx) (e := dx) (o := exd dx ((f, y) :: fs)) (by rw [ed]; exact True.intro) (.inl rfl) k hd (exd_ok hn (relO_put ry rel)))
end
/-- self.f = e -/
def tOstG (K : PySem.W.Frag) (f : Str) (to te : TE) : TS := fun D σ H => te σ H fun y H1 => to σ H1 fun x H2 => ∃ a C : Addr, x = .ref a ∧ OexG K C ∧ PySem.W.findIn K (.ref C) f = some none ∧
  ((H2 a = some (exo a C none) ∧ ∀ dx, H2 dx = none → dx ≠ a → D.nx σ (upd (upd H2 dx (exd dx [(f, y)])) a (exo a C (some dx)))) ∨
    ∃ (dx : Addr) (fs : List (Str × V)), H2 a = some (exo a C (some dx)) ∧ H2 dx = some (exd dx fs) ∧ fs.length ≤ 900 ∧ D.nx σ (upd H2 dx (exd dx ((f, y) :: fs))))
section
variable {X : Cx} {o e : Expr} {es : List Expr} {to te : TE} {ta : TA} {f : Str} {p p' p1 p2 pos : Pos}
theorem psG_ost (ho : PE X o to) (he : PE X e te) (hs : swapsWith e (some (.Attribute o f p')) pos.line X.env = pure false := by rfl) : PS X (.Assign [.Attribute o f p'] e pos) (tOstG X.K f to te) := by
  refine ⟨fun pins s σ H D I h => ?_⟩
  refine plainObj_wpAny_Assign_Attribute (thn (he.run pins s σ H _ I h) fun v s1 ⟨y, H1, I1, r1, q1⟩ => thn (ho.run pins s1 σ H1 _ I1 q1) fun u s2 ⟨x, H2, I2, r2, a, C, ex, T, hno, q⟩ => ?_) hs
  subst ex
  obtain rfl : u = Value.ref a := r2
  rcases q with ⟨ea, q⟩ | ⟨dx, fs, ea, ed, hl, q⟩
  · exact ostG_new T I2 ea hno r1 fun dx s' n ne J => ⟨σ, _, J, q dx n ne⟩
  · exact ostG_old T I2 ea ed hl hno r1 fun s' J => ⟨σ, _, J, q⟩
end
end SD

set_option Elab.async false
set_option linter.all false
set_option maxRecDepth 100000
set_option maxHeartbeats 4000000
namespace SD
open PySem PySem.Spec PyProof.Rows L2

def fsI (code : Str) (ps : List Str) (ys : List V) : List (Str × V) := ("code", .str code) :: (ps.zip ys).reverse
def spI (C : Addr) (ps : List Str) (code : Str) : Sp := fun vs H Q _ => vs.length = ps.length + 1 ∧ ∃ (a : Addr) (ys : List V), vs = .ref a :: ys ∧ ys.length = ps.length ∧ H a = some (exo a C none) ∧ ∀ dx, H dx = none → dx ≠ a → Q .non (upd (upd H dx (exd dx (fsI code ps ys))) a (exo a C (some dx)))
theorem upd_again {H : Hp} {a d : Addr} {o1 o2 o3 : HO} (h : d ≠ a) : upd (upd (upd H d o1) a o2) d o3 = upd (upd H d o3) a o2 := by
  funext b
  by_cases hb : b = d
  · subst hb
    rw [upd_same, upd_ne h, upd_same]
  · rw [upd_ne hb]
    by_cases ha : b = a
    · subst ha; rw [upd_same, upd_same]
    · rw [upd_ne ha, upd_ne ha, upd_ne hb, upd_ne hb]
section
variable {P : Program} {w : World} {K : PySem.W.Frag} {mg : Str → Option Value} {base : Heap} {qual code f1 f2 : Str} {params : Arguments} {scope : Scope} {fI C : Addr} {fd : FuncData} {k j : Nat} {p1 p2 p3 p4 q1 q2 q3 q4 r1 r2 r3 r4 : Pos}
theorem init0 {N : List Str} (F : FunD K "__init__" qual params [.Assign [.Attribute (.Name "self" p1) "code" p2] (.Constant (.str code) j p3) p4] scope [] [] fI fd) (S : FnScope N ["self"] scope)
    (T : OexG K C) (hc : PySem.W.findIn K (.ref C) "code" = some none)
    (hv : ∀ (cdv : Value) (A : Around) (outer : List Env) (s : Shared) (H : Hp) (E : XK), PE (cxOf (L2.CX P w) P w K mg base N qual scope fI cdv A outer s H E) (.Name "self" p1) (tVar 0)) (h0 : N.length = 1) :
    FnOk P w K mg base (L2.CX P w) (k + 1) fI fd ["self"] (spI C [] code) := by
  refine F.ok S (fun vs H Q E h => h.1) (fun cdv A outer s H vs Q E hr h => ⟨_, pss_one (psG_ost (hv cdv A outer s H E) pe_str), ?_⟩)
  obtain ⟨_, a, ys, rfl, hl, ha, h⟩ := h
  have : ys = [] := List.length_eq_zero_iff.mp hl
  subst this
  refine ⟨.ref a, rfl, a, C, rfl, T, hc, .inl ⟨ha, fun dx n ne => ?_⟩⟩
  exact h dx n ne
theorem init1 {N : List Str} (F : FunD K "__init__" qual params [.Assign [.Attribute (.Name "self" p1) f1 p2] (.Name f1 p3) p4, .Assign [.Attribute (.Name "self" q1) "code" q2] (.Constant (.str code) j q3) q4] scope [] [] fI fd) (S : FnScope N ["self", f1] scope)
    (T : OexG K C) (hc : PySem.W.findIn K (.ref C) "code" = some none) (h1 : PySem.W.findIn K (.ref C) f1 = some none)
    (hv : ∀ (cdv : Value) (A : Around) (outer : List Env) (s : Shared) (H : Hp) (E : XK) (p : Pos), PE (cxOf (L2.CX P w) P w K mg base N qual scope fI cdv A outer s H E) (.Name "self" p) (tVar 0))
    (hv1 : ∀ (cdv : Value) (A : Around) (outer : List Env) (s : Shared) (H : Hp) (E : XK), PE (cxOf (L2.CX P w) P w K mg base N qual scope fI cdv A outer s H E) (.Name f1 p3) (tVar 1))
    (hs : ∀ env : Env, swapsWith (.Name f1 p3) (some (.Attribute (.Name "self" p1) f1 p2)) p4.line env = pure false := by intro _; rfl) (h0 : N.length = 2) :
    FnOk P w K mg base (L2.CX P w) (k + 1) fI fd ["self", f1] (spI C [f1] code) := by
  refine F.ok S (fun vs H Q E h => h.1) (fun cdv A outer s H vs Q E hr h => ⟨_, pss_cons (psG_ost (hv cdv A outer s H E p1) (hv1 cdv A outer s H E) (hs _)) (pss_one (psG_ost (hv cdv A outer s H E q1) pe_str)), ?_⟩)
  obtain ⟨_, a, ys, rfl, hl, ha, h⟩ := h
  match ys, hl with
  | [y], _ =>
    refine ⟨y, rfl, .ref a, rfl, a, C, rfl, T, h1, .inl ⟨ha, fun dx n ne => ?_⟩⟩
    refine ⟨.ref a, rfl, a, C, rfl, T, hc, .inr ⟨dx, [(f1, y)], upd_same, by rw [upd_ne ne, upd_same], by simp, ?_⟩⟩
    show Q .non (upd (upd (upd H dx _) a _) dx _)
    rw [upd_again ne]
    exact h dx n ne
theorem init2 {N : List Str} (F : FunD K "__init__" qual params [.Assign [.Attribute (.Name "self" p1) f1 p2] (.Name f1 p3) p4, .Assign [.Attribute (.Name "self" r1) f2 r2] (.Name f2 r3) r4, .Assign [.Attribute (.Name "self" q1) "code" q2] (.Constant (.str code) j q3) q4] scope [] [] fI fd) (S : FnScope N ["self", f1, f2] scope)
    (T : OexG K C) (hc : PySem.W.findIn K (.ref C) "code" = some none) (h1 : PySem.W.findIn K (.ref C) f1 = some none) (h2 : PySem.W.findIn K (.ref C) f2 = some none)
    (hv : ∀ (cdv : Value) (A : Around) (outer : List Env) (s : Shared) (H : Hp) (E : XK) (p : Pos), PE (cxOf (L2.CX P w) P w K mg base N qual scope fI cdv A outer s H E) (.Name "self" p) (tVar 0))
    (hv1 : ∀ (cdv : Value) (A : Around) (outer : List Env) (s : Shared) (H : Hp) (E : XK), PE (cxOf (L2.CX P w) P w K mg base N qual scope fI cdv A outer s H E) (.Name f1 p3) (tVar 1))
    (hv2 : ∀ (cdv : Value) (A : Around) (outer : List Env) (s : Shared) (H : Hp) (E : XK), PE (cxOf (L2.CX P w) P w K mg base N qual scope fI cdv A outer s H E) (.Name f2 r3) (tVar 2))
    (hs : ∀ env : Env, swapsWith (.Name f1 p3) (some (.Attribute (.Name "self" p1) f1 p2)) p4.line env = pure false := by intro _; rfl) (hs2 : ∀ env : Env, swapsWith (.Name f2 r3) (some (.Attribute (.Name "self" r1) f2 r2)) r4.line env = pure false := by intro _; rfl) (h0 : N.length = 3) :
    FnOk P w K mg base (L2.CX P w) (k + 1) fI fd ["self", f1, f2] (spI C [f1, f2] code) := by
  refine F.ok S (fun vs H Q E h => h.1) (fun cdv A outer s H vs Q E hr h => ⟨_, pss_cons (psG_ost (hv cdv A outer s H E p1) (hv1 cdv A outer s H E) (hs _)) (pss_cons (psG_ost (hv cdv A outer s H E r1) (hv2 cdv A outer s H E) (hs2 _)) (pss_one (psG_ost (hv cdv A outer s H E q1) pe_str))), ?_⟩)
  obtain ⟨_, a, ys, rfl, hl, ha, h⟩ := h
  match ys, hl with
  | [y, z], _ =>
    refine ⟨y, rfl, .ref a, rfl, a, C, rfl, T, h1, .inl ⟨ha, fun dx n ne => ?_⟩⟩
    refine ⟨z, rfl, .ref a, rfl, a, C, rfl, T, h2, .inr ⟨dx, [(f1, y)], upd_same, by rw [upd_ne ne, upd_same], by simp, ?_⟩⟩
    show tOstG K "code" (tVar 0) (tC (.str code)) _ _ (upd (upd (upd H dx _) a _) dx _)
    rw [upd_again ne]
    refine ⟨.ref a, rfl, a, C, rfl, T, hc, .inr ⟨dx, [(f2, z), (f1, y)], upd_same, by rw [upd_ne ne, upd_same], by simp, ?_⟩⟩
    show Q .non (upd (upd (upd H dx _) a _) dx _)
    rw [upd_again ne]
    exact h dx n ne
end
/-- an own exception class, as those who raise see it: its number c, its params, its code -/
structure XcG (P : Program) (w : World) (g : Gc) (mg : Str → Option Value) (base : Heap) (k : Nat) (x : Str) (c : Nat) (ps : List Str) (code : Str) : Prop where
  ex : ∃ (fI : Addr) (fd : FuncData), mg x = some (.ref (g.cls c)) ∧ OexG g.K (g.cls c) ∧ PySem.W.findIn g.K (.ref (g.cls c)) "__init__" = some (some (.ref fI)) ∧ PySem.W.typeIn g.K (.ref fI) = some (.type "function") ∧
    Binds g.K fd ("self" :: ps) [] ∧ FnOk P w g.K mg base (L2.CX P w) k fI fd ("self" :: ps) (spI (g.cls c) ps code) ∧ ∃ oc od osl, g.K.lookup fI = some ⟨oc, od, .func fd, osl⟩
theorem zip_rev {α β : Type} : ∀ {xs : List α} {ys : List β}, ys.length = xs.length → xs.reverse.zip ys.reverse = (xs.zip ys).reverse
  | [], _, _ => by simp
  | x :: xs, [], h => by simp at h
  | x :: xs, y :: ys, h => by
    have h' : ys.length = xs.length := by simpa using h
    rw [List.reverse_cons, List.reverse_cons, List.zip_append (by simp [h']), zip_rev h']
    show (xs.zip ys).reverse ++ [(x, y)] = ((x, y) :: xs.zip ys).reverse
    rw [List.reverse_cons]
theorem fsI_zip {code : Str} {ps : List Str} {ys : List V} (h : ys.length = ps.length) : fsI code ps ys = (("code" : Str) :: ps.reverse).zip (V.str code :: ys.reverse) := by
  unfold fsI
  rw [List.zip_cons_cons, zip_rev h]
theorem RelL.reverse {g : Gc} {κ : KA} {H : Hp} {xs : List DV} {vs : List V} (r : RelL g κ H xs vs) : RelL g κ H xs.reverse vs.reverse := RelL.rev r
section
variable {g : Gc} {W : WX} {X : Cx} {e : Expr} {es : List Expr} {fr : DA} {pos p pos' : Pos} {x : Str} {k c : Nat} {ps : List Str} {code : Str}
end
end SD

set_option Elab.async false
set_option linter.all false
set_option maxRecDepth 100000
set_option maxHeartbeats 4000000
namespace SD
open PySem PySem.Spec PyProof.Rows L2

mutual
def DV.noE : DV → Bool
  | .tup xs => noEL xs
  | .lst xs => noEL xs
  | .scr xs => noEL xs
  | .dct _ xs => noEL xs
  | .obj _ _ xs => noEL xs
  | .exn _ _ _ => false
  | .exv _ _ xs => noEL xs
  | _ => true
def noEL : List DV → Bool
  | [] => true
  | x :: xs => x.noE && noEL xs
end
def CO.noE : CO → Bool
  | .dead => true
  | .lst xs => noEL xs
  | .ins _ _ xs => noEL xs
  | .dct _ xs => noEL xs
section
variable {g g' : Gc} {κ : KA} {H : Hp} {μ : Sto}
end
theorem lookup_rel {g : Gc} {κ : KA} {H : Hp} {n : Str} {d : DV} : ∀ {ns : List Str} {xs : List DV} {vs : List V}, RelL g κ H xs vs → (ns.zip xs).lookup n = some d → ∃ v, (ns.zip vs).lookup n = some v ∧ Rel g κ H d v
  | [], xs, vs, r, h => by simp at h
  | m :: ns, [], vs, r, h => by simp at h
  | m :: ns, x :: xs, vs, r, h => by
    obtain ⟨v, r', rfl, h1, h2⟩ := r.of_cons
    rw [List.zip_cons_cons] at h ⊢
    by_cases e : n = m
    · subst e
      rw [List.lookup_cons_self] at h ⊢
      cases h
      exact ⟨v, rfl, h1⟩
    · have e' : (n == m) = false := by simpa using e
      rw [List.lookup_cons, e'] at h ⊢
      exact lookup_rel h2 h
/-- what the classes cs must have for the field n to be read -/
def XfOk (g : Gc) (cs : List Nat) (n : Str) : Prop := ∀ c ∈ cs, XfC g.K (g.cls c) ∧ PySem.W.findIn g.K (.ref (g.cls c)) n = some none
end SD

set_option Elab.async false
set_option linter.all false
set_option maxRecDepth 100000
set_option maxHeartbeats 4000000
namespace SD
open PySem PySem.Spec PyProof.Rows L2 LamX

section
variable {X : Cx} {x1 x2 n : Str} {c1 c2 : Value} {i j : Nat} {body suite : List Stmt} {b₀ : Stmt} {np1 np2 tp pos pos' : Pos} {tb : WX → TS} {ts : Addr → Value → Option Addr → TS}
end
end SD

set_option Elab.async false
set_option linter.all false
set_option maxRecDepth 100000
set_option maxHeartbeats 4000000
namespace SD
open PySem PySem.Spec PyProof.Rows L2 LamX
section
variable {g : Gc} {κ : KA} {X : Cx} {pins : List (Addr × Obj)} {σ : L2.St} {H : Hp} {s : Shared} {μ : Sto}
end
end SD

set_option Elab.async false
set_option linter.all false
set_option maxRecDepth 100000
set_option maxHeartbeats 4000000
namespace SD
open PySem PySem.Spec PyProof.Rows L2 LamX
end SD

set_option Elab.async false
set_option linter.all false
set_option maxRecDepth 100000
set_option maxHeartbeats 4000000
namespace SD
open PySem PySem.Spec PyProof.Rows L2 LamX He

def oexB (K : PySem.W.Frag) (C : Addr) : Bool := (match K.lookup C with
  | some ⟨.type "type", _, .cls cd, sl⟩ => (match cd.mro, sl.toList with
    | .ref C' :: bm, [_, _, _, _, some (.builtin n), _] => C' == C && (!cd.hasDel && (cd.hasDict && ((n == "ValueError.__new__" && PySem.HandSPX.refsVE bm) || ((n == "LookupError.__new__" && refsLE bm) || (n == "IndexError.__new__" && bm == ieTail)))))
    | _, _ => false)
  | _ => false) && (eqO (PySem.W.findIn K (.ref C) "__setattr__") (some (some (.builtin "object.__setattr__"))) && (decide (PySem.W.subIn K (.ref C) (.type "BaseException") = some true) && (decide (PySem.W.typeIn K (.ref C) = some (.type "type")) && PySem.W.keepIn K (.ref C))))
theorem oexB_ok {K : PySem.W.Frag} {C : Addr} (h : oexB K C = true) : OexG K C := by
  obtain ⟨h0, h⟩ := ba h
  obtain ⟨h1, h⟩ := ba h
  obtain ⟨h2, h⟩ := ba h
  obtain ⟨h3, h4⟩ := ba h
  refine ⟨?_, eqO_ok h1, of_decide_eq_true h2, of_decide_eq_true h3, h4⟩
  cases q : K.lookup C with
  | none => rw [q] at h0; cases h0
  | some o =>
    rw [q] at h0
    split at h0
    · rename_i dd cd sl ho
      cases ho
      split at h0
      · rename_i C' bm k0 k1 k2 k3 n k5 hm hs
        simp only [Bool.and_eq_true, Bool.or_eq_true, beq_iff_eq, Bool.not_eq_true'] at h0
        obtain ⟨rfl, hdel, hdict, ht⟩ := h0
        obtain ⟨nm, bs, mro, ns, qn, hd, sn, sub, ab, col, del⟩ := cd
        dsimp only at hm hdel hdict
        subst hm hdel hdict
        have hsl : sl = #[k0, k1, k2, k3, some (.builtin n), k5] := by
          obtain ⟨l⟩ := sl
          simp only at hs
          rw [hs]
        subst hsl
        rcases ht with ⟨rfl, ht⟩ | ⟨rfl, ht⟩ | ⟨rfl, ht⟩
        · exact ⟨nm, qn, ns, bs, bm, sn, sub, ab, col, dd, k0, k1, k2, k3, k5, _, _, _, _, rfl, F.excBase_ValueError, Tl.ve ht⟩
        · exact ⟨nm, qn, ns, bs, bm, sn, sub, ab, col, dd, k0, k1, k2, k3, k5, _, _, _, _, rfl, F.excBase_LookupError, Tl.le ht⟩
        · exact ⟨nm, qn, ns, bs, bm, sn, sub, ab, col, dd, k0, k1, k2, k3, k5, _, _, _, _, rfl, F.excBase_IndexError, Tl.ie (beq_iff_eq.mpr ht)⟩
      · cases h0
    · cases h0
/-- the class x: own __init__, the fields fs free -/
def xcB (x : Str) (fs : List Str) (K : PySem.W.Frag) : Bool := oexB K (ga K x) && (eqO (PySem.W.findIn K (.ref (ga K x)) "__init__") (some (some (.ref (ma K (ga K x) "__init__")))) && (decide (PySem.W.typeIn K (.ref (ma K (ga K x) "__init__")) = some (.type "function")) &&
  (xfB K (ga K x) && ((fs.all fun f => eqO (PySem.W.findIn K (.ref (ga K x)) f) (some none)) && (fs.contains "#" || decide (PySem.W.exmAny K (.ref (ga K x)) [.ref (ga K "LotError"), .ref (ga K "Missing")] = some true))))))
structure XcF (K : PySem.W.Frag) (x : Str) (fs : List Str) : Prop where
  o : OexG K (ga K x)
  i : PySem.W.findIn K (.ref (ga K x)) "__init__" = some (some (.ref (ma K (ga K x) "__init__")))
  t : PySem.W.typeIn K (.ref (ma K (ga K x) "__init__")) = some (.type "function")
  f : XfC K (ga K x)
  n : ∀ f ∈ fs, PySem.W.findIn K (.ref (ga K x)) f = some none
  m : fs.contains "#" = false → PySem.W.exmAny K (.ref (ga K x)) [.ref (ga K "LotError"), .ref (ga K "Missing")] = some true
theorem xcB_ok {K : PySem.W.Frag} {x : Str} {fs : List Str} (h : xcB x fs K = true) : XcF K x fs := by
  obtain ⟨h0, h⟩ := ba h
  obtain ⟨h1, h⟩ := ba h
  obtain ⟨h2, h⟩ := ba h
  obtain ⟨h3, h⟩ := ba h
  obtain ⟨h4, h5⟩ := ba h
  exact ⟨oexB_ok h0, eqO_ok h1, of_decide_eq_true h2, xfB_ok h3, fun f hf => eqO_ok (List.all_eq_true.mp h4 f hf), fun z => by rw [z, Bool.false_or] at h5; exact of_decide_eq_true h5⟩
/-- all that the classes are asked -/
def allX (cs : List (Str × List Str)) (K : PySem.W.Frag) : Bool := cs.all fun c => xcB c.1 c.2 K
/-- the numbers of the classes, in order -/
def clsN (cs : List (Str × List Str)) (K : PySem.W.Frag) (n : Nat) : Addr := ga K (((cs[n]?).map (·.1)).getD Str.empty)
/-- the facts of the head, with those of the classes and of the tables -/
structure Hx (fa : List Fa) (fn : List DefD) (cs : List (Str × List Str)) (K : PySem.W.Frag) (mg : Str → Option Value) : Prop extends Hd fa fn K mg where
  more : allX cs K = true
section
variable {fa : List Fa} {fn : List DefD} {cs : List (Str × List Str)} {K : PySem.W.Frag} {mg : Str → Option Value}
theorem Hx.xc (T : Hx fa fn cs K mg) (i : Nat) {x : Str} {fs : List Str} (h : cs[i]? = some (x, fs) := by rfl) : XcF K x fs := xcB_ok (List.all_eq_true.mp T.more _ (List.mem_of_getElem? h))
/-- an attribute that may be read of each of them -/
theorem Hx.xf (T : Hx fa fn cs K mg) {g : Gc} (hK : g.K = K) {is : List Nat} {f : Str} (hc : is.map g.cls = is.map (clsN cs K)) (h : (is.all fun i => (cs[i]?).any fun c => c.2.contains f) = true) : XfOk g is f := by
  intro i hi
  have h1 := List.all_eq_true.mp h i hi
  cases e : cs[i]? with
  | none => rw [e] at h1; cases h1
  | some c =>
    rw [e] at h1
    have h2 : c.2.contains f = true := h1
    obtain ⟨x, fs⟩ := c
    have X := T.xc i e
    have ea : g.cls i = ga K x := by rw [List.map_inj_left.mp hc i hi]; unfold clsN; rw [e]; rfl
    rw [hK, ea]
    exact ⟨X.f, X.n f (by simpa using h2)⟩
end
section
variable {P : Program} {w : World} {g : Gc} {mg : Str → Option Value} {base : Heap} {x qual code f1 f2 : Str} {params : Arguments} {scope : Scope} {fI : Addr} {c i j k : Nat} {N : List Str} {body : List Stmt} {fs : List Str} {p1 p2 p3 p4 q1 q2 q3 q4 r1 r2 r3 r4 : Pos}
theorem xc0 (hm : mg x = some (.ref (g.cls c))) (X : XcF g.K x fs) (ea : g.cls c = ga g.K x) (hF : ∃ fd, FunD g.K "__init__" qual params [.Assign [.Attribute (.Name "self" p1) "code" p2] (.Constant (.str code) j p3) p4] scope [] [] (ma g.K (ga g.K x) "__init__") fd) (S : FnScope N ["self"] scope)
    (hb : ∀ (kV doc pm : Value) (an : Option Addr) (cdv ct : Value) (us : List Value), us.length = 1 → bindArgs (PySem.W.fnOf "__init__" qual params [.Assign [.Attribute (.Name "self" p1) "code" p2] (.Constant (.str code) j p3) p4] scope .none kV doc pm an cdv ct) ⟨us, []⟩ = pure ((["self"] : List Str).zip us))
    (hc : fs.contains "code" = true) (h0 : N[0]? = some ("self" : Str)) (hv : Vis scope "self") (hl : N.length = 1) :
    XcG P w g mg base (k + 1) x c [] code := by
  obtain ⟨fd, F⟩ := hF
  rw [← ea] at F
  have lk : ∃ oc od osl, g.K.lookup (ma g.K (ga g.K x) "__init__") = some ⟨oc, od, .func fd, osl⟩ := by
    rw [← ea]
    obtain ⟨oc, od, _, _, _, _, _, _, _, osl, _, e, _⟩ := F.ex
    exact ⟨oc, od, osl, e⟩
  refine ⟨_, fd, hm, by rw [ea]; exact X.o, by rw [ea]; exact X.i, X.t, F.bindsN hb, ?_, lk⟩
  have T := X.o
  rw [← ea] at T ⊢
  exact init0 F S T (by rw [ea]; exact X.n _ (by simpa using hc)) (fun _ _ _ _ _ _ => pe_var h0 hv) hl
theorem xc1 (hm : mg x = some (.ref (g.cls c))) (X : XcF g.K x fs) (ea : g.cls c = ga g.K x) (hF : ∃ fd, FunD g.K "__init__" qual params [.Assign [.Attribute (.Name "self" p1) f1 p2] (.Name f1 p3) p4, .Assign [.Attribute (.Name "self" q1) "code" q2] (.Constant (.str code) j q3) q4] scope [] [] (ma g.K (ga g.K x) "__init__") fd) (S : FnScope N ["self", f1] scope)
    (hb : ∀ (kV doc pm : Value) (an : Option Addr) (cdv ct : Value) (us : List Value), us.length = 2 → bindArgs (PySem.W.fnOf "__init__" qual params [.Assign [.Attribute (.Name "self" p1) f1 p2] (.Name f1 p3) p4, .Assign [.Attribute (.Name "self" q1) "code" q2] (.Constant (.str code) j q3) q4] scope .none kV doc pm an cdv ct) ⟨us, []⟩ = pure ((["self", f1] : List Str).zip us))
    (hc : fs.contains "code" = true) (hf1 : fs.contains f1 = true) (h0 : N[0]? = some ("self" : Str)) (hv : Vis scope "self") (h1 : N[1]? = some f1) (hv1 : Vis scope f1) (hd : (f1 == ("__debug__" : Str)) = false) (hcd : (f1 == ("__classdict__" : Str)) = false) (hl : N.length = 2)
    (hs : ∀ env : Env, swapsWith (.Name f1 p3) (some (.Attribute (.Name "self" p1) f1 p2)) p4.line env = pure false) :
    XcG P w g mg base (k + 1) x c [f1] code := by
  obtain ⟨fd, F⟩ := hF
  rw [← ea] at F
  have lk : ∃ oc od osl, g.K.lookup (ma g.K (ga g.K x) "__init__") = some ⟨oc, od, .func fd, osl⟩ := by
    rw [← ea]
    obtain ⟨oc, od, _, _, _, _, _, _, _, osl, _, e, _⟩ := F.ex
    exact ⟨oc, od, osl, e⟩
  refine ⟨_, fd, hm, by rw [ea]; exact X.o, by rw [ea]; exact X.i, X.t, F.bindsN hb, ?_, lk⟩
  have T := X.o
  rw [← ea] at T ⊢
  exact init1 F S T (by rw [ea]; exact X.n _ (by simpa using hc)) (by rw [ea]; exact X.n _ (by simpa using hf1)) (fun _ _ _ _ _ _ _ => pe_var h0 hv) (fun _ _ _ _ _ _ => pe_var h1 hv1 hd hcd) hs hl
theorem xc2 (hm : mg x = some (.ref (g.cls c))) (X : XcF g.K x fs) (ea : g.cls c = ga g.K x) (hF : ∃ fd, FunD g.K "__init__" qual params [.Assign [.Attribute (.Name "self" p1) f1 p2] (.Name f1 p3) p4, .Assign [.Attribute (.Name "self" r1) f2 r2] (.Name f2 r3) r4, .Assign [.Attribute (.Name "self" q1) "code" q2] (.Constant (.str code) j q3) q4] scope [] [] (ma g.K (ga g.K x) "__init__") fd) (S : FnScope N ["self", f1, f2] scope)
    (hb : ∀ (kV doc pm : Value) (an : Option Addr) (cdv ct : Value) (us : List Value), us.length = 3 → bindArgs (PySem.W.fnOf "__init__" qual params [.Assign [.Attribute (.Name "self" p1) f1 p2] (.Name f1 p3) p4, .Assign [.Attribute (.Name "self" r1) f2 r2] (.Name f2 r3) r4, .Assign [.Attribute (.Name "self" q1) "code" q2] (.Constant (.str code) j q3) q4] scope .none kV doc pm an cdv ct) ⟨us, []⟩ = pure ((["self", f1, f2] : List Str).zip us))
    (hc : fs.contains "code" = true) (hf1 : fs.contains f1 = true) (hf2 : fs.contains f2 = true) (h0 : N[0]? = some ("self" : Str)) (hv : Vis scope "self") (h1 : N[1]? = some f1) (hv1 : Vis scope f1) (hd : (f1 == ("__debug__" : Str)) = false) (hcd : (f1 == ("__classdict__" : Str)) = false)
    (h2 : N[2]? = some f2) (hv2 : Vis scope f2) (hd2 : (f2 == ("__debug__" : Str)) = false) (hcd2 : (f2 == ("__classdict__" : Str)) = false) (hl : N.length = 3)
    (hs : ∀ env : Env, swapsWith (.Name f1 p3) (some (.Attribute (.Name "self" p1) f1 p2)) p4.line env = pure false) (hs2 : ∀ env : Env, swapsWith (.Name f2 r3) (some (.Attribute (.Name "self" r1) f2 r2)) r4.line env = pure false) :
    XcG P w g mg base (k + 1) x c [f1, f2] code := by
  obtain ⟨fd, F⟩ := hF
  rw [← ea] at F
  have lk : ∃ oc od osl, g.K.lookup (ma g.K (ga g.K x) "__init__") = some ⟨oc, od, .func fd, osl⟩ := by
    rw [← ea]
    obtain ⟨oc, od, _, _, _, _, _, _, _, osl, _, e, _⟩ := F.ex
    exact ⟨oc, od, osl, e⟩
  refine ⟨_, fd, hm, by rw [ea]; exact X.o, by rw [ea]; exact X.i, X.t, F.bindsN hb, ?_, lk⟩
  have T := X.o
  rw [← ea] at T ⊢
  exact init2 F S T (by rw [ea]; exact X.n _ (by simpa using hc)) (by rw [ea]; exact X.n _ (by simpa using hf1)) (by rw [ea]; exact X.n _ (by simpa using hf2)) (fun _ _ _ _ _ _ _ => pe_var h0 hv) (fun _ _ _ _ _ _ => pe_var h1 hv1 hd hcd) (fun _ _ _ _ _ _ => pe_var h2 hv2 hd2 hcd2) hs hs2 hl
end
theorem stoOk_start {g : Gc} {H : Hp} (h : ∀ p ∈ g.T, H p.1 = some (.tbl #[])) : StoOk g ⟨[], g.T.map (·.1)⟩ H [] where
  len := rfl
  inj := fun i j a h => by simp at h
  at_ := fun i c h => by simp at h
  gst := fun a ha => by
    obtain ⟨p, hp, e⟩ := List.mem_map.mp ha
    exact ⟨⟨_, by rw [← e]; exact h p hp⟩, by simp⟩
  tbs := fun p hp => ⟨List.mem_map_of_mem hp, #[], h p hp, True.intro, fun pos cv z => by
    have z' : codeAmong pos [] = some cv := z
    simp [codeAmong] at z'⟩
theorem sp_start {g : Gc} {F : Fn} {H : Hp} {a : Addr} {ns : List Int} (h : ∀ p ∈ g.T, H p.1 = some (.tbl #[])) (hS : SqL g.K H a (ns.map V.int)) (hF : ∃ μ, F [.scr (ns.map .int)] [] = .ok (.bl true) μ) : spF g F 1 [.ref a] H (fun v _ => v = .bl true) (fun _ _ _ => False) := by
  have no : ∀ (b : Addr) (o : HO), H b = some o → (∀ ps, o ≠ .tbl ps) → ¬ KA.has ⟨[], g.T.map (·.1)⟩ b := fun b o e n m => by
    rcases m with m | m
    · simp at m
    · obtain ⟨p, hp, e2⟩ := List.mem_map.mp m
      rw [← e2, h p hp] at e
      exact n _ (Option.some.inj e).symm
  refine ⟨rfl, ⟨[], g.T.map (·.1)⟩, [.scr (ns.map .int)], [], RelL.cons ?_ RelL.nil, stoOk_start h, ?_⟩
  · simp only [Rel]
    refine ⟨a, ns.map V.int, rfl, ?_, RelL.ints ns⟩
    rcases hS with (z | ⟨o, z⟩) | z
    · exact .inl ⟨z, no _ _ z fun ps e => by cases e⟩
    · exact .inr (.inl ⟨o, z, no _ _ z fun ps e => by cases e⟩)
    · exact .inr (.inr z)
  · obtain ⟨μ, e⟩ := hF
    rw [e]
    intro κ' H' _ _ v rv
    simpa only [Rel] using rv
/-- what the end asks of the law, by its body -/
theorem law_atS {l : PySem.W.OpenLaw} {w : World} {K : PySem.W.Frag} {mg : Str → Option Value} {fa' : Addr} {h : Heap} {fa : List Fa} {fn : List DefD} {ts : List Tab} {tf : List Defn} {ex : PySem.W.Frag → Bool} {g : Gc} {k n : Nat} {F : Fn} {fd : FuncData}
    (X : K.In h) (c : SaysX fa fn ts tf ex w h K) (hK : g.K = K) (hT : g.T.map (·.1) = tf.map fun p => (cT K p).2) (hb : ∀ (s : Shared) (u : Value), BindsTo s fd ⟨[u], []⟩ [("script", u)])
    (hpl : ∀ ns : List Int, ns.length ≤ n → ∃ μ, F [.scr (ns.map .int)] [] = .ok (.bl true) μ)
    (hF : ∀ base : Heap, K.In base → base.Ns mainGlobals mg → (∀ p ∈ tf, TabB base mg (cT K p).1 (cT K p).2) → FnOk l.prog w K mg base (L2.CX l.prog w) k fa' fd ["script"] (spF g F 1)) :
    LawAtS l w K (L2.CX l.prog w) k n "script" mg fa' h := by
  refine ⟨fd, tf.map (cT K), spF g F 1, fun p hp => ?_, fun p hp => ?_, fun p hp => ?_, hb, fun H a ns hl _ hH hS => ?_, fun base h1 h2 h3 => hF base h1 h2 fun p hp => h3 _ (List.mem_map_of_mem hp)⟩
  · obtain ⟨q, hq, rfl⟩ := List.mem_map.mp hp
    exact c.empty q hq
  · obtain ⟨q, hq, rfl⟩ := List.mem_map.mp hp
    exact c.out q hq
  · obtain ⟨q, hq, rfl⟩ := List.mem_map.mp hp
    exact PySem.W.codeHd_of_K X (c.hd q hq)
  · refine sp_start (fun p hp => ?_) (by rw [hK]; exact hS) (hpl ns hl)
    have m : p.1 ∈ tf.map fun p => (cT K p).2 := by rw [← hT]; exact List.mem_map_of_mem hp
    obtain ⟨q, hq, e⟩ := List.mem_map.mp m
    rw [← e]
    exact hH _ (List.mem_map_of_mem hq)
end SD

set_option Elab.async false
set_option linter.all false
set_option maxRecDepth 100000
set_option maxHeartbeats 4000000
namespace SD
open PySem PySem.Spec PyProof.Rows L2
section
variable {prog : Program} {w : World} {A : Around} {R : Result → Shared → Prop} {s : Shared} {elt t0 i0 t1 i1 : Expr} {f0 f1 : List Expr} {sc : Scope} {pos : Pos} {it acc : Value} {env : Env}
end
end SD

set_option Elab.async false
set_option linter.all false
set_option maxRecDepth 100000
set_option maxHeartbeats 4000000
namespace SD
open PySem PySem.Spec PyProof.Rows L2
section
variable {X : Cx}
end
end SD

set_option Elab.async false
set_option linter.all false
set_option maxRecDepth 100000
set_option maxHeartbeats 4000000
namespace SD
open PySem PySem.Spec PyProof.Rows L2

abbrev I2 := Int × Int
def prL (q : I2) : List Int := [q.1, q.2]
section
variable {prog : Program} {w : World} {A : Around} {E : Value → Shared → Prop} {s : Shared}
end
section
variable {X : Cx}
end
end SD

set_option Elab.async false
set_option linter.all false
set_option maxRecDepth 100000
set_option maxHeartbeats 4000000
namespace SD
open PySem PySem.Spec PyProof.Rows L2
/-- the set at D while it is filled -/
structure PS0 (g : Gc) (P : Program) (w : World) (κ1 : KA) (H1 : Hp) (D : Addr) (ms : List I2) (κ : KA) (H : Hp) (μ : Sto) : Prop where
  gh : κ.gh = D :: κ1.gh
  ex : Ext0 κ1 H1 κ H
  hv : ∀ a ∈ κ1.gh, NoTbl H1 a → H a = H1 a
  so : StoOk g κ H μ
  st : ∃ L, H D = some (SetTO P w D L) ∧ (L.map (·.2)).Perm (ms.map prL) ∧ ∀ p ∈ L, FrT g κ H p.1 (p.2.map V.int)
theorem noTbl_set {P : Program} {w : World} {H : Hp} {D : Addr} {L : List (Addr × List Int)} (h : H D = some (SetTO P w D L)) : NoTbl H D := fun ps e => by rw [h] at e; cases e
section
variable {g : Gc} {P : Program} {w : World} {κ1 κ κ' : KA} {H1 H H' : Hp} {D : Addr} {ms : List I2} {μ μ' : Sto}
theorem PS0.ext (p : PS0 g P w κ1 H1 D ms κ H μ) (e : Ext κ H κ' H') (s : StoOk g κ' H' μ') : PS0 g P w κ1 H1 D ms κ' H' μ' := by
  obtain ⟨L, h1, h2, h3⟩ := p.st
  refine ⟨e.ghs.trans p.gh, p.ex.trans e.toExt0, fun a ha n => ?_, s, L, ?_, h2, fun q hq => (h3 q hq).ext e⟩
  · have z := p.hv a ha n
    exact (e.ghv a (by rw [p.gh]; exact List.mem_cons_of_mem _ ha) fun ps y => n ps (by rw [← z]; exact y)).trans z
  · exact (e.ghv D (by rw [p.gh]; exact List.mem_cons_self) (noTbl_set h1)).trans h1
end

section
variable {g : Gc} {W : WX} {X : Cx}
end
end SD

set_option Elab.async false
set_option linter.all false
set_option maxRecDepth 100000
set_option maxHeartbeats 4000000
namespace SD
open PySem PySem.Spec PyProof.Rows L2
section
variable {X : Cx}
end
section
variable {g : Gc} {W : WX} {X : Cx} {elt t0 i0 t1 i1 : Expr} {f0 f1 : List Expr} {sc : Scope} {own : List (PySem.Str × Nat)} {vs1 sl sl1 : List Nat} {pos p2 cp : Pos} {fi fi1 : DI} {t t' : DG} {tt tt1 : DT} {te : DE} {N : List Str} {sc0 : Scope} {x : Str}
end

section
variable {g : Gc} {X : Cx}
end
end SD

set_option Elab.async false
set_option linter.all false
set_option maxRecDepth 100000
set_option maxHeartbeats 4000000
namespace SD
open PySem PySem.Spec PyProof.Rows L2
def trimE (n : Nat) (ρ : En) : En := ρ.map fun o => match o with
  | some d => if d.low n = true then some d else none
  | none => none
def trimOk (n : Nat) (μ : Sto) : Bool := decide (n ≤ μ.length) && (μ.take n).all (CO.low n)
def loopT (w : Wk) (t : DG) (f : DS) (n0 : Nat) : Nat → Nat → DS
  | 0, _ => fun _ _ => .stuck
  | n + 1, k => fun ρ μ => match wkAt w μ k with
    | none => .stuck
    | some none => .nx ρ μ
    | some (some d) => match t d ρ μ with
      | none => .stuck
      | some ρ1 => match f ρ1 μ with
        | .nx ρ' μ' => if trimOk n0 μ' = true then loopT w t f n0 n (k + 1) (trimE n0 ρ') (μ'.take n0) else .stuck
        | .ct ρ' μ' => if trimOk n0 μ' = true then loopT w t f n0 n (k + 1) (trimE n0 ρ') (μ'.take n0) else .stuck
        | .bk ρ' μ' => .nx ρ' μ'
        | r => r
def sForT (it : DI) (t : DG) (f : DS) : DS := fun ρ μ => (it ρ μ).toS ρ fun w μ1 => loopT w t f μ1.length (wkLen w μ1 + 1) 0 ρ μ1
section
variable {g : Gc} {W : WX} {X : Cx} {sts : List Stmt} {pos : Pos} {f : DS}
end
section
variable {ρ : En} {μ : Sto} {t : DG} {f : DS}
def R.forT (r : R Wk) (t : DG) (f : DS) (ρ : En) : SR := r.toS ρ fun w μ1 => loopT w t f μ1.length (wkLen w μ1 + 1) 0 ρ μ1
@[simp] theorem sForT_ap {it : DI} : sForT it t f ρ μ = R.forT (it ρ μ) t f ρ := rfl
end
end SD

set_option Elab.async false
set_option linter.all false
set_option maxRecDepth 100000
set_option maxHeartbeats 4000000
namespace SD
open PySem PySem.Spec PyProof.Rows L2
abbrev Xs := List (List Int × Addr × Value)
def DctT (P : Program) (w : World) (h : Heap) (d : Addr) (xs : Xs) : Prop :=
  (d == sysModules) = false ∧ ∃ o es ep, h.get? d = some o ∧ o.ExactDict ∧ o.data = .dict es ep ∧ es.toList = xs.map (entryOfKey (TK P w)) ∧ (xs.map (·.1)).Nodup
def DTX (P : Program) (w : World) (d : Addr) (xs : Xs) : HO := .ext fun h => DctT P w h d xs
section
variable {X : Cx}
end
end SD

set_option Elab.async false
set_option linter.all false
set_option maxRecDepth 100000
set_option maxHeartbeats 4000000
namespace SD
open PySem PySem.Spec PyProof.Rows L2
/-- the dict at D while it is filled -/
structure PD0 (g : Gc) (P : Program) (w : World) (κ1 : KA) (H1 : Hp) (D : Addr) (ms : List I2) (κ : KA) (H : Hp) (μ : Sto) : Prop where
  gh : κ.gh = D :: κ1.gh
  ex : Ext0 κ1 H1 κ H
  hv : ∀ a ∈ κ1.gh, NoTbl H1 a → H a = H1 a
  so : StoOk g κ H μ
  st : ∃ xs, H D = some (DTX P w D xs) ∧ xs.map (·.1) = ms.map prL ∧ ∀ p ∈ xs, FrT g κ H p.2.1 (p.1.map V.int)
theorem noTbl_dt {P : Program} {w : World} {H : Hp} {D : Addr} {xs : Xs} (h : H D = some (DTX P w D xs)) : NoTbl H D := fun ps e => by rw [h] at e; cases e
section
variable {g : Gc} {P : Program} {w : World} {κ1 κ κ' : KA} {H1 H H' : Hp} {D : Addr} {ms : List I2} {μ μ' : Sto}
theorem PD0.ext (p : PD0 g P w κ1 H1 D ms κ H μ) (e : Ext κ H κ' H') (s : StoOk g κ' H' μ') : PD0 g P w κ1 H1 D ms κ' H' μ' := by
  obtain ⟨xs, h1, h2, h3⟩ := p.st
  refine ⟨e.ghs.trans p.gh, p.ex.trans e.toExt0, fun a ha n => ?_, s, xs, ?_, h2, fun q hq => (h3 q hq).ext e⟩
  · have z := p.hv a ha n
    exact (e.ghv a (by rw [p.gh]; exact List.mem_cons_of_mem _ ha) fun ps y => n ps (by rw [← z]; exact y)).trans z
  · exact (e.ghv D (by rw [p.gh]; exact List.mem_cons_self) (noTbl_dt h1)).trans h1
end
section
variable {g : Gc} {W : WX} {X : Cx}
section
variable {kx vx t0 i0 : Expr} {f0 : List Expr} {sc : Scope} {own : List (PySem.Str × Nat)} {sl : List Nat} {pos : Pos} {fi : DI} {t : DG} {tt : DT} {tk tv : DE} {N : List Str} {sc0 : Scope} {tg : Expr}
end
end
end SD

set_option Elab.async false
set_option linter.all false
set_option maxRecDepth 100000
set_option maxHeartbeats 4000000
namespace SD
open PySem PySem.Spec PyProof.Rows L2
section
variable {g : Gc} {W : WX} {X : Cx}
def rngOf3 : List DV → Option Wk
  | [.int i, .int j, .int c] => if (!decide (c = 0)) && (decide (c.natAbs < 1073741824) && (Builtin.Range.small i j c && decide (0 ≤ Builtin.Range.rangeSize i j c))) then some (.fix ((List.range (Builtin.Range.rangeSize i j c).toNat).map fun k => .int (i + (k : Nat) * c))) else none
  | _ => none
def iRng3' (r : DA) : DI := fun ρ μ => (r ρ μ).bind fun ds μ1 => R.of (rngOf3 ds) μ1
end
section
variable {ρ : En} {μ : Sto}
def R.rg3 (r : R (List DV)) : R Wk := r.bind fun ds μ1 => R.of (rngOf3 ds) μ1
@[simp] theorem iRng3_ap {r : DA} : iRng3' r ρ μ = R.rg3 (r ρ μ) := rfl
@[simp] theorem rg3_ok {ds : List DV} : R.rg3 (.ok ds μ) = R.of (rngOf3 ds) μ := rfl
end
end SD

set_option Elab.async false
set_option linter.all false
set_option maxRecDepth 100000
set_option maxHeartbeats 4000000
namespace SD
open PySem PySem.Spec PyProof.Rows L2
section
variable {g : Gc} {κ : KA} {H : Hp} {μ : Sto} {d : DV} {v : V} {c : Nat} {ns : List Str} {xs : List DV}
end
/-- the classes' text lets the field be -/
def FlOk (g : Gc) (cs : List Nat) (f : Str) : Prop := ∀ c ∈ cs, Cls g.K (g.cls c) ∧ NoAttr g.K (g.cls c) f
section
variable {g : Gc} {W : WX} {X : Cx} {e o value : Expr} {es : List Expr} {fe fo fv : DE} {fr fk : DA} {f x m : Str} {cs : List Nat} {c k : Nat} {pos pos' p apos : Pos} {ps : List Str} {dvs : List V} {F : Fn} {fd : FuncData} {C fm : Addr}
end
end SD

set_option Elab.async false
set_option linter.all false
set_option maxRecDepth 100000
set_option maxHeartbeats 4000000
namespace SD
open PySem PySem.Spec PyProof.Rows L2
section
variable {prog : Program} {w : World} {A : Around} {E : Value → Shared → Prop} {s : Shared} {K : PySem.W.Frag} {x C f : Addr} {ox : Obj} {od : Option Obj}
end
end SD

set_option Elab.async false
set_option linter.all false
set_option maxRecDepth 100000
set_option maxHeartbeats 4000000
namespace SD
open PySem PySem.Spec PyProof.Rows L2
section
variable {M : Model} {prog : Program} {w : World} {A : Around} {E : Value → Shared → Prop} {s : Shared} {K : PySem.W.Frag} {x C f : Addr} {ox : Obj} {od : Option Obj} {b tb : Value}
end
end SD

set_option Elab.async false
set_option linter.all false
set_option maxRecDepth 100000
set_option maxHeartbeats 4000000
namespace SD
open PySem PySem.Spec PyProof.Rows L2
section
variable {P : Program} {w : World} {g : Gc} {mg : Str → Option Value} {base : Heap} {k c : Nat} {m qual : Str} {st : Stmt} {N ps : List Str} {md : Md} {fb : DS} {f : Addr}
end
section
variable {X : Cx} {k : Nat} {f : Addr} {fd : FuncData} {ps : List Str} {sp : Sp} {A : Around} {pins : List (Addr × Obj)} {σ : L2.St} {H : Hp} {s : Shared}
end
section
variable {g : Gc} {W : WX} {X : Cx} {e : Expr} {es : List Expr} {fr : DA} {pos p : Pos} {x : Str} {F : Fn} {k c : Nat}
end
end SD

set_option Elab.async false
set_option linter.all false
set_option maxRecDepth 100000
set_option maxHeartbeats 4000000
namespace SD
open PySem PySem.Spec PyProof.Rows L2
section
variable {g : Gc} {W : WX} {X : Cx} {e o : Expr} {es : List Expr} {fe fo : DE} {fr : DA} {m : Str} {c k : Nat} {pos apos : Pos} {ps : List Str} {F : Fn}
end
end SD

set_option Elab.async false
set_option linter.all false
set_option maxRecDepth 100000
set_option maxHeartbeats 4000000
namespace SD
open PySem PySem.Spec PyProof.Rows L2 He

/-- a property: its class, its name, its getter -/
structure GetD where
  cls : Str
  prop : Str
  name : Str
  qual : Str
  params : Arguments
  body : List Stmt
  scope : Scope
  /-- a classmethod, no property -/
  cm : Bool := false
/-- the getter's address -/
def gtA (K : PySem.W.Frag) (x f : Str) : Addr := match PySem.W.recIn K (ma K (ga K x) f) "property" with
  | some (.ref a :: _) => a
  | _ => 0
def cmA (K : PySem.W.Frag) (x m : Str) : Addr := match PySem.W.recIn K (ma K (ga K x) m) "classmethod" with
  | some (.ref a :: _) => a
  | _ => 0
def cmB (x m : Str) (K : PySem.W.Frag) : Bool := PySem.W.readsIn K (ga K x) (.type "type") && (He.eqO (PySem.W.specialIn K (.ref (ga K x)) "__getattribute__") (some (some (.builtin "type.__getattribute__"))) &&
  (He.eqO (PySem.W.findIn K (.type "type") m) (some none) && (He.eqO (PySem.W.findIn K (.ref (ga K x)) m) (some (some (.ref (ma K (ga K x) m)))) && (!Builtin.heldUnderItsOwnName m (.ref (ma K (ga K x) m)) &&
  (decide (PySem.W.typeIn K (.ref (ma K (ga K x) m)) = some (.type "classmethod")) && (He.eqO (PySem.W.specialIn K (.ref (ma K (ga K x) m)) "__get__") (some (some (.builtin "classmethod.__get__"))) &&
  ((match PySem.W.recIn K (ma K (ga K x) m) "classmethod" with | some (.ref _ :: _) => true | _ => false) && PySem.W.fnIn K (cmA K x m))))))))
def GetD.adr (K : PySem.W.Frag) (d : GetD) : Addr := if d.cm = true then cmA K d.cls d.prop else gtA K d.cls d.prop
def gtW (K : PySem.W.Frag) (a : Addr) : FnW := match K.lookup a with
  | some ob => (match ob.data with
    | .func d => some (d.name, d.qualname, d.params, d.body, d.scope, d.globals, d.closure, d.builtins)
    | _ => none)
  | none => none
def GetD.val (d : GetD) : FnW := some (d.name, d.qual, d.params, .stmts d.body, d.scope, mainGlobals, [], builtinsNs)
def gtRec (K : PySem.W.Frag) (x f : Str) : Bool := match PySem.W.recIn K (ma K (ga K x) f) "property" with
  | some (.ref _ :: _) => true
  | _ => false
def gtFn (K : PySem.W.Frag) (q : Str) (a : Addr) : Bool := match K.lookup a with
  | some ob => (match ob.data with
    | .func d => PySem.W.codeIn K d.code q && (dflB K d.defaults [] && kwdB K d.kwdefaults [])
    | _ => false)
  | none => false
def GetD.ok (K : PySem.W.Frag) (d : GetD) : Bool := if d.cm = true then (PySem.W.keepIn K (.ref (cmA K d.cls d.prop)) && (gtFn K d.qual (cmA K d.cls d.prop) && cmB d.cls d.prop K)) else PySem.W.keepIn K (.ref (gtA K d.cls d.prop)) && (gtFn K d.qual (gtA K d.cls d.prop) && (gtRec K d.cls d.prop &&
  (He.eqO (PySem.W.findIn K (.ref (ga K d.cls)) d.prop) (some (some (.ref (ma K (ga K d.cls) d.prop)))) && (He.eqO (PySem.W.specialIn K (.ref (ma K (ga K d.cls) d.prop)) "__get__") (some (some (.builtin "property.__get__"))) &&
    decide (PySem.W.takesIn K (.ref (ma K (ga K d.cls) d.prop)) = some true)))))
theorem gt_funD {K : PySem.W.Frag} {x q : Str} {ps : Arguments} {b : List Stmt} {sc : Scope} {a : Addr} (kp : PySem.W.keepIn K (.ref a) = true) (c : gtFn K q a = true) (e : gtW K a = some (x, q, ps, .stmts b, sc, mainGlobals, [], builtinsNs)) : ∃ fd, FunD K x q ps b sc [] [] a fd := by
  unfold gtFn at c
  unfold gtW at e
  cases lk : K.lookup a with
  | none => rw [lk] at c; cases c
  | some ob =>
    rw [lk] at c e
    obtain ⟨oc, od, dt, sl⟩ := ob
    cases dt with
    | func d =>
      simp only [Bool.and_eq_true] at c
      simp only [Option.some.injEq, Prod.mk.injEq] at e
      obtain ⟨c1, c2, c3⟩ := c
      refine ⟨d, ⟨oc, od, d.defaults, d.kwdefaults, d.doc, d.pyModule, d.annotations, d.code, d.closureTuple, sl, ?_, lk, c1, dflB_ok c2, kwdB_ok c3⟩, kp⟩
      cases d
      obtain ⟨e1, e2, e3, e4, e5, e6, e7, e8⟩ := e
      simp only at e1 e2 e3 e4 e5 e6 e7 e8
      subst e1 e2 e3 e4 e5 e6 e7 e8
      rfl
    | _ => cases c
theorem gt_prop {K : PySem.W.Frag} {d : GetD} (nc : d.cm = false) (c : d.ok K = true) : PropOf K (ga K d.cls) d.prop (ma K (ga K d.cls) d.prop) (gtA K d.cls d.prop) := by
  unfold GetD.ok at c
  rw [nc, if_neg Bool.false_ne_true] at c
  obtain ⟨_, c⟩ := ba c
  obtain ⟨_, c⟩ := ba c
  obtain ⟨c1, c⟩ := ba c
  obtain ⟨c2, c⟩ := ba c
  obtain ⟨c3, c4⟩ := ba c
  refine ⟨He.eqO_ok c2, He.eqO_ok c3, of_decide_eq_true c4, ?_⟩
  unfold gtRec at c1
  unfold gtA
  split at c1
  · rename_i b rest hb
    exact ⟨rest, by rw [hb]⟩
  · cases c1
structure OwnF (K : PySem.W.Frag) (x : Str) (fs ms : List Str) : Prop where
  c : Cls K (ga K x)
  mkr : Mk K (ga K x) (ma K (ga K x) "__init__")
  nf : ∀ f ∈ fs, NoAttr K (ga K x) f
  mt : ∀ m ∈ ms, Meth K (ga K x) m (ma K (ga K x) m)
  k1 : PySem.W.findIn K (.ref (ga K x)) "__class__" = some (some (.builtin "object.__class__"))
  k2 : PySem.W.specialIn K (.builtin "object.__class__") "__get__" = some (some (.builtin "getset_descriptor.__get__"))
  k3 : PySem.W.takesIn K (.builtin "object.__class__") = some true
  k4 : PySem.W.mroIn K (ga K x) (.type "object") = some true
  k5 : ((PySem.W.clsIn K (ga K x)).isSome && PySem.W.typeIn K (.ref (ga K x)) == some (.type "type")) = true
  ne : PySem.W.findIn K (.ref (ga K x)) "__ne__" = some (some (.builtin "object.__ne__"))
  rd : ClX.CRead K (ga K x) (.type "type")
def ownB (x : Str) (fs ms : List Str) (K : PySem.W.Frag) : Bool := (Fa.cls x).ok K && ((Fa.mkr x).ok K && ((fs.all fun f => (Fa.noat x f).ok K) && ((ms.all fun m => (Fa.meth x m).ok K) &&
  (He.eqO (PySem.W.findIn K (.ref (ga K x)) "__class__") (some (some (.builtin "object.__class__"))) && (He.eqO (PySem.W.specialIn K (.builtin "object.__class__") "__get__") (some (some (.builtin "getset_descriptor.__get__"))) &&
  (decide (PySem.W.takesIn K (.builtin "object.__class__") = some true) && (decide (PySem.W.mroIn K (ga K x) (.type "object") = some true) && (((PySem.W.clsIn K (ga K x)).isSome && PySem.W.typeIn K (.ref (ga K x)) == some (.type "type")) &&
  (He.eqO (PySem.W.findIn K (.ref (ga K x)) "__ne__") (some (some (.builtin "object.__ne__"))) && (PySem.W.readsIn K (ga K x) (.type "type") && He.eqO (PySem.W.specialIn K (.ref (ga K x)) "__getattribute__") (some (some (.builtin "type.__getattribute__")))))))))))))
theorem ownB_ok {K : PySem.W.Frag} {x : Str} {fs ms : List Str} (h : ownB x fs ms K = true) : OwnF K x fs ms := by
  unfold ownB at h
  obtain ⟨a1, h⟩ := ba h
  obtain ⟨a2, h⟩ := ba h
  obtain ⟨a3, h⟩ := ba h
  obtain ⟨a4, h⟩ := ba h
  obtain ⟨a5, h⟩ := ba h
  obtain ⟨a6, h⟩ := ba h
  obtain ⟨a7, h⟩ := ba h
  obtain ⟨a8, h⟩ := ba h
  obtain ⟨a9, h⟩ := ba h
  obtain ⟨b1, h⟩ := ba h
  obtain ⟨b2, b3⟩ := ba h
  exact ⟨cls_ok a1, mkr_ok a2, fun f hf => noat_ok (List.all_eq_true.mp a3 f hf), fun m hm => meth_ok (List.all_eq_true.mp a4 m hm), He.eqO_ok a5, He.eqO_ok a6, of_decide_eq_true a7, of_decide_eq_true a8, a9, He.eqO_ok b1, b2, He.eqO_ok b3⟩
abbrev OwnY : Type := Str × List Str × List Str
def allY (ys : List OwnY) (K : PySem.W.Frag) : Bool := ys.all fun y => ownB y.1 y.2.1 y.2.2 K
abbrev ConY : Type := Str × Str × Dv
def conYB (K : PySem.W.Frag) (c : ConY) : Bool := match PySem.W.findCls K (.ref (ga K c.1)) (.type "type") c.2.1 with
  | some (.val u) => relB (c.2.2.v K) u
  | _ => false
def allC (cv : List ConY) (K : PySem.W.Frag) : Bool := cv.all (conYB K)
structure Hy (fa : List Fa) (fn : List DefD) (cs : List (Str × List Str)) (ys : List OwnY) (cv : List ConY) (gt : List GetD) (K : PySem.W.Frag) (mg : Str → Option Value) : Prop extends Hx fa fn cs K mg where
  owns : allY ys K = true
  cons : allC cv K = true
  gtok : (gt.all fun d => d.ok K) = true
  gtvl : gt.map (fun d => gtW K (d.adr K)) = gt.map GetD.val
section
variable {fa : List Fa} {fn : List DefD} {cs : List (Str × List Str)} {ys : List OwnY} {cv : List ConY} {gt : List GetD} {K : PySem.W.Frag} {mg : Str → Option Value}
theorem Hy.own (T : Hy fa fn cs ys cv gt K mg) (i : Nat) {x : Str} {fs ms : List Str} (h : ys[i]? = some (x, fs, ms) := by rfl) : OwnF K x fs ms := ownB_ok (List.all_eq_true.mp T.owns _ (List.mem_of_getElem? h))
theorem Hy.get (T : Hy fa fn cs ys cv gt K mg) (i : Nat) {d : GetD} (h : gt[i]? = some d := by rfl) (nc : d.cm = false := by rfl) : PropOf K (ga K d.cls) d.prop (ma K (ga K d.cls) d.prop) (gtA K d.cls d.prop) ∧ ∃ fd, FunD K d.name d.qual d.params d.body d.scope [] [] (gtA K d.cls d.prop) fd := by
  have c := List.all_eq_true.mp T.gtok _ (List.mem_of_getElem? h)
  refine ⟨gt_prop nc c, ?_⟩
  have e2 : (gt.map fun d => gtW K (d.adr K))[i]? = (gt.map GetD.val)[i]? := by rw [T.gtvl]
  rw [List.getElem?_map, List.getElem?_map, h] at e2
  have c' := c
  unfold GetD.ok at c'
  rw [nc, if_neg Bool.false_ne_true] at c'
  obtain ⟨c1, c'⟩ := ba c'
  obtain ⟨c2, _⟩ := ba c'
  have e3 : gtW K (d.adr K) = d.val := Option.some.inj e2
  unfold GetD.adr at e3
  rw [nc, if_neg Bool.false_ne_true] at e3
  exact gt_funD c1 c2 e3
/-- fields of a class that may be read or set -/
theorem OwnF.fl {g : Gc} {x : Str} {fs ms : List Str} (O : OwnF K x fs ms) {n : Nat} {f : Str} (hK : g.K = K) (ec : g.cls n = ga K x) (hf : fs.contains f = true) : FlOk g [n] f := fun c hc => by
  rw [List.mem_singleton.mp hc, hK, ec]
  exact ⟨O.c, O.nf f (by simpa using hf)⟩
theorem OwnF.meth {x : Str} {fs ms : List Str} (O : OwnF K x fs ms) {m : Str} (hm : ms.contains m = true) : Meth K (ga K x) m (ma K (ga K x) m) := O.mt m (by simpa using hm)
theorem OwnF.free {x : Str} {fs ms : List Str} (O : OwnF K x fs ms) {f : Str} (hf : fs.contains f = true) : NoAttr K (ga K x) f := O.nf f (by simpa using hf)
end
abbrev AlG : Type := AlX × (Bool × List FnW)
def obsGt (gt : List GetD) (K : PySem.W.Frag) : Bool × List FnW := (gt.all fun d => d.ok K, gt.map fun d => gtW K (d.adr K))
/-- the addresses of the head, and the table of the interpreter's own statics -/
def asY (g : Addr → Option Obj) (n : Nat) : List Addr := cStatics :: asD g n
theorem saysX_at {fa : List Fa} {fn : List DefD} {tf : List Defn} {ex : PySem.W.Frag → Bool} {w : World} {h : Heap} {as : List Addr} (e1 : obsT fa fn [] (frT h.get? as) = valT fn [] w) (e2 : (ex (frT h.get? as) && tabsB h.get? tf (frT h.get? as)) = true) : SaysX fa fn [] tf ex w h (frT h.get? as) := by
  obtain ⟨e2, e3⟩ := ba e2
  have one : ∀ p ∈ tf, ∃ o, h.get? (cT (frT h.get? as) p).2 = some o ∧ emptyTab o = true ∧ PySem.W.codeHdIn (frT h.get? as) (cT (frT h.get? as) p).1 (cT (frT h.get? as) p).2 = true := by
    intro p hp
    have z := List.all_eq_true.mp e3 p hp
    obtain ⟨z1, z2⟩ := ba z
    split at z2
    · rename_i o ho
      exact ⟨o, ho, z2, z1⟩
    · cases z2
  refine ⟨e1, e2, fun p hp => ?_, fun p hp => ?_, fun p hp => ?_⟩ <;> obtain ⟨o, ho, he, hc⟩ := one p hp
  · exact hc
  · exact frT_none ho he
  · rw [ho, emptyTab_eq he]
def obsY (n : Nat) (fa : List Fa) (fn : List DefD) (tf : List Defn) (ex : PySem.W.Frag → Bool) (gt : List GetD) (g : Addr → Option Obj) : AlG := ((obsT fa fn [] (frT g (asY g n)), ex (frT g (asY g n)) && tabsB g tf (frT g (asY g n))), obsGt gt (frT g (asY g n)))
structure SaysY (fa : List Fa) (fn : List DefD) (tf : List Defn) (ex : PySem.W.Frag → Bool) (gt : List GetD) (w : World) (h : Heap) (K : PySem.W.Frag) : Prop where
  x : SaysX fa fn [] tf ex w h K
  g : obsGt gt K = (true, gt.map GetD.val)
def hookY (n : Nat) (fa : List Fa) (fn : List DefD) (tf : List Defn) (ex : PySem.W.Frag → Bool) (gt : List GetD) : PySem.W.Hook where
  α := AlG
  obs := fun s => obsY n fa fn tf ex gt s.heap.get?
  val := fun w => (valX fn [] w, (true, gt.map GetD.val))
  says := fun w h => ∃ K : PySem.W.Frag, K.In h ∧ SaysY fa fn tf ex gt w h K
  of := fun _ _ e => ⟨_, frT_in, saysX_at (congrArg (fun z : AlG => z.1.1) e) (congrArg (fun z : AlG => z.1.2) e), congrArg (fun z : AlG => z.2) e⟩
  keeps := fun _ _ _ ⟨K, hK, c⟩ k => ⟨K, PySem.W.Frag.In.keeps hK k, ⟨⟨c.x.t, c.x.more, c.x.hd, c.x.out, fun p hp => k _ _ (c.x.empty p hp)⟩, c.g⟩⟩
theorem obsY_eq {n : Nat} {fa : List Fa} {fn : List DefD} {tf : List Defn} {ex : PySem.W.Frag → Bool} {gt : List GetD} {g : Addr → Option Obj} {s : Shared} (h : ∀ a, g a = s.heap.get? a) : obsY n fa fn tf ex gt g = (hookY n fa fn tf ex gt).obs s := by
  have e : g = s.heap.get? := funext h
  rw [e]
  rfl
end SD

set_option Elab.async false
set_option linter.all false
set_option maxRecDepth 100000
set_option maxHeartbeats 4000000
namespace SD
open PySem PySem.Spec PyProof.Rows L2
structure IsOk (g : Gc) (c : Nat) : Prop where
  cl : Cls g.K (g.cls c)
  k1 : PySem.W.findIn g.K (.ref (g.cls c)) "__class__" = some (some (.builtin "object.__class__"))
  k2 : PySem.W.specialIn g.K (.builtin "object.__class__") "__get__" = some (some (.builtin "getset_descriptor.__get__"))
  k3 : PySem.W.takesIn g.K (.builtin "object.__class__") = some true
  k4 : PySem.W.mroIn g.K (g.cls c) (.type "object") = some true
  k5 : ((PySem.W.clsIn g.K (g.cls c)).isSome && PySem.W.typeIn g.K (.ref (g.cls c)) == some (.type "type")) = true
theorem OwnF.is {K : PySem.W.Frag} {g : Gc} {x : Str} {fs ms : List Str} (O : OwnF K x fs ms) {n : Nat} (hK : g.K = K) (ec : g.cls n = He.ga K x) : ∀ c ∈ [n], IsOk g c := fun c hc => by
  rw [List.mem_singleton.mp hc]
  subst hK
  exact ⟨by rw [ec]; exact O.c, by rw [ec]; exact O.k1, O.k2, O.k3, by rw [ec]; exact O.k4, by rw [ec]; exact O.k5⟩
section
variable {g : Gc} {W : WX} {X : Cx} {e o value : Expr} {es : List Expr} {fe fo fv : DE} {fr fk : DA} {f x m : Str} {cs : List Nat} {c k : Nat} {pos pos' p apos : Pos} {ps : List Str} {F : Fn}
end
end SD

set_option Elab.async false
set_option linter.all false
set_option maxRecDepth 100000
set_option maxHeartbeats 4000000
namespace SD
open PySem PySem.Spec PyProof.Rows L2
def IsPPs (h : Heap) : List Value → List I2 → Prop
  | [], [] => True
  | u :: us, q :: qs => Srt.IsPair h u q.1 q.2 ∧ IsPPs h us qs
  | _, _ => False
def IsPP (h : Heap) (v : Value) (qs : List I2) : Prop := ∃ a o us n, v = .ref a ∧ h.get? a = some o ∧ o.cls = .type "tuple" ∧ o.data = .seq us n ∧ IsPPs h us.toList qs
theorem IsPPs.keeps {h h' : Heap} (k : ∀ b o, h.get? b = some o → o.cls = .type "tuple" → h'.get? b = some o) : ∀ {us : List Value} {qs : List I2}, IsPPs h us qs → IsPPs h' us qs
  | [], [], _ => trivial
  | [], _ :: _, x => x.elim
  | _ :: _, [], x => x.elim
  | u :: us, q :: qs, x => ⟨Srt.IsPair.keeps x.1 k, IsPPs.keeps k x.2⟩
theorem IsPP.keeps {h h' : Heap} {v : Value} {qs : List I2} (x : IsPP h v qs) (k : ∀ b o, h.get? b = some o → o.cls = .type "tuple" → h'.get? b = some o) : IsPP h' v qs := by
  obtain ⟨a, o, us, n, e, ho, hc, hd, hp⟩ := x
  exact ⟨a, o, us, n, e, k _ _ ho hc, hc, hd, hp.keeps k⟩
theorem IsPPs.length {h : Heap} : ∀ {us : List Value} {qs : List I2}, IsPPs h us qs → us.length = qs.length
  | [], [], _ => rfl
  | [], _ :: _, x => x.elim
  | _ :: _, [], x => x.elim
  | u :: us, q :: qs, x => by rw [List.length_cons, List.length_cons, IsPPs.length x.2]
section
variable {prog : Program} {w : World} {A : Around} {E : Value → Shared → Prop} {s : Shared}
end
end SD

set_option Elab.async false
set_option linter.all false
set_option maxRecDepth 100000
set_option maxHeartbeats 4000000
namespace SD
open PySem PySem.Spec PyProof.Rows L2
section
variable {g : Gc} {X : Cx}
end
end SD

set_option Elab.async false
set_option linter.all false
set_option maxRecDepth 100000
set_option maxHeartbeats 4000000
namespace SD
open PySem PySem.Spec PyProof.Rows L2
section
variable {g : Gc} {W : WX} {X : Cx} {pos : Pos}
end
end SD

set_option Elab.async false
set_option linter.all false
set_option maxRecDepth 100000
set_option maxHeartbeats 4000000
namespace SD
open PySem PySem.Spec PyProof.Rows L2
/-- the list at D while it is filled -/
structure PL0 (g : Gc) (κ1 : KA) (H1 : Hp) (D : Addr) (acc : List DV) (κ : KA) (H : Hp) (μ : Sto) : Prop where
  gh : κ.gh = D :: κ1.gh
  ex : Ext0 κ1 H1 κ H
  hv : ∀ a ∈ κ1.gh, NoTbl H1 a → H a = H1 a
  so : StoOk g κ H μ
  st : ∃ avs, H D = some (.lst avs) ∧ RelL g κ H acc avs
theorem noTbl_lst {H : Hp} {D : Addr} {l : List V} (h : H D = some (.lst l)) : NoTbl H D := fun ps e => by rw [h] at e; cases e
section
variable {g : Gc} {κ1 κ κ' : KA} {H1 H H' : Hp} {D : Addr} {acc : List DV} {μ μ' : Sto}
theorem PL0.ext (p : PL0 g κ1 H1 D acc κ H μ) (e : Ext κ H κ' H') (s : StoOk g κ' H' μ') : PL0 g κ1 H1 D acc κ' H' μ' := by
  obtain ⟨avs, h1, h2⟩ := p.st
  refine ⟨e.ghs.trans p.gh, p.ex.trans e.toExt0, fun a ha n => ?_, s, avs, ?_, h2.ext e⟩
  · have z := p.hv a ha n
    exact (e.ghv a (by rw [p.gh]; exact List.mem_cons_of_mem _ ha) fun ps y => n ps (by rw [← z]; exact y)).trans z
  · exact (e.ghv D (by rw [p.gh]; exact List.mem_cons_self) (noTbl_lst h1)).trans h1
end
section
variable {g : Gc} {W : WX} {X : Cx}
section
variable {elt t0 i0 t1 i1 : Expr} {f0 f1 : List Expr} {sc : Scope} {own : List (PySem.Str × Nat)} {vs1 sl sl1 : List Nat} {pos : Pos} {fi fi1 : DI} {t t' : DG} {tt tt1 : DT} {te : DE} {N : List Str} {sc0 : Scope}
end
end
end SD

set_option Elab.async false
set_option linter.all false
set_option maxRecDepth 100000
set_option maxHeartbeats 4000000
namespace SD
open PySem PySem.Spec PyProof.Rows L2
section
variable {P : Program} {w : World} {g : Gc} {mg : Str → Option Value} {base : Heap} {k c : Nat} {m name qual : Str} {st : Stmt} {N : List Str} {md : Md} {fb : DS} {f p : Addr}
end
end SD

set_option Elab.async false
set_option linter.all false
set_option maxRecDepth 100000
set_option maxHeartbeats 4000000
namespace PySem
open PySem.Calls PyProof.Rows
set_option maxHeartbeats 1000000 in
section
variable {prog : Program} {w : World} {A : Around} {E : Value → Shared → Prop} {s : Shared}
end
end PySem
namespace SD
open PySem PySem.Spec PyProof.Rows L2
section
variable {g : Gc} {W : WX} {X : Cx} {e : Expr} {fe : DE} {p pos : Pos}
end
end SD

set_option Elab.async false
set_option linter.all false
set_option maxRecDepth 100000
set_option maxHeartbeats 4000000
namespace SD
open PySem PySem.Spec PyProof.Rows L2
section
variable {P : Program} {w : World} {g : Gc} {mg : Str → Option Value} {base : Heap} {k c : Nat} {m qual : Str} {st : Stmt} {N ps : List Str} {md : Md} {fb : DS} {f : Addr} {dvs : List V}
end
section
variable {g : Gc} {W : WX} {X : Cx} {e o : Expr} {es : List Expr} {fe fo : DE} {fr fk : DA} {m qual : Str} {c k : Nat} {pos apos : Pos} {ps : List Str} {F : Fn} {st : Stmt} {dvs : List V}
end
end SD

set_option Elab.async false
set_option linter.all false
set_option maxRecDepth 100000
set_option maxHeartbeats 4000000
namespace SD
open PySem PySem.Spec PyProof.Rows L2
section
variable {X : Cx} {p pos : Pos}
end
section
variable {g : Gc} {W : WX} {X : Cx} {pos p pos' : Pos} {x : Str} {k c : Nat} {code : Str}
end
end SD

set_option Elab.async false
set_option linter.all false
set_option maxRecDepth 100000
set_option maxHeartbeats 4000000
namespace SD
open PySem PySem.Spec PyProof.Rows L2
open PySem.HandSPX (HeldZ FlyingZ TracedZ Steady)
section
variable {M : Model} {A : Around} {E : Value → Shared → Prop} {s : Shared} {Z : Obj → Prop} {B : Heap} {ev ev' : Env} {ol l : List Env} {L a : Addr}
end
/-- the context, its exceptions taken otherwise -/
abbrev Cx.ox (X : Cx) (xe : Value → Shared → Prop) : Cx := { X with xe := xe }
section
variable {X : Cx} {E : XK} {L : Addr} {pins : List (Addr × Obj)} {σ : L2.St} {H : Hp} {s : Shared}
variable {elt tg iter : Expr} {ifs : List Expr} {scope : Scope} {own : List (Str × Nat)} {pos : Pos}
end
end SD

set_option Elab.async false
set_option linter.all false
set_option maxRecDepth 100000
set_option maxHeartbeats 4000000
namespace SD
open PySem PySem.Spec PyProof.Rows L2
section
variable {g : Gc} {E : XK} {X : Cx} {L : Addr}
variable {elt tg iter : Expr} {ifs : List Expr} {scope : Scope} {own : List (Str × Nat)} {fi : DI} {t : DG} {tt : DT} {te : DE} {sl : List Nat} {N : List Str} {sc : Scope} {pos : Pos}
end
end SD

set_option Elab.async false
set_option linter.all false
set_option maxRecDepth 100000
set_option maxHeartbeats 4000000
namespace SD
open PySem PySem.Spec PyProof.Rows L2
section
variable {prog : Program} {w : World} {A : Around} {E : Value → Shared → Prop} {s : Shared}
section
variable {a : Addr} {its : Array Value} {val : Nat → Str} {Q : Value → Shared → Prop}
end
end
/-- the least, the greatest of texts -/
def at_ (l : List Str) (i : Nat) : Str := l.getD i ⟨#[]⟩
section
variable {g : Gc} {X : Cx} {pins : List (Addr × Obj)} {σ : L2.St} {H : Hp} {s : Shared}
end
end SD

set_option Elab.async false
set_option linter.all false
set_option maxRecDepth 100000
set_option maxHeartbeats 4000000
namespace SD
open PySem PySem.Spec PyProof.Rows L2
def empT (K : PySem.W.Frag) (a : Addr) : Bool := match K.lookup a with
  | some ⟨.type "tuple", none, .seq its _, _⟩ => its.isEmpty
  | _ => false
def allE (l : List (PySem.W.Frag → Addr)) (K : PySem.W.Frag) : Bool := l.all fun p => empT K (p K)
def allD (tf : List He.Defn) (K : PySem.W.Frag) : Bool := decide (tf.map fun p => (He.cT K p).2).Nodup
/-- with defaults that are empty tuples, and several defs that make lambdas -/
structure Hw (fa : List He.Fa) (fn : List He.DefD) (cs : List (Str × List Str)) (ys : List OwnY) (cv : List ConY) (gt : List GetD) (df : List (PySem.W.Frag → Addr)) (tf : List He.Defn) (K : PySem.W.Frag) (mg : Str → Option Value) : Prop extends Hy fa fn cs ys cv gt K mg where
  emps : allE df K = true
  dist : allD tf K = true
section
variable {fa : List He.Fa} {fn : List He.DefD} {cs : List (Str × List Str)} {ys : List OwnY} {cv : List ConY} {gt : List GetD} {df : List (PySem.W.Frag → Addr)} {tf : List He.Defn} {K : PySem.W.Frag} {mg : Str → Option Value}
end
section
variable {P : Program} {w : World} {g : Gc} {mg : Str → Option Value} {base : Heap} {k c : Nat} {qual : Str} {st : Stmt} {N ps : List Str} {md : Md} {fb : DS} {f : Addr} {dvs : List V}
end
section
variable {g : Gc} {W : WX} {X : Cx} {e : Expr} {es : List Expr} {fr fk : DA} {x : Str} {c k : Nat} {pos p : Pos} {ps : List Str} {dvs : List V} {F : Fn}
end
section
variable {prog : Program} {w : World} {A : Around} {E : Value → Shared → Prop} {s : Shared} {K : PySem.W.Frag} {x C f : Addr} {ox : Obj} {od : Option Obj}
end
end SD

set_option Elab.async false
set_option linter.all false
set_option maxRecDepth 100000
set_option maxHeartbeats 4000000
namespace SD
open PySem PySem.Spec PyProof.Rows L2
open PySem.HandSPX (HeldZ FlyingZ TracedZ Steady)
section
variable {M : Model} {A : Around} {E : Value → Shared → Prop} {s : Shared} {ev : Env}
end
section
variable {X : Cx} {E : XK} {L : Addr} {pins : List (Addr × Obj)} {σ : L2.St} {H : Hp} {s : Shared}
variable {elt tg iter : Expr} {ifs : List Expr} {scope : Scope} {own : List (Str × Nat)} {pos : Pos}
end
section
variable {g : Gc} {E : XK} {X : Cx} {L : Addr}
variable {elt tg iter : Expr} {ifs : List Expr} {scope : Scope} {own : List (Str × Nat)} {fi : DI} {t : DG} {tt : DT} {te : DE} {sl : List Nat} {N : List Str} {sc : Scope} {pos : Pos}
end
section
variable {g : Gc} {W : WX} {X : Cx}
end
end SD

set_option Elab.async false
set_option linter.all false
set_option maxRecDepth 100000
set_option maxHeartbeats 4000000
namespace SD
open PySem PySem.Spec PyProof.Rows L2 LamX
end SD

set_option Elab.async false
set_option linter.all false
set_option maxRecDepth 100000
set_option maxHeartbeats 4000000
namespace SD
open PySem PySem.Spec PyProof.Rows L2
section
variable {g : Gc} {W : WX} {X : Cx} {a b : Expr} {fr : DA} {p pos : Pos}
end
end SD

set_option Elab.async false
set_option linter.all false
set_option maxRecDepth 100000
set_option maxHeartbeats 4000000
namespace PySem.W
open PySem PySem.Spec PySem.Calls PyProof.Rows
section
variable {prog : Program} {w : World} {A : Around} {E : Value → Shared → Prop} {s : Shared} {K : Frag} {x y C D L f f2 : Addr} {h₀ : Heap} {m : Str → Option Value} {ox oy : Obj} {od oe : Option Obj}
end
end PySem.W
namespace PySem.W
open PySem PySem.Spec PySem.Calls PyProof.Rows
section
variable {prog : Program} {w : World} {M : Model} {A : Around} {E : Value → Shared → Prop} {h : Heap} {g : Array GenState} {d : Drawn} {t : Nat} {os : OsState}
end
end PySem.W
namespace PySem.W
open PySem PySem.Spec PySem.Calls PyProof.Rows
section
variable {prog : Program} {w : World} {A : Around} {E : Value → Shared → Prop} {s : Shared} {K : Frag} {C D : Addr}
end
end PySem.W
namespace PySem.W
open PySem PySem.Spec PySem.Calls PyProof.Rows
section
variable {prog : Program} {w : World} {A : Around} {E : Value → Shared → Prop} {s : Shared} {K : Frag} {C D a b : Addr}
end
end PySem.W
namespace PySem.W
open PySem PySem.Spec PySem.Calls PyProof.Rows
section
variable {prog : Program} {w : World} {A : Around} {E : Value → Shared → Prop} {s : Shared} {K : Frag} {x y C D L f f2 : Addr} {h₀ : Heap} {m : Str → Option Value} {ox oy : Obj} {od oe : Option Obj}
theorem InstAt.kept {h h' : Heap} (I : InstAt h x ox C od) (k : ∀ b o, h.get? b = some o → h'.get? b = some o) : InstAt h' x ox C od := by
  obtain ⟨a, b, c, d⟩ := I
  refine ⟨k _ _ a, b, c, ?_⟩
  revert d
  split
  · exact fun d => k _ _ d
  · exact fun d => d
  · exact fun d => d
end
end PySem.W
namespace PySem.W
open PySem PySem.Spec PySem.Calls PyProof.Rows
section
variable {prog : Program} {w : World} {A : Around} {E : Value → Shared → Prop} {s : Shared} {K : Frag} {x y C D L f f2 : Addr} {h₀ : Heap} {m : Str → Option Value} {ox oy : Obj} {od oe : Option Obj}
end
end PySem.W

set_option Elab.async false
set_option linter.all false
set_option maxRecDepth 100000
set_option maxHeartbeats 4000000
namespace SD
open PySem PySem.Spec PyProof.Rows L2
section
variable {g : Gc} {W : WX} {X : Cx} {a b : Expr} {fa fb : DE} {c k : Nat} {pos : Pos} {F : Fn}
end
end SD
namespace PySem.W
open PySem PySem.Spec PySem.Calls PyProof.Rows
section
variable {prog : Program} {w : World} {A : Around} {E : Value → Shared → Prop} {s : Shared} {K : Frag} {x C L f : Addr} {h₀ : Heap} {m : Str → Option Value} {ox : Obj} {od : Option Obj} {T : String}
end
end PySem.W
namespace SD
open PySem PySem.Spec PyProof.Rows L2
section
variable {g : Gc} {W : WX} {X : Cx} {a b : Expr} {fa fb : DE} {c k : Nat} {pos : Pos} {F : Fn}
end
end SD
namespace SD
open PySem PySem.Spec PyProof.Rows L2 He
end SD

set_option Elab.async false
set_option linter.all false
set_option maxRecDepth 100000
set_option maxHeartbeats 4000000
namespace PySem.W
open PySem PySem.Spec PySem.Calls PyProof.Rows
section
variable {prog : Program} {w : World} {A : Around} {E : Value → Shared → Prop} {s : Shared} {K : Frag} {x C f : Addr} {ox : Obj} {od : Option Obj}
end
end PySem.W
namespace SD
open PySem PySem.Spec PyProof.Rows L2
section
variable {g : Gc} {W : WX} {X : Cx} {c k : Nat} {F : Fn}
end
end SD

set_option Elab.async false
set_option linter.all false
set_option maxRecDepth 100000
set_option maxHeartbeats 4000000
namespace SD
open PySem PySem.Spec PyProof.Rows L2
section
variable {g : Gc} {W : WX} {X : Cx} {c k : Nat} {F : Fn} {x m : Str} {p pos apos : Pos} {pl : Sem Bool}
end
end SD

set_option Elab.async false
set_option linter.all false
set_option maxRecDepth 100000
set_option maxHeartbeats 4000000
namespace SD
open PySem PySem.Spec PyProof.Rows L2
def allM (xs : List (PySem.W.Frag → Bool)) (K : PySem.W.Frag) : Bool := xs.all fun f => f K
structure Hv (fa : List He.Fa) (fn : List He.DefD) (cs : List (Str × List Str)) (ys : List OwnY) (cv : List ConY) (gt : List GetD) (df : List (PySem.W.Frag → Addr)) (tf : List He.Defn) (xs : List (PySem.W.Frag → Bool)) (K : PySem.W.Frag) (mg : Str → Option Value) : Prop extends Hw fa fn cs ys cv gt df tf K mg where
  furth : allM xs K = true
theorem Hv.fur {fa : List He.Fa} {fn : List He.DefD} {cs : List (Str × List Str)} {ys : List OwnY} {cv : List ConY} {gt : List GetD} {df : List (PySem.W.Frag → Addr)} {tf : List He.Defn} {xs : List (PySem.W.Frag → Bool)} {K : PySem.W.Frag} {mg : Str → Option Value}
    (T : Hv fa fn cs ys cv gt df tf xs K mg) (i : Nat) {f : PySem.W.Frag → Bool} (h : xs[i]? = some f := by rfl) : f K = true := List.all_eq_true.mp T.furth _ (List.mem_of_getElem? h)
section
variable {g : Gc} {W : WX} {X : Cx} {e o value a b : Expr} {es : List Expr} {fe fo fv fa fb : DE} {fr fk : DA} {f x m : Str} {cs : List Nat} {c c1 c2 k : Nat} {pos pos' p apos : Pos} {ps : List Str} {F : Fn}
end
end SD

set_option Elab.async false
set_option linter.all false
set_option maxRecDepth 100000
set_option maxHeartbeats 4000000
namespace SD
open PySem PySem.Spec PyProof.Rows L2
section
open PySem.HandSPX PySem.W PySem.Calls
variable {P : Program} {w : World} {A : Around} {E : Value → Shared → Prop} {R : Result → Shared → Prop} {h : Heap} {gs : Array GenState} {dr : Drawn} {tk : Nat} {os : OsState} {M : Model}
variable {C : Addr} {kws : List (Str × Value)} {us : List Value}
/-- the class object at C, over the built-in base B; new and ini are the base's own -/
structure XCls (h : Heap) (C : Addr) (B new : String) : Prop where
  ex : ∃ (nm q : Str) (N : Addr) (bs bm tl sub : List Value) (hd ab : Bool) (sn : List Str) (col : Option Bool) (dd : Option Addr) (k0 k1 k2 k3 k5 : Option Value) (ini : String),
    h.get? C = some (excClassObj nm q C N bs bm hd sn sub ab col dd k0 k1 k2 k3 k5 new) ∧ ExcBaseFacts B new ini tl ∧ ∀ Y : String, (Value.ref C :: bm).contains (.type Y) = tl.contains (.type Y)
/-- the class call is let -/
theorem let_call {B new : String} (T : XCls h C B new) {Q : Unit → Shared → Prop} (k : Q () ⟨h, gs, dr, tk, os⟩) : wpAny M A (checkBuiltinCall "type.__call__" ⟨.ref C :: us, kws⟩) Q E ⟨h, gs, dr, tk, os⟩ := by
  obtain ⟨nm, q, N, bs, bm, tl, sub, hd, ab, sn, col, dd, k0, k1, k2, k3, k5, ini, eC, F, z⟩ := T.ex
  have s1 := tc_sub
  have s2 : Shared.TypeIs ⟨h, gs, dr, tk, os⟩ (.ref C) "type" := ⟨_, eC, rfl⟩
  simp only [tc_kind, checkBuiltinCall, tc_split]
  repeat any_goals (first | assumption | with_reducible refine wpAny_map ?_ | with_reducible refine wpAny_loadPart_at eC ?_ | with_reducible refine wpAny_onRaise ?_ | wp_step)
/-- the base's __new__ takes any keywords -/
theorem let_new {B new : String} (T : XCls h C B new) {Q : Unit → Shared → Prop} (k : Q () ⟨h, gs, dr, tk, os⟩) : wpAny M A (checkBuiltinCall new ⟨.ref C :: us, kws⟩) Q E ⟨h, gs, dr, tk, os⟩ := by
  obtain ⟨nm, q, N, bs, bm, tl, sub, hd, ab, sn, col, dd, k0, k1, k2, k3, k5, ini, eC, F, z⟩ := T.ex
  have s1 := F.noStar
  have s2 := (z B).trans F.hasB
  simp only [F.newSplit, F.newRow, F.newKind, checkBuiltinCall]
  repeat (first | (refine wpAny_isSubtype_exc eC ?_; rw [s2]) | refine wpAny_madeBy_exc eC ?_ | refine wpAny_staticBase_exc eC ?_ | refine wpAny_loadPart_at eC ?_ | simp only [Bool.false_eq_true, bne_self_eq_false, if_false] | wp_step)
  exact k
/-- what stands there when the base's __new__ is through -/
def made (h : Heap) (C : Addr) (us : List Value) : Heap := (h.push (W.kdv_tup us)).push (excO C h.objs.size)
theorem made_keeps {b : Addr} {o : Obj} (e : h.get? b = some o) : (made h C us).get? b = some o := Heap.get?_push_of_some _ (Heap.get?_push_of_some _ e)
theorem run_new {B new : String} (T : XCls h C B new) (hz : us.length ≤ sizeLine) (k : R (.ok (.ret (.ref (h.objs.size + 1)))) ⟨made h C us, gs, dr, tk, os⟩) : codeAny (model P w) A (.builtin new ⟨.ref C :: us, kws⟩) R ⟨h, gs, dr, tk, os⟩ := by
  obtain ⟨nm, q, N, bs, bm, tl, sub, hd, ab, sn, col, dd, k0, k1, k2, k3, k5, ini, eC, F, z⟩ := T.ex
  have s1 := F.ends
  have s2 := (z B).trans F.hasB
  have s3 := (z "AttributeError").trans F.noAttr
  have s4 := (z "NameError").trans F.noName
  refine codeAny_builtinAt F.entry ?_
  unfold Builtin.«BaseException.__new__»
  refine PySem.wpAt_bind ?_
  show PySem.wpAt _ _ _ (stack >>= _) _ _ _
  refine PySem.wpAt_bind (PySem.wpAt_stack fun _ _ => PySem.wpAt_of_wpAny ?_)
  wp_walk
  refine PySem.wpAt_of_wpAny ?_
  rw [F.owner]
  repeat (first | (with_reducible refine wpAny_isSubtype_exc eC ?_; first | rw [s2] | rw [s3] | rw [s4]) | with_reducible refine wpAny_madeHere_exc F.canon eC ?_ | with_reducible refine wpAny_loadPart_at eC ?_ | wp_step)
  show R _ _
  rw [Heap.size_push]
  exact k
/-- C(us, **kws), C's own __init__ at fI -/
theorem callX {B new : String} {fI : Addr} (T : XCls h C B new) (li : W.Looks (model P w) h (typeLookup (.ref C) "__init__") (some (.ref fI))) (lb : ∀ self, W.Looks (model P w) h (bindSpecial (.ref fI) self) (.ref fI, [self])) (hz : us.length ≤ sizeLine)
    (k : codeAny (model P w) (A.under (.builtin "type.__call__" ⟨.ref C :: us, kws⟩)) (.call (.ref fI) ⟨.ref (h.objs.size + 1) :: us, kws⟩) (W.InitBack (h.objs.size + 1) R) ⟨made h C us, gs, dr, tk, os⟩) :
    codeAny (model P w) A (.call (.ref C) ⟨us, kws⟩) R ⟨h, gs, dr, tk, os⟩ := by
  obtain ⟨nm, q, N, bs, bm, tl, sub, hd, ab, sn, col, dd, k0, k1, k2, k3, k5, ini, eC, F, z⟩ := T.ex
  have s1 := tc_lookup
  have s2 := tc_bind (.ref C)
  have s3 : Shared.TypeIs ⟨h, gs, dr, tk, os⟩ (.ref C) "type" := ⟨_, eC, rfl⟩
  have eC' := made_keeps (C := C) (us := us) eC
  have li' := li.keeps fun _ _ => made_keeps (C := C) (us := us)
  have lb' := (lb (.ref (h.objs.size + 1))).keeps fun _ _ => made_keeps (C := C) (us := us)
  have own : (Value.ref C :: bm).contains (.ref C) = true := by simp
  have there : (made h C us).get? (h.objs.size + 1) = some (excO C h.objs.size) := by unfold made; heap_get
  refine codeAny_of_tree ?_
  show wpAny _ _ (callAny (.ref C) _) _ _ _
  repeat any_goals (first | assumption | with_reducible refine wpAny_loadPart_at eC ?_ | wp_step)
  refine ⟨rfl, codeAny_call_builtin_at (Code.quiet_builtin _ (by decide +kernel)) entry_typeCall (let_call T ?_)⟩
  repeat (first | with_reducible refine wpAny_madeBy_exc eC ?_ | with_reducible refine wpAny_loadPart_at eC ?_ | wp_step)
  refine codeAny_call_builtin_code (Code.quiet_builtin _ F.quiet) (let_new T (run_new T hz ?_))
  show wpAny _ _ _ _ _ ⟨made h C us, gs, dr, tk, os⟩
  unfold isInstance
  repeat (first | with_reducible refine wpAny_loadPart_at there ?_ | wp_step)
  show wpAny _ _ (isSubtype (.ref C) (.ref C)) _ _ ⟨made h C us, gs, dr, tk, os⟩
  refine wpAny_isSubtype_exc eC' ?_
  rw [own]
  repeat (first | with_reducible refine wpAny_loadPart_at there ?_ | wp_step)
  show wpAny _ _ (typeLookup (.ref C) _) _ _ _
  refine li'.at (wpAny_holding (wpAny_bind (lb'.at (wpAny_bind (wpAny_call (codeAny_mono k fun r s' y => ?_))))))
  match r, y with
  | .error _, y => exact y
  | .ok .next, y => exact y.elim
  | .ok .brk, y => exact y.elim
  | .ok .cont, y => exact y.elim
  | .ok (.ret v), y =>
    obtain ⟨rfl, y⟩ := y
    first
      | exact wpAny_pure (wpAny_pure y)
      | (wp_walk; exact y)
end
end SD

set_option Elab.async false
set_option linter.all false
set_option maxRecDepth 100000
set_option maxHeartbeats 4000000
namespace SD
open PySem PySem.Spec PyProof.Rows L2
theorem OexG.xcls {K : PySem.W.Frag} {C : Addr} {h : Heap} (T : OexG K C) (I : K.In h) : ∃ B nw, XCls h C B nw := by
  obtain ⟨nm, q, N, bs, bm, sn, sub, ab, col, dd, k0, k1, k2, k3, k5, B, nw, ni, tl, hC, hB, ht⟩ := T.cls
  exact ⟨B, nw, ⟨nm, q, N, bs, bm, tl, sub, true, ab, sn, col, dd, k0, k1, k2, k3, k5, ni, I _ _ hC, hB, fun Y => by rw [List.contains_cons, ht.has]; rfl⟩⟩
section
variable {X : Cx} {ps : List Str} {k : Nat}
theorem run_mkX {C fI : Addr} {sp : Sp} {E : L2.St → XK} {pins : List (Addr × Obj)} {σ : L2.St} {H : Hp} {s : Shared} {Q : VK} {us ws : List Value} {vs zs : List V} {n : Nat} {ks : List Str} {fd : FuncData} {gU : List Value → List Value → List Value} {gV : List V → List V → List V}
    (T : OexG X.K C) (iC : PySem.W.findIn X.K (.ref C) "__init__" = some (some (.ref fI))) (tI : PySem.W.typeIn X.K (.ref fI) = some (.type "function"))
    (G : FnOk X.prog X.w X.K X.mg X.base (L2.CX X.prog X.w) k fI fd ps sp) (hr : Room (k + 1) X.A) (hb : KBn X.K fd ps (n + 1) ks gU gV) (hx : PassesAt (L2.CX X.prog X.w) X σ (E σ)) (I : Inv X pins σ H s) (r : Vals vs us) (rz : Vals zs ws) (l1 : vs.length = n) (l2 : zs.length = ks.length) (hz : us.length ≤ sizeLine)
    (h : ∀ a, H a = none → sp (gV (.ref a :: vs) zs) (upd H a (exo a C none)) (fun v H2 => v = .non ∧ Q (.ref a) H2) (E σ)) :
    wpAny (model X.prog X.w) X.A (call (.ref C) us (ks.zip ws)) (EP X pins σ Q) X.xe s := by
  obtain ⟨hp, g, dr, tk, os⟩ := s
  obtain ⟨B, nw, cl⟩ := T.xcls I.kIn
  have le1 : hp.objs.size ≤ hp.objs.size + 1 := Nat.le_succ _
  have hq := h _ (I.hok.fresh le1)
  have hget : (made hp C us).get? (hp.objs.size + 1) = some (PySem.HandSPX.excO C hp.objs.size) := by unfold made; heap_get
  have J : Inv X pins σ (upd H (hp.objs.size + 1) (exo (hp.objs.size + 1) C none)) ⟨made hp C us, g, dr, tk, os⟩ :=
    I.laid (t' := tk) (a := hp.objs.size + 1) (o := exo (hp.objs.size + 1) C none) (h' := made hp C us) (fun _ _ => made_keeps) le1 (exo_ok hget)
  have rs : Vals (V.ref (hp.objs.size + 1) :: vs) (Value.ref (hp.objs.size + 1) :: us) := .cons rfl r
  have eu : (Value.ref (hp.objs.size + 1) :: us).length = n + 1 := by rw [← rs.length, List.length_cons, l1]
  have ew : ws.length = ks.length := by rw [← rz.length, l2]
  refine wpAny_call (callX cl (PySem.W.looks_findIn I.kIn iC) (fun self => PySem.W.bind_fn I.kIn self tI) hz
    (codeAny_mono (G.run _ X.stack _ _ ⟨Value.ref (hp.objs.size + 1) :: us, ks.zip ws⟩ (gU (Value.ref (hp.objs.size + 1) :: us) ws) _ _ (E σ) (hr.make C us (ks.zip ws)) (J.env0.make C us (ks.zip ws)) (hb.to _ _ ws J.kIn eu ew) (hb.rel rs rz) hq) fun r s' z => ?_))
  match r, z with
  | .error e, z => exact hx pins _ _ e s' J z
  | .ok (.ret u), z =>
    obtain ⟨v, H', I3, rv, ev, q3⟩ := J.after z
    subst ev
    exact ⟨rv, ⟨V.ref (hp.objs.size + 1), H', I3, rfl, q3⟩⟩
  | .ok .next, z => exact False.elim z
  | .ok .brk, z => exact False.elim z
  | .ok .cont, z => exact False.elim z
end
def xvR (c : Nat) (ps : List Str) (code : Str) (ds : List DV) (μ : Sto) : R DV := if ds.length = ps.length ∧ ps.length ≤ 900 then .ok (.exv c ("code" :: ps.reverse) (.str code :: ds.reverse)) μ else .stuck
def eMkV (c : Nat) (ps : List Str) (code : Str) (fr : DA) : DE := fun ρ μ => (fr ρ μ).bind fun ds μ1 => xvR c ps code ds μ1
def eMkVK (c : Nat) (ps : List Str) (code : Str) (ix : List Nat) (m : Nat) (fk : DA) : DE := fun ρ μ => (fk ρ μ).bind fun ds μ1 => if ds.length = m then xvR c ps code (permL ix ds) μ1 else .stuck
section
variable {g : Gc} {W : WX} {X : Cx} {e e2 : Expr} {es : List Expr} {fe : DE} {fr fk : DA} {pos p p2 : Pos} {x f : Str} {k c : Nat} {ps : List Str} {code : Str}
theorem permL_len {α : Type} {l : List α} : ∀ {ix : List Nat} {m : Nat}, (ix.all fun i => Nat.blt i m) = true → l.length = m → (permL ix l).length = ix.length
  | [], _, _, _ => rfl
  | i :: ix, m, h, e => by
    rw [List.all_cons, Bool.and_eq_true] at h
    have hi : i < l.length := by rw [e]; exact Nat.blt_eq.mp h.1
    have := permL_len (l := l) h.2 e
    unfold permL at this ⊢
    rw [List.filterMap_cons, List.getElem?_eq_getElem hi]
    simpa using this
/-- what __init__ promises, as the maker wants it -/
theorem xv_read {κ1 : KA} {H1 : Hp} {μ1 : Sto} {ds : List DV} {vs : List V} {Q : VK} {a : Addr} {E : XK} {σ : L2.St} (s1 : StoOk g κ1 H1 μ1) (rv : RelL g κ1 H1 ds vs) (hl : ds.length = ps.length) (na : H1 a = none)
    (hh : wpR g W σ κ1 H1 (.ok (.exv c ("code" :: ps.reverse) (.str code :: ds.reverse)) μ1) (fun d _ κ' H' => ∀ v, Rel g κ' H' d v → Q v H')) :
    spI (g.cls c) ps code (.ref a :: vs) (upd H1 a (exo a (g.cls c) none)) (fun v H2 => v = .non ∧ Q (.ref a) H2) E := by
  have hv : vs.length = ps.length := by rw [← rv.length]; exact hl
  refine ⟨by simp [hv], a, vs, rfl, hv, upd_same, fun dx n ne => ⟨rfl, ?_⟩⟩
  have nd : H1 dx = none := by rwa [upd_ne ne] at n
  have eH : upd (upd (upd H1 a (exo a (g.cls c) none)) dx (exd dx (fsI code ps vs))) a (exo a (g.cls c) (some dx)) = upd (upd H1 dx (exd dx (fsI code ps vs))) a (exo a (g.cls c) (some dx)) := by
    funext b
    by_cases hb : b = a
    · subst hb; rw [upd_same, upd_same]
    · rw [upd_ne hb, upd_ne hb]
      by_cases hd : b = dx
      · subst hd; rw [upd_same, upd_same]
      · rw [upd_ne hd, upd_ne hd, upd_ne hb]
  rw [eH]
  have na' : upd H1 dx (exd dx (fsI code ps vs)) a = none := by rw [upd_ne (Ne.symm ne)]; exact na
  have s2 := s1.new (o := exd dx (fsI code ps vs)) nd
  have e2 : Ext κ1 H1 κ1 (upd (upd H1 dx (exd dx (fsI code ps vs))) a (exo a (g.cls c) (some dx))) := (Ext.new s1 nd).trans (Ext.new s2 na')
  refine hh κ1 _ e2 (s2.new na') _ ?_
  simp only [Rel]
  refine ⟨a, dx, .str code :: vs.reverse, rfl, ⟨upd_same, s1.fresh na⟩, ⟨?_, s1.fresh nd⟩, by simp [hv], RelL.cons (by simp [Rel]) ((RelL.rev rv).ext e2)⟩
  rw [upd_ne ne, upd_same, fsI_zip hv]
theorem ge_mkV (G : XcG X.prog X.w g X.mg X.base k x c ps code) (xg : XG g X) (hr : Room (k + 1) X.A) (hg : Gl X x) (tk : Takes X W) (ha : GA g W X (e :: es) fr)
    (hdb : (x == ("__debug__" : Str)) = false := by decide) (he : starEach (e :: es) X.env = (false, eval e X.env) :: starEach es X.env := by rfl) (hpl : (backTo pos (starEach es X.env)).any (·.1) = false := by rfl) :
    GE g W X (.Call (.Name x p) (e :: es) [] pos) (eMkV c ps code fr) := by
  obtain ⟨fI, fd, h1, T, iC, tI, bn, F, _⟩ := G.ex
  have eK : X.K = g.K := xg.K
  rw [← eK] at T iC tI bn F
  have kb : KBn X.K fd ("self" :: ps) (ps.length + 1) [] (fun us _ => us) (fun vs _ => vs) := ⟨fun s us ws I l1 _ => by
    have := bn s us I (by simpa using l1)
    rw [List.append_nil] at this
    exact this, fun r _ => r⟩
  refine ⟨fun pins s σ H Q I h => ?_⟩
  obtain ⟨κ, ρ, μ, hE, hs, hw⟩ := h
  refine wpAny_Call_Name_kw (ld_glob I hg h1 ?_ hdb)
  refine PySem.W.callWith_K (h₀ := X.base) I.ok.mod.kin T.kC (thn (ha.run pos pins s σ H (fun vs H1 => ∃ κ1 ds μ1, RelL g κ1 H1 ds vs ∧ StoOk g κ1 H1 μ1 ∧ (ds.length = ps.length ∧ ps.length ≤ 900) ∧ wpR g W σ κ1 H1 (.ok (.exv c ("code" :: ps.reverse) (.str code :: ds.reverse)) μ1) (fun d _ κ' H' => ∀ v, Rel g κ' H' d v → Q v H')) I
    ⟨κ, ρ, μ, hE, hs, hw.bind.mono fun ds μ1 κ1 H1 e1 s1 hh vs rv => ?_⟩) fun us s2 ⟨vs, H1, I1, r1, q⟩ => ⟨I1.kIn, ?_⟩) he hpl
  · unfold xvR at hh
    by_cases hl : ds.length = ps.length ∧ ps.length ≤ 900
    · rw [if_pos hl] at hh
      exact ⟨κ1, ds, μ1, rv, s1, hl, hh⟩
    · rw [if_neg hl] at hh; exact hh.elim
  · obtain ⟨κ1, ds, μ1, rv, so, hl, hh⟩ := q
    have hv : vs.length = ps.length := by rw [← rv.length]; exact hl.1
    show wpAny _ _ (call (.ref (g.cls c)) us (List.zip ([] : List Str) ([] : List Value))) _ _ _
    refine run_mkX (n := ps.length) (E := fun σ => WE W σ) (ks := []) (zs := []) T iC tI F hr kb (passAt tk σ) I1 r1 .nil hv rfl (by rw [← Paired.length r1, sizeLine_eq]; omega) fun a na => ?_
    exact xv_read so rv hl.1 na hh
/-- by name (or with nothing at all) -/
theorem ge_mkVK {qual : Str} {st : Stmt} {kws : List Keyword} {ix : List Nat} {ks fs : List Str} (G : XcG X.prog X.w g X.mg X.base k x c ps code) (XF : XcF g.K x fs) (ei : g.cls c = He.ga g.K x) (hF : ∃ fd, FunD g.K "__init__" qual (defArgs st) (defBody st) (defScope st) [] [] (He.ma g.K (He.ga g.K x) "__init__") fd)
    (xg : XG g X) (hr : Room (k + 1) X.A) (hg : Gl X x) (tk : Takes X W) (hk : GK g W X kws fk)
    (hb : ∀ (kV doc pm : Value) (an : Option Addr) (cdv ct : Value) (u : Value) (ws : List Value), ws.length = ks.length → bindArgs (PySem.W.fnOf "__init__" qual (defArgs st) (defBody st) (defScope st) .none kV doc pm an cdv ct) ⟨[u], ks.zip ws⟩ = pure ((("self" : Str) :: ps).zip (u :: permL ix ws)))
    (hix : (ix.all fun i => Nat.blt i ks.length) = true := by rfl) (hil : ix.length = ps.length := by rfl)
    (hall : (backToKw pos (keywordEach kws X.env)).all (·.1.isSome) = true := by rfl) (hks : (backToKw pos (keywordEach kws X.env)).filterMap (·.1) = ks := by rfl) (hdb : (x == ("__debug__" : Str)) = false := by decide)
    (hpl : ((backTo pos (starEach [] X.env)).any (·.1) || (backToKw pos (keywordEach kws X.env)).any (·.1.isNone)) = false := by rfl) :
    GE g W X (.Call (.Name x p) [] kws pos) (eMkVK c ps code ix ks.length fk) := by
  obtain ⟨fI, fd, h1, T, iC, tI, bn, F, oc0, od0, osl0, lk0⟩ := G.ex
  have eK : X.K = g.K := xg.K
  obtain ⟨fd', F'⟩ := hF
  have eI : fI = He.ma g.K (He.ga g.K x) "__init__" := by
    have := iC
    rw [ei, XF.i] at this
    cases this
    rfl
  have kb : KBn X.K fd ("self" :: ps) (0 + 1) ks (fun us ws => us ++ permL ix ws) (fun vs zs => vs ++ permL ix zs) := by
    obtain ⟨oc, od, dV, kV, doc, pm, an, cdv, ct, osl, rfl, lk, hcd, hD, hK⟩ := F'.ex
    rw [eI, lk] at lk0
    cases lk0
    rcases hD with ⟨_, rfl⟩ | ⟨e, _⟩
    · refine ⟨fun s us ws X l1 l2 => ?_, fun r1 r2 => r1.append (permL_vals r2)⟩
      match us, l1 with
      | [u], _ => exact .of_eq (hb kV doc pm an cdv ct u ws l2)
    · exact absurd rfl e
  rw [← eK] at T iC tI F
  refine ⟨fun pins s σ H Q I h => ?_⟩
  obtain ⟨κ, ρ, μ, hE, hs, hw⟩ := h
  refine wpAny_Call_Name_kw (ld_glob I hg h1 ?_ hdb)
  refine PySem.W.callWith_KW0 (h₀ := X.base) I.ok.mod.kin T.kC hall ?_ hpl
  refine thn (hk.run pos pins s σ H (fun zs H1 => ∃ κ1 ds μ1, RelL g κ1 H1 ds zs ∧ StoOk g κ1 H1 μ1 ∧ ds.length = ks.length ∧ wpR g W σ κ1 H1 (xvR c ps code (permL ix ds) μ1) (fun d _ κ' H' => ∀ v, Rel g κ' H' d v → Q v H')) I
    ⟨κ, ρ, μ, hE, hs, hw.bind.mono fun ds μ1 κ1 H1 e1 s1 hh zs rz => ?_⟩) fun ws s2 ⟨zs, H1, I1, rz, κ1, ds, μ1, ry, so, hl, hh⟩ => ⟨I1.kIn, ?_⟩
  · by_cases hl : ds.length = ks.length
    · rw [if_pos hl] at hh
      exact ⟨κ1, ds, μ1, rz, s1, hl, hh⟩
    · rw [if_neg hl] at hh; exact hh.elim
  · rw [hks]
    have hp : (permL ix ds).length = ps.length := (permL_len hix hl).trans hil
    unfold xvR at hh
    by_cases h9 : (permL ix ds).length = ps.length ∧ ps.length ≤ 900
    · rw [if_pos h9] at hh
      refine run_mkX (n := 0) (E := fun σ => WE W σ) (us := []) (vs := []) T iC tI F hr kb (passAt tk σ) I1 .nil rz rfl (by rw [← ry.length]; exact hl) (Nat.zero_le _) fun a na => ?_
      exact xv_read so (permL_rel ry) hp na hh
    · rw [if_neg h9] at hh; exact hh.elim
end
end SD

set_option Elab.async false
set_option linter.all false
set_option maxRecDepth 100000
set_option maxHeartbeats 4000000
namespace SD
open PySem PySem.Spec PyProof.Rows L2
def vXv (cs : List Nat) (n : Str) : V1 := fun d _ => match d with
  | .exv c ns xs => if cs.contains c = true then (ns.zip xs).lookup n else none
  | _ => none
section
variable {g : Gc} {W : WX} {X : Cx} {e e2 : Expr} {fe : DE} {n x : Str} {cs : List Nat} {pos p p2 : Pos}
theorem ge_xv (xg : XG g X) (hT : XfOk g cs n) (he : GE g W X e fe) (hb : attributeBase e n X.env (eval e X.env) = eval e X.env := by rfl) : GE g W X (.Attribute e n pos) (eUn (vXv cs n) fe) := by
  refine ⟨fun pins s σ H Q I h => ?_⟩
  obtain ⟨κ, ρ, μ, hE, hs, hw⟩ := h
  refine attr_of hb (thn (he.run pins s σ H (fun x H1 => ∃ (a d C : Addr) (fs : List (Str × V)) (v : V), x = .ref a ∧ H1 a = some (exo a C (some d)) ∧ H1 d = some (exd d fs) ∧ (XfC X.K C ∧ PySem.W.findIn X.K (.ref C) n = some none) ∧ fs.lookup n = some v ∧ Q v H1) I
    ⟨κ, ρ, μ, hE, hs, (wpR.bind (show wpR g W σ κ H ((fe ρ μ).bind fun x μ1 => R.of (vXv cs n x μ1) μ1) _ from hw)).mono fun x μ1 κ1 H1 e1 s1 h1 v rv => ?_⟩) fun u s1 hh => ?_)
  · have h1 := out_of h1
    cases x with
    | exv c ns xs =>
      simp only [vXv] at h1
      by_cases hc : cs.contains c = true
      · rw [if_pos hc] at h1
        cases hl : (ns.zip xs).lookup n with
        | none => rw [hl] at h1; exact h1.elim
        | some dv =>
          rw [hl] at h1
          simp only [Rel] at rv
          obtain ⟨a, d, vs, e0, ha, hd, _, rl⟩ := rv
          obtain ⟨w, lw, rw'⟩ := lookup_rel rl hl
          exact ⟨a, d, g.cls c, _, w, e0, ha.1, hd.1, by rw [xg.K]; exact hT c (by simpa using hc), lw, h1 κ1 H1 Ext.refl s1 w rw'⟩
      · rw [if_neg hc] at h1; exact h1.elim
    | _ => exact h1.elim
  · obtain ⟨x, H1, I1, rx, a, d, C, fs, v, ex, ha, hd, ⟨T, hno⟩, lv, q⟩ := hh
    subst ex
    obtain rfl : u = Value.ref a := rx
    obtain ⟨t1, ho⟩ := exo_at I1.hok ha
    obtain ⟨mA, hns, hr⟩ := exd_at I1.hok hd
    obtain ⟨od, hod, hl⟩ := lookIn_ns hns
    obtain ⟨u, hu, ru⟩ := RelO.some_of (v := v) (o := mA n) (by rw [← lv]; exact hr n)
    have J : PySem.W.InstAt s1.heap a _ C (some od) := ⟨ho, rfl, rfl, hod⟩
    exact HandSPX.exc_get I1.kIn J T.ga T.gg T.exC (PySem.W.findObj_own T.hdC hno rfl (by rw [hl, hu])) (handed_of ru) ⟨v, H1, I1.tok _, ru, q⟩
end
section
open PySem.W PySem.Calls
variable {P : Program} {w : World} {A : Around} {E : Value → Shared → Prop} {K : Frag} {x D : Addr} {ox : Obj} {od : Option Obj}
theorem find_class (C : ExcC K D) : findObj K D od "__class__" = some (.bind (.builtin "getset_descriptor.__get__") (.builtin "object.__class__")) := by
  obtain ⟨cd, hc, _⟩ := any_some C.hd
  unfold findObj
  rw [show clsIn K D = some cd from hc, Option.bind_some, C.ha, Option.bind_some]
  simp [C.hn, C.ht]
theorem ask_class {Q : Option Value → Shared → Prop} {s : Shared} (C : ExcC K D) (Y : K.In s.heap) (I : InstAt s.heap x ox D od) (k : Q (some (.ref D)) { s with toks := s.toks + 1 }) : wpAny (model P w) A (getAttr? (.ref x) "__class__") Q E s := by
  obtain ⟨hp, gs, dr, tk, os⟩ := s
  have t1 := I.type (M := model P w)
  have t2 := looks_find (M := model P w) Y I (find_class C)
  have own : (Value.builtin "BaseException.__getattribute__" == Value.builtin "object.__getattribute__") = false := by decide +kernel
  have own' : (onTheHeap (Value.ref D) && Value.builtin "BaseException.__getattribute__" == Value.builtin "object.__getattribute__") = false := by rw [own]; rfl
  have sub : Looks (model P w) hp (isInstance (.ref x) (.type "BaseException")) true := t1.andThen (looks_subIn Y C.hs)
  unfold getAttr? getAttrBy? getAttrBy
  refine wpAny_bind (wpAny_mkText (wpAny_bind (wpAny_attempt (wpAny_holding (wpAny_bind (t1.at (wpAny_bind ((looks_findIn Y C.hg).at ?_))))))))
  show wpAny _ _ (if (onTheHeap (Value.ref D) && Value.builtin "BaseException.__getattribute__" == Value.builtin "object.__getattribute__") = true then _ else _) _ _ _
  rw [own', if_neg Bool.false_ne_true]
  unfold getAttrByItsOwn hookBefore
  refine wpAny_bind ?_
  rw [if_pos (show onTheHeap (Value.ref D) = true from rfl)]
  refine (looks_findIn Y C.hk).at (wpAny_bind (wpAny_attempt (wpAny_holding ?_)))
  unfold callGetattribute boundAndCalled
  rw [show (false && onTheHeap (Value.builtin "BaseException.__getattribute__")) = false from rfl, if_neg Bool.false_ne_true, PySem.F.excAttr_ValueError.ga.bind (.ref x)]
  refine wpAny_bind (wpAny_pure ?_)
  show wpAny _ _ (call (.builtin "BaseException.__getattribute__") [.ref x, .str "__class__" tk]) _ _ _
  refine wpAny_call (codeAny_call_builtin PySem.F.excAttr_ValueError.ga.plain PySem.F.entry_bexc_ga (@check_slot (model P w) _ _ ⟨hp, gs, dr, tk + 1, os⟩ "BaseException.__getattribute__" "BaseException" "__getattribute__" (.ref x) [.str "__class__" tk] [] _ (by decide +kernel) (by decide +kernel) sub (PySem.F.args_bexc_ga (.ref x) (.str "__class__" tk)) ?_))
  unfold Builtin.«object.__getattribute__»
  refine wpAny_bind (wpAny_of_eq (a := ((Value.ref x : Value), [Value.str "__class__" tk])) (by first | rfl | (simp only [slotArgs]; rfl)) (wpAny_bind (wpAny_pure (wpAny_bind (t1.at (wpAny_bind (t2.at ?_)))))))
  show wpAny _ _ (holding [Value.builtin "object.__class__"] (call (.builtin "getset_descriptor.__get__") [.builtin "object.__class__", .ref x, .ref D]) >>= ret) _ _ _
  refine wpAny_bind (wpAny_holding (wpAny_call (class_get (s := ⟨hp, gs, dr, tk + 1, os⟩) (ox := ox) (od := od) Y I C.hm (wpAny_pure ?_))))
  show wpAny _ _ (handedOut (.ref D)) _ _ _
  rw [handedOut_of (v := .ref D) rfl]
  first
    | exact wpAny_pure (wpAny_pure k)
    | exact wpAny_pure k
    | exact wpAny_pure (wpAny_bind (wpAny_pure (wpAny_pure k)))
theorem cls_there (C : ExcC K D) : ∃ c d cd sl, K.lookup D = some ⟨c, d, .cls cd, sl⟩ := by
  obtain ⟨cd, hc, _⟩ := any_some C.hd
  have hc : clsIn K D = some cd := hc
  unfold clsIn at hc
  split at hc
  · rename_i c d cd' sl ho
    exact ⟨c, d, cd', sl, ho⟩
  · cases hc
theorem kit_exc (C : ExcC K D) : KitX K (.ref x) (.ref D) (fun h => ∃ ox od, InstAt h x ox D od) where
  ty := fun _ _ _ ⟨_, _, I⟩ => I.type
  it := fun _ _ Y _ => by
    obtain ⟨c, d, cd, sl, ho⟩ := cls_there C
    intro A' Q' E' s' k q
    unfold isType loadHead
    exact wpAny_bind (wpAny_loadPart (k _ _ (Y _ _ ho)) (wpAny_pure q))
  ne := fun h tp dd its n sl Y htp => Bool.eq_false_iff.mpr fun q => by
    obtain ⟨c, d, cd, sl', ho⟩ := cls_there C
    have e : D = tp := Value.ref.inj (beq_iff_eq.mp q)
    subst e
    cases (Y _ _ ho).symm.trans htp
  ca := fun Y ⟨_, _, I⟩ k => ask_class C Y I k
end
/-- bs: the answer for each class of exceptions -/
def vIsX (bs : List Bool) : V1 := fun d _ => match d with
  | .exv c _ _ => (bs[c]?).map .bl
  | _ => none
def IsX (g : Gc) (bs : List Bool) (cv : Value) : Prop := ∀ c b, bs[c]? = some b → ExcC g.K (g.cls c) ∧ PySem.W.kitOne g.K (.ref (g.cls c)) cv = some b
section
variable {g : Gc} {W : WX} {X : Cx} {e e2 : Expr} {fe : DE} {bs : List Bool} {pos p p2 : Pos} {c : V} {cv : Value}
theorem ge_isX (xg : XG g X) (ok : IsX g bs cv) (hg : Gl X "isinstance") (hm : X.mg "isinstance" = none) (he : GE g W X e fe) (h2 : PE X e2 (tC c)) (hcv : ∀ u, RelV c u → u = cv)
    (s1 : starEach [e, e2] X.env = (false, eval e X.env) :: starEach [e2] X.env := by rfl) (s2 : starEach [e2] X.env = (false, eval e2 X.env) :: starEach [] X.env := by rfl) (hpl : (backTo pos (starEach [e2] X.env)).any (·.1) = false := by rfl) :
    GE g W X (.Call (.Name "isinstance" p) [e, e2] [] pos) (eUn (vIsX bs) fe) := by
  have hc : CallR X (.builtin "isinstance") (fun xs H Q => ∃ (a C : Addr) (d : Option Addr) (b : Bool), xs = [.ref a, c] ∧ H a = some (exo a C d) ∧ (∀ d', d = some d' → ∃ fs, H d' = some (exd d' fs)) ∧ ExcC X.K C ∧ PySem.W.kitOne X.K (.ref C) cv = some b ∧ Q (.bl b) H) := by
    intro pins s σ H xs us Q I r h
    obtain ⟨a, C, d, b, rfl, ha, hd, T, hk, q⟩ := h
    cases r with
    | cons rx rr =>
      cases rr with
      | cons rt rr =>
        cases rr
        cases rx
        cases hcv _ rt
        obtain ⟨t1, ho⟩ := exo_at I.hok ha
        have J : ∃ ox od, PySem.W.InstAt s.heap a ox C od := by
          cases d with
          | none => exact ⟨_, none, ho, rfl, rfl, trivial⟩
          | some d' =>
            obtain ⟨fs, hd'⟩ := hd d' rfl
            obtain ⟨mA, hns, _⟩ := exd_at I.hok hd'
            obtain ⟨od, hod, _⟩ := lookIn_ns hns
            exact ⟨_, some od, ho, rfl, rfl, hod⟩
        exact PySem.W.kia_one (kit_exc T) I.kIn J hk (fun z => nomatch z) fun tk => ⟨.bl b, H, I.kept (t' := tk) fun _ _ z => z, rfl, q⟩
  refine PE.imp (pe_callB (e := e) (es := [e2]) hc hg hm (by decide +kernel) (pa_cons he (pa_cons h2 pa_nil s2) s1) (by decide) (by decide) s1 hpl) fun σ H Q q => ?_
  obtain ⟨κ, ρ, μ, hE, hs, hw⟩ := q
  refine ⟨κ, ρ, μ, hE, hs, (wpR.bind (show wpR g W σ κ H ((fe ρ μ).bind fun x μ1 => R.of (vIsX bs x μ1) μ1) _ from hw)).mono fun x μ1 κ1 H1 e1 s1 h1 v rv => ?_⟩
  have h1 := out_of h1
  cases x with
  | exv k ns xs =>
    simp only [vIsX] at h1
    cases hl : bs[k]? with
    | none => rw [hl] at h1; exact h1.elim
    | some b =>
      rw [hl] at h1
      simp only [Rel] at rv
      obtain ⟨a, d, vs, rfl, ha, hd, _, rl⟩ := rv
      obtain ⟨T, hk⟩ := ok k b hl
      exact ⟨a, g.cls k, some d, b, rfl, ha.1, fun d' z => by cases z; exact ⟨_, hd.1⟩, by rw [xg.K]; exact T, by rw [xg.K]; exact hk, h1 κ1 H1 Ext.refl s1 _ (by simp [Rel])⟩
  | _ => exact h1.elim
end
def excB (K : PySem.W.Frag) (D : Addr) : Bool := decide (PySem.W.findIn K (.ref D) "__getattribute__" = some (some (.builtin "BaseException.__getattribute__"))) && (decide (PySem.W.findIn K (.ref D) "__getattr__" = some none) && (decide (PySem.W.subIn K (.ref D) (.type "BaseException") = some true) && (PySem.W.hasDictIn K D && (decide (PySem.W.findIn K (.ref D) "__class__" = some (some (.builtin "object.__class__"))) &&
  (decide (PySem.W.specialIn K (.builtin "object.__class__") "__get__" = some (some (.builtin "getset_descriptor.__get__"))) && (decide (PySem.W.takesIn K (.builtin "object.__class__") = some true) && decide (PySem.W.mroIn K D (.type "object") = some true)))))))
theorem excB_ok {K : PySem.W.Frag} {D : Addr} (h : excB K D = true) : ExcC K D := by
  obtain ⟨h1, h⟩ := He.ba h
  obtain ⟨h2, h⟩ := He.ba h
  obtain ⟨h3, h⟩ := He.ba h
  obtain ⟨h4, h⟩ := He.ba h
  obtain ⟨h5, h⟩ := He.ba h
  obtain ⟨h6, h⟩ := He.ba h
  obtain ⟨h7, h8⟩ := He.ba h
  exact ⟨of_decide_eq_true h1, of_decide_eq_true h2, of_decide_eq_true h3, h4, of_decide_eq_true h5, of_decide_eq_true h6, of_decide_eq_true h7, of_decide_eq_true h8⟩
/-- all of them are such classes -/
def excsB (xs : List Str) (K : PySem.W.Frag) : Bool := xs.all fun x => excB K (He.ga K x)
def isxL (xs : List Str) (bs : List Bool) (cv : Value) (K : PySem.W.Frag) : Bool := match xs, bs with
  | x :: xs, b :: bs => decide (PySem.W.kitOne K (.ref (He.ga K x)) cv = some b) && isxL xs bs cv K
  | _, [] => true
  | [], _ :: _ => false
def isxC (xs : List Str) (bs : List Bool) (y : Str) (K : PySem.W.Frag) : Bool := isxL xs bs (.ref (He.ga K y)) K
def isxT (xs : List Str) (bs : List Bool) (y : String) (K : PySem.W.Frag) : Bool := isxL xs bs (.type y) K
theorem isxL_ok {K : PySem.W.Frag} {cv : Value} : ∀ {xs : List Str} {bs : List Bool}, isxL xs bs cv K = true → ∀ (c : Nat) (b : Bool), bs[c]? = some b → ∃ x, xs[c]? = some x ∧ PySem.W.kitOne K (.ref (He.ga K x)) cv = some b
  | x :: xs, b :: bs, h, 0, b', e => by
    obtain ⟨h1, _⟩ := He.ba h
    cases e
    exact ⟨x, rfl, of_decide_eq_true h1⟩
  | x :: xs, b :: bs, h, c + 1, b', e => by
    obtain ⟨_, h2⟩ := He.ba h
    exact isxL_ok h2 c b' (by simpa using e)
  | [], [], _, c, b, e => by simp at e
  | x :: xs, [], _, c, b, e => by simp at e
  | [], _ :: _, h, _, _, _ => by cases h
theorem isX_of {g : Gc} {K : PySem.W.Frag} (hK : g.K = K) {xs : List Str} {bs : List Bool} {cv : Value} (h0 : excsB xs K = true) (h1 : isxL xs bs cv K = true) (hc : (List.range xs.length).map g.cls = xs.map (He.ga K)) : IsX g bs cv := by
  intro c b e
  obtain ⟨x, hx, hk⟩ := isxL_ok h1 c b e
  have ec : g.cls c = He.ga K x := by
    have h2 := congrArg (fun l : List Addr => l[c]?) hc
    have hl := (List.getElem?_eq_some_iff.mp hx).1
    simp only [List.getElem?_map, hx, List.getElem?_range hl, Option.map_some, Option.some.injEq] at h2
    exact h2
  rw [hK, ec]
  exact ⟨excB_ok (List.all_eq_true.mp h0 x (List.mem_of_getElem? hx)), hk⟩
end SD

set_option Elab.async false
set_option linter.all false
set_option maxRecDepth 100000
set_option maxHeartbeats 4000000
namespace Lw
open PySem PySem.Spec PyProof.Rows L2 SD
def top (i : Nat) : Stmt := PySem.Challenge.pw_stucklots_k00_errors_by_themselves.main.body.getD i (.Pass ⟨0, 0, 0, 0⟩)
abbrev s_InvalidName : Stmt := (C8.clsBody (top 3)).getD 0 (.Pass ⟨0, 0, 0, 0⟩)
abbrev s_InvalidNumber : Stmt := (C8.clsBody (top 4)).getD 0 (.Pass ⟨0, 0, 0, 0⟩)
abbrev s_InvalidDirection : Stmt := (C8.clsBody (top 5)).getD 0 (.Pass ⟨0, 0, 0, 0⟩)
abbrev s_InvalidPart : Stmt := (C8.clsBody (top 6)).getD 0 (.Pass ⟨0, 0, 0, 0⟩)
abbrev s_PartsOverlap : Stmt := (C8.clsBody (top 7)).getD 0 (.Pass ⟨0, 0, 0, 0⟩)
abbrev s_Loose : Stmt := (C8.clsBody (top 8)).getD 0 (.Pass ⟨0, 0, 0, 0⟩)
abbrev s_InvalidWay : Stmt := (C8.clsBody (top 9)).getD 0 (.Pass ⟨0, 0, 0, 0⟩)
abbrev s_InvalidPiece : Stmt := (C8.clsBody (top 10)).getD 0 (.Pass ⟨0, 0, 0, 0⟩)
abbrev s_InvalidPeg : Stmt := (C8.clsBody (top 11)).getD 0 (.Pass ⟨0, 0, 0, 0⟩)
abbrev s_PiecesOverlap : Stmt := (C8.clsBody (top 12)).getD 0 (.Pass ⟨0, 0, 0, 0⟩)
abbrev s_DuplicateName : Stmt := (C8.clsBody (top 13)).getD 0 (.Pass ⟨0, 0, 0, 0⟩)
abbrev s_TooMany : Stmt := (C8.clsBody (top 14)).getD 0 (.Pass ⟨0, 0, 0, 0⟩)
abbrev s_OutOfBounds : Stmt := (C8.clsBody (top 15)).getD 0 (.Pass ⟨0, 0, 0, 0⟩)
abbrev s_InvalidText : Stmt := (C8.clsBody (top 16)).getD 0 (.Pass ⟨0, 0, 0, 0⟩)
abbrev s_InvalidLot : Stmt := (C8.clsBody (top 17)).getD 0 (.Pass ⟨0, 0, 0, 0⟩)
abbrev s_OtherThing : Stmt := (C8.clsBody (top 18)).getD 0 (.Pass ⟨0, 0, 0, 0⟩)
abbrev s_InvalidStep : Stmt := (C8.clsBody (top 19)).getD 0 (.Pass ⟨0, 0, 0, 0⟩)
abbrev s_NoParting : Stmt := (C8.clsBody (top 20)).getD 0 (.Pass ⟨0, 0, 0, 0⟩)
abbrev s_NoJoining : Stmt := (C8.clsBody (top 21)).getD 0 (.Pass ⟨0, 0, 0, 0⟩)
abbrev s_Barred : Stmt := (C8.clsBody (top 22)).getD 0 (.Pass ⟨0, 0, 0, 0⟩)
abbrev s_Pegged : Stmt := (C8.clsBody (top 23)).getD 0 (.Pass ⟨0, 0, 0, 0⟩)
abbrev s_NotFast : Stmt := (C8.clsBody (top 24)).getD 0 (.Pass ⟨0, 0, 0, 0⟩)
abbrev s_Held : Stmt := (C8.clsBody (top 25)).getD 0 (.Pass ⟨0, 0, 0, 0⟩)
abbrev s_NotStuck : Stmt := (C8.clsBody (top 26)).getD 0 (.Pass ⟨0, 0, 0, 0⟩)
abbrev s_InvalidRow : Stmt := (C8.clsBody (top 27)).getD 0 (.Pass ⟨0, 0, 0, 0⟩)
abbrev s_NeverLeaves : Stmt := (C8.clsBody (top 28)).getD 0 (.Pass ⟨0, 0, 0, 0⟩)
abbrev s_Refused : Stmt := (C8.clsBody (top 29)).getD 0 (.Pass ⟨0, 0, 0, 0⟩)
abbrev s_InvalidPrices : Stmt := (C8.clsBody (top 30)).getD 0 (.Pass ⟨0, 0, 0, 0⟩)
abbrev s_InvalidDeed : Stmt := (C8.clsBody (top 31)).getD 0 (.Pass ⟨0, 0, 0, 0⟩)
abbrev s_UnknownName : Stmt := (C8.clsBody (top 32)).getD 0 (.Pass ⟨0, 0, 0, 0⟩)
abbrev s_NothingLeft : Stmt := (C8.clsBody (top 33)).getD 0 (.Pass ⟨0, 0, 0, 0⟩)
abbrev s__law_box : Stmt := top 35
abbrev s__law_take : Stmt := top 36
abbrev s__law_pick : Stmt := top 37
abbrev s__law_same : Stmt := top 38
abbrev s__law_letters : Stmt := top 39
abbrev s__law_word : Stmt := top 40
abbrev s__law_odd : Stmt := top 41
abbrev s__law_fields : Stmt := top 42
abbrev s__law_codes : Stmt := top 43
abbrev s__law_by_place : Stmt := top 44
abbrev s__law_by_name : Stmt := top 45
abbrev s__law_kinds : Stmt := top 46
abbrev s__law_bases : Stmt := top 47
abbrev s__law_due : Stmt := top 48
abbrev s__law_all_so : Stmt := top 49
abbrev s_law : Stmt := top 50
def fa : List He.Fa := [.glo "InvalidName", .glo "InvalidNumber", .glo "InvalidDirection", .glo "InvalidPart", .glo "PartsOverlap", .glo "Loose", .glo "InvalidWay", .glo "InvalidPiece", .glo "InvalidPeg", .glo "PiecesOverlap", .glo "DuplicateName", .glo "TooMany", .glo "OutOfBounds", .glo "InvalidText", .glo "InvalidLot", .glo "OtherThing", .glo "InvalidStep", .glo "NoParting", .glo "NoJoining", .glo "Barred", .glo "Pegged", .glo "NotFast", .glo "Held", .glo "NotStuck", .glo "InvalidRow", .glo "NeverLeaves", .glo "Refused", .glo "InvalidPrices", .glo "InvalidDeed", .glo "UnknownName", .glo "NothingLeft", .free "int", .glo "_law_box", .free "len", .free "abs", .glo "_law_take", .glo "_law_pick", .free "list", .free "tuple", .free "isinstance", .free "range", .free "all", .free "bool", .free "str", .free "dict", .glo "_law_same", .glo "_law_letters", .glo "_law_word", .glo "_law_odd", .glo "_law_fields", .glo "_law_codes", .glo "_law_by_place", .glo "_law_by_name", .glo "_law_kinds", .glo "LotError", .free "ValueError", .glo "Missing", .free "LookupError", .free "IndexError", .free "KeyError", .glo "_law_bases", .glo "_law_due", .glo "_law_all_so", .glo "law"]
def d_InvalidName : He.DefD := ⟨("InvalidName", some "__init__"), "__init__", "InvalidName.__init__", defArgs s_InvalidName, defBody s_InvalidName, defScope s_InvalidName, [], []⟩
def d_InvalidNumber : He.DefD := ⟨("InvalidNumber", some "__init__"), "__init__", "InvalidNumber.__init__", defArgs s_InvalidNumber, defBody s_InvalidNumber, defScope s_InvalidNumber, [], []⟩
def d_InvalidDirection : He.DefD := ⟨("InvalidDirection", some "__init__"), "__init__", "InvalidDirection.__init__", defArgs s_InvalidDirection, defBody s_InvalidDirection, defScope s_InvalidDirection, [], []⟩
def d_InvalidPart : He.DefD := ⟨("InvalidPart", some "__init__"), "__init__", "InvalidPart.__init__", defArgs s_InvalidPart, defBody s_InvalidPart, defScope s_InvalidPart, [], []⟩
def d_PartsOverlap : He.DefD := ⟨("PartsOverlap", some "__init__"), "__init__", "PartsOverlap.__init__", defArgs s_PartsOverlap, defBody s_PartsOverlap, defScope s_PartsOverlap, [], []⟩
def d_Loose : He.DefD := ⟨("Loose", some "__init__"), "__init__", "Loose.__init__", defArgs s_Loose, defBody s_Loose, defScope s_Loose, [], []⟩
def d_InvalidWay : He.DefD := ⟨("InvalidWay", some "__init__"), "__init__", "InvalidWay.__init__", defArgs s_InvalidWay, defBody s_InvalidWay, defScope s_InvalidWay, [], []⟩
def d_InvalidPiece : He.DefD := ⟨("InvalidPiece", some "__init__"), "__init__", "InvalidPiece.__init__", defArgs s_InvalidPiece, defBody s_InvalidPiece, defScope s_InvalidPiece, [], []⟩
def d_InvalidPeg : He.DefD := ⟨("InvalidPeg", some "__init__"), "__init__", "InvalidPeg.__init__", defArgs s_InvalidPeg, defBody s_InvalidPeg, defScope s_InvalidPeg, [], []⟩
def d_PiecesOverlap : He.DefD := ⟨("PiecesOverlap", some "__init__"), "__init__", "PiecesOverlap.__init__", defArgs s_PiecesOverlap, defBody s_PiecesOverlap, defScope s_PiecesOverlap, [], []⟩
def d_DuplicateName : He.DefD := ⟨("DuplicateName", some "__init__"), "__init__", "DuplicateName.__init__", defArgs s_DuplicateName, defBody s_DuplicateName, defScope s_DuplicateName, [], []⟩
def d_TooMany : He.DefD := ⟨("TooMany", some "__init__"), "__init__", "TooMany.__init__", defArgs s_TooMany, defBody s_TooMany, defScope s_TooMany, [], []⟩
def d_OutOfBounds : He.DefD := ⟨("OutOfBounds", some "__init__"), "__init__", "OutOfBounds.__init__", defArgs s_OutOfBounds, defBody s_OutOfBounds, defScope s_OutOfBounds, [], []⟩
def d_InvalidText : He.DefD := ⟨("InvalidText", some "__init__"), "__init__", "InvalidText.__init__", defArgs s_InvalidText, defBody s_InvalidText, defScope s_InvalidText, [], []⟩
def d_InvalidLot : He.DefD := ⟨("InvalidLot", some "__init__"), "__init__", "InvalidLot.__init__", defArgs s_InvalidLot, defBody s_InvalidLot, defScope s_InvalidLot, [], []⟩
def d_OtherThing : He.DefD := ⟨("OtherThing", some "__init__"), "__init__", "OtherThing.__init__", defArgs s_OtherThing, defBody s_OtherThing, defScope s_OtherThing, [], []⟩
def d_InvalidStep : He.DefD := ⟨("InvalidStep", some "__init__"), "__init__", "InvalidStep.__init__", defArgs s_InvalidStep, defBody s_InvalidStep, defScope s_InvalidStep, [], []⟩
def d_NoParting : He.DefD := ⟨("NoParting", some "__init__"), "__init__", "NoParting.__init__", defArgs s_NoParting, defBody s_NoParting, defScope s_NoParting, [], []⟩
def d_NoJoining : He.DefD := ⟨("NoJoining", some "__init__"), "__init__", "NoJoining.__init__", defArgs s_NoJoining, defBody s_NoJoining, defScope s_NoJoining, [], []⟩
def d_Barred : He.DefD := ⟨("Barred", some "__init__"), "__init__", "Barred.__init__", defArgs s_Barred, defBody s_Barred, defScope s_Barred, [], []⟩
def d_Pegged : He.DefD := ⟨("Pegged", some "__init__"), "__init__", "Pegged.__init__", defArgs s_Pegged, defBody s_Pegged, defScope s_Pegged, [], []⟩
def d_NotFast : He.DefD := ⟨("NotFast", some "__init__"), "__init__", "NotFast.__init__", defArgs s_NotFast, defBody s_NotFast, defScope s_NotFast, [], []⟩
def d_Held : He.DefD := ⟨("Held", some "__init__"), "__init__", "Held.__init__", defArgs s_Held, defBody s_Held, defScope s_Held, [], []⟩
def d_NotStuck : He.DefD := ⟨("NotStuck", some "__init__"), "__init__", "NotStuck.__init__", defArgs s_NotStuck, defBody s_NotStuck, defScope s_NotStuck, [], []⟩
def d_InvalidRow : He.DefD := ⟨("InvalidRow", some "__init__"), "__init__", "InvalidRow.__init__", defArgs s_InvalidRow, defBody s_InvalidRow, defScope s_InvalidRow, [], []⟩
def d_NeverLeaves : He.DefD := ⟨("NeverLeaves", some "__init__"), "__init__", "NeverLeaves.__init__", defArgs s_NeverLeaves, defBody s_NeverLeaves, defScope s_NeverLeaves, [], []⟩
def d_Refused : He.DefD := ⟨("Refused", some "__init__"), "__init__", "Refused.__init__", defArgs s_Refused, defBody s_Refused, defScope s_Refused, [], []⟩
def d_InvalidPrices : He.DefD := ⟨("InvalidPrices", some "__init__"), "__init__", "InvalidPrices.__init__", defArgs s_InvalidPrices, defBody s_InvalidPrices, defScope s_InvalidPrices, [], []⟩
def d_InvalidDeed : He.DefD := ⟨("InvalidDeed", some "__init__"), "__init__", "InvalidDeed.__init__", defArgs s_InvalidDeed, defBody s_InvalidDeed, defScope s_InvalidDeed, [], []⟩
def d_UnknownName : He.DefD := ⟨("UnknownName", some "__init__"), "__init__", "UnknownName.__init__", defArgs s_UnknownName, defBody s_UnknownName, defScope s_UnknownName, [], []⟩
def d_NothingLeft : He.DefD := ⟨("NothingLeft", some "__init__"), "__init__", "NothingLeft.__init__", defArgs s_NothingLeft, defBody s_NothingLeft, defScope s_NothingLeft, [], []⟩
def d__law_box : He.DefD := ⟨("_law_box", none), "_law_box", "_law_box", defArgs s__law_box, defBody s__law_box, defScope s__law_box, [], []⟩
def d__law_take : He.DefD := ⟨("_law_take", none), "_law_take", "_law_take", defArgs s__law_take, defBody s__law_take, defScope s__law_take, [], []⟩
def d__law_pick : He.DefD := ⟨("_law_pick", none), "_law_pick", "_law_pick", defArgs s__law_pick, defBody s__law_pick, defScope s__law_pick, [], []⟩
def d__law_same : He.DefD := ⟨("_law_same", none), "_law_same", "_law_same", defArgs s__law_same, defBody s__law_same, defScope s__law_same, [], []⟩
def d__law_letters : He.DefD := ⟨("_law_letters", none), "_law_letters", "_law_letters", defArgs s__law_letters, defBody s__law_letters, defScope s__law_letters, [], []⟩
def d__law_word : He.DefD := ⟨("_law_word", none), "_law_word", "_law_word", defArgs s__law_word, defBody s__law_word, defScope s__law_word, [], []⟩
def d__law_odd : He.DefD := ⟨("_law_odd", none), "_law_odd", "_law_odd", defArgs s__law_odd, defBody s__law_odd, defScope s__law_odd, [], []⟩
def d__law_fields : He.DefD := ⟨("_law_fields", none), "_law_fields", "_law_fields", defArgs s__law_fields, defBody s__law_fields, defScope s__law_fields, [], []⟩
def d__law_codes : He.DefD := ⟨("_law_codes", none), "_law_codes", "_law_codes", defArgs s__law_codes, defBody s__law_codes, defScope s__law_codes, [], []⟩
def d__law_by_place : He.DefD := ⟨("_law_by_place", none), "_law_by_place", "_law_by_place", defArgs s__law_by_place, defBody s__law_by_place, defScope s__law_by_place, [], []⟩
def d__law_by_name : He.DefD := ⟨("_law_by_name", none), "_law_by_name", "_law_by_name", defArgs s__law_by_name, defBody s__law_by_name, defScope s__law_by_name, [], []⟩
def d__law_kinds : He.DefD := ⟨("_law_kinds", none), "_law_kinds", "_law_kinds", defArgs s__law_kinds, defBody s__law_kinds, defScope s__law_kinds, [], []⟩
def d__law_bases : He.DefD := ⟨("_law_bases", none), "_law_bases", "_law_bases", defArgs s__law_bases, defBody s__law_bases, defScope s__law_bases, [], []⟩
def d__law_due : He.DefD := ⟨("_law_due", none), "_law_due", "_law_due", defArgs s__law_due, defBody s__law_due, defScope s__law_due, [], []⟩
def d__law_all_so : He.DefD := ⟨("_law_all_so", none), "_law_all_so", "_law_all_so", defArgs s__law_all_so, defBody s__law_all_so, defScope s__law_all_so, [], []⟩
def d_law : He.DefD := ⟨("law", none), "law", "law", defArgs s_law, defBody s_law, defScope s_law, [], []⟩
def fn : List He.DefD := [d_InvalidName, d_InvalidNumber, d_InvalidDirection, d_InvalidPart, d_PartsOverlap, d_Loose, d_InvalidWay, d_InvalidPiece, d_InvalidPeg, d_PiecesOverlap, d_DuplicateName, d_TooMany, d_OutOfBounds, d_InvalidText, d_InvalidLot, d_OtherThing, d_InvalidStep, d_NoParting, d_NoJoining, d_Barred, d_Pegged, d_NotFast, d_Held, d_NotStuck, d_InvalidRow, d_NeverLeaves, d_Refused, d_InvalidPrices, d_InvalidDeed, d_UnknownName, d_NothingLeft, d__law_box, d__law_take, d__law_pick, d__law_same, d__law_letters, d__law_word, d__law_odd, d__law_fields, d__law_codes, d__law_by_place, d__law_by_name, d__law_kinds, d__law_bases, d__law_due, d__law_all_so, d_law]
def csX : List (Str × List Str) := [("InvalidName", ["#", "at", "code", "line", "most", "name", "one", "other", "peg", "step", "value", "why"]), ("InvalidNumber", ["#", "at", "code", "line", "most", "name", "one", "other", "peg", "step", "value", "why"]), ("InvalidDirection", ["#", "at", "code", "line", "most", "name", "one", "other", "peg", "step", "value", "why"]), ("InvalidPart", ["#", "at", "code", "line", "most", "name", "one", "other", "peg", "step", "value", "why"]), ("PartsOverlap", ["#", "at", "code", "line", "most", "name", "one", "other", "peg", "step", "value", "why"]), ("Loose", ["#", "at", "code", "line", "most", "name", "one", "other", "peg", "step", "value", "why"]), ("InvalidWay", ["#", "at", "code", "line", "most", "name", "one", "other", "peg", "step", "value", "why"]), ("InvalidPiece", ["#", "at", "code", "line", "most", "name", "one", "other", "peg", "step", "value", "why"]), ("InvalidPeg", ["#", "at", "code", "line", "most", "name", "one", "other", "peg", "step", "value", "why"]), ("PiecesOverlap", ["#", "at", "code", "line", "most", "name", "one", "other", "peg", "step", "value", "why"]), ("DuplicateName", ["#", "at", "code", "line", "most", "name", "one", "other", "peg", "step", "value", "why"]), ("TooMany", ["#", "at", "code", "line", "most", "name", "one", "other", "peg", "step", "value", "why"]), ("OutOfBounds", ["#", "at", "code", "line", "most", "name", "one", "other", "peg", "step", "value", "why"]), ("InvalidText", ["#", "at", "code", "line", "most", "name", "one", "other", "peg", "step", "value", "why"]), ("InvalidLot", ["#", "at", "code", "line", "most", "name", "one", "other", "peg", "step", "value", "why"]), ("OtherThing", ["#", "at", "code", "line", "most", "name", "one", "other", "peg", "step", "value", "why"]), ("InvalidStep", ["#", "at", "code", "line", "most", "name", "one", "other", "peg", "step", "value", "why"]), ("NoParting", ["#", "at", "code", "line", "most", "name", "one", "other", "peg", "step", "value", "why"]), ("NoJoining", ["#", "at", "code", "line", "most", "name", "one", "other", "peg", "step", "value", "why"]), ("Barred", ["#", "at", "code", "line", "most", "name", "one", "other", "peg", "step", "value", "why"]), ("Pegged", ["#", "at", "code", "line", "most", "name", "one", "other", "peg", "step", "value", "why"]), ("NotFast", ["#", "at", "code", "line", "most", "name", "one", "other", "peg", "step", "value", "why"]), ("Held", ["#", "at", "code", "line", "most", "name", "one", "other", "peg", "step", "value", "why"]), ("NotStuck", ["#", "at", "code", "line", "most", "name", "one", "other", "peg", "step", "value", "why"]), ("InvalidRow", ["#", "at", "code", "line", "most", "name", "one", "other", "peg", "step", "value", "why"]), ("NeverLeaves", ["#", "at", "code", "line", "most", "name", "one", "other", "peg", "step", "value", "why"]), ("Refused", ["#", "at", "code", "line", "most", "name", "one", "other", "peg", "step", "value", "why"]), ("InvalidPrices", ["#", "at", "code", "line", "most", "name", "one", "other", "peg", "step", "value", "why"]), ("InvalidDeed", ["#", "at", "code", "line", "most", "name", "one", "other", "peg", "step", "value", "why"]), ("UnknownName", ["#", "at", "code", "line", "most", "name", "one", "other", "peg", "step", "value", "why"]), ("NothingLeft", ["#", "at", "code", "line", "most", "name", "one", "other", "peg", "step", "value", "why"])]
abbrev csL : List Nat := [0, 1, 2, 3, 4, 5, 6, 7, 8, 9, 10, 11, 12, 13, 14, 15, 16, 17, 18, 19, 20, 21, 22, 23, 24, 25, 26, 27, 28, 29, 30]
abbrev exN : List Str := ["InvalidName", "InvalidNumber", "InvalidDirection", "InvalidPart", "PartsOverlap", "Loose", "InvalidWay", "InvalidPiece", "InvalidPeg", "PiecesOverlap", "DuplicateName", "TooMany", "OutOfBounds", "InvalidText", "InvalidLot", "OtherThing", "InvalidStep", "NoParting", "NoJoining", "Barred", "Pegged", "NotFast", "Held", "NotStuck", "InvalidRow", "NeverLeaves", "Refused", "InvalidPrices", "InvalidDeed", "UnknownName", "NothingLeft"]
def ysX : List OwnY := []
def cvX : List ConY := []
def xsX : List (PySem.W.Frag → Bool) := [excsB exN, isxC exN [true, false, false, false, false, false, false, false, false, false, false, false, false, false, false, false, false, false, false, false, false, false, false, false, false, false, false, false, false, false, false] "InvalidName", isxC exN [false, true, false, false, false, false, false, false, false, false, false, false, false, false, false, false, false, false, false, false, false, false, false, false, false, false, false, false, false, false, false] "InvalidNumber", isxC exN [false, false, true, false, false, false, false, false, false, false, false, false, false, false, false, false, false, false, false, false, false, false, false, false, false, false, false, false, false, false, false] "InvalidDirection", isxC exN [false, false, false, true, false, false, false, false, false, false, false, false, false, false, false, false, false, false, false, false, false, false, false, false, false, false, false, false, false, false, false] "InvalidPart", isxC exN [false, false, false, false, true, false, false, false, false, false, false, false, false, false, false, false, false, false, false, false, false, false, false, false, false, false, false, false, false, false, false] "PartsOverlap", isxC exN [false, false, false, false, false, true, false, false, false, false, false, false, false, false, false, false, false, false, false, false, false, false, false, false, false, false, false, false, false, false, false] "Loose", isxC exN [false, false, false, false, false, false, true, false, false, false, false, false, false, false, false, false, false, false, false, false, false, false, false, false, false, false, false, false, false, false, false] "InvalidWay", isxC exN [false, false, false, false, false, false, false, true, false, false, false, false, false, false, false, false, false, false, false, false, false, false, false, false, false, false, false, false, false, false, false] "InvalidPiece", isxC exN [false, false, false, false, false, false, false, false, true, false, false, false, false, false, false, false, false, false, false, false, false, false, false, false, false, false, false, false, false, false, false] "InvalidPeg", isxC exN [false, false, false, false, false, false, false, false, false, true, false, false, false, false, false, false, false, false, false, false, false, false, false, false, false, false, false, false, false, false, false] "PiecesOverlap", isxC exN [false, false, false, false, false, false, false, false, false, false, true, false, false, false, false, false, false, false, false, false, false, false, false, false, false, false, false, false, false, false, false] "DuplicateName", isxC exN [false, false, false, false, false, false, false, false, false, false, false, true, false, false, false, false, false, false, false, false, false, false, false, false, false, false, false, false, false, false, false] "TooMany", isxC exN [false, false, false, false, false, false, false, false, false, false, false, false, true, false, false, false, false, false, false, false, false, false, false, false, false, false, false, false, false, false, false] "OutOfBounds", isxC exN [false, false, false, false, false, false, false, false, false, false, false, false, false, true, false, false, false, false, false, false, false, false, false, false, false, false, false, false, false, false, false] "InvalidText", isxC exN [false, false, false, false, false, false, false, false, false, false, false, false, false, false, true, false, false, false, false, false, false, false, false, false, false, false, false, false, false, false, false] "InvalidLot", isxC exN [false, false, false, false, false, false, false, false, false, false, false, false, false, false, false, true, false, false, false, false, false, false, false, false, false, false, false, false, false, false, false] "OtherThing", isxC exN [false, false, false, false, false, false, false, false, false, false, false, false, false, false, false, false, true, false, false, false, false, false, false, false, false, false, false, false, false, false, false] "InvalidStep", isxC exN [false, false, false, false, false, false, false, false, false, false, false, false, false, false, false, false, false, true, false, false, false, false, false, false, false, false, false, false, false, false, false] "NoParting", isxC exN [false, false, false, false, false, false, false, false, false, false, false, false, false, false, false, false, false, false, true, false, false, false, false, false, false, false, false, false, false, false, false] "NoJoining", isxC exN [false, false, false, false, false, false, false, false, false, false, false, false, false, false, false, false, false, false, false, true, false, false, false, false, false, false, false, false, false, false, false] "Barred", isxC exN [false, false, false, false, false, false, false, false, false, false, false, false, false, false, false, false, false, false, false, false, true, false, false, false, false, false, false, false, false, false, false] "Pegged", isxC exN [false, false, false, false, false, false, false, false, false, false, false, false, false, false, false, false, false, false, false, false, false, true, false, false, false, false, false, false, false, false, false] "NotFast", isxC exN [false, false, false, false, false, false, false, false, false, false, false, false, false, false, false, false, false, false, false, false, false, false, true, false, false, false, false, false, false, false, false] "Held", isxC exN [false, false, false, false, false, false, false, false, false, false, false, false, false, false, false, false, false, false, false, false, false, false, false, true, false, false, false, false, false, false, false] "NotStuck", isxC exN [false, false, false, false, false, false, false, false, false, false, false, false, false, false, false, false, false, false, false, false, false, false, false, false, true, false, false, false, false, false, false] "InvalidRow", isxC exN [false, false, false, false, false, false, false, false, false, false, false, false, false, false, false, false, false, false, false, false, false, false, false, false, false, true, false, false, false, false, false] "NeverLeaves", isxC exN [false, false, false, false, false, false, false, false, false, false, false, false, false, false, false, false, false, false, false, false, false, false, false, false, false, false, true, false, false, false, false] "Refused", isxC exN [false, false, false, false, false, false, false, false, false, false, false, false, false, false, false, false, false, false, false, false, false, false, false, false, false, false, false, true, false, false, false] "InvalidPrices", isxC exN [false, false, false, false, false, false, false, false, false, false, false, false, false, false, false, false, false, false, false, false, false, false, false, false, false, false, false, false, true, false, false] "InvalidDeed", isxC exN [false, false, false, false, false, false, false, false, false, false, false, false, false, false, false, false, false, false, false, false, false, false, false, false, false, false, false, false, false, true, false] "UnknownName", isxC exN [false, false, false, false, false, false, false, false, false, false, false, false, false, false, false, false, false, false, false, false, false, false, false, false, false, false, false, false, false, false, true] "NothingLeft", isxC exN [true, true, true, true, true, true, true, true, true, true, true, true, true, true, true, true, true, true, true, true, true, true, true, true, true, true, true, true, true, false, false] "LotError", isxT exN [true, true, true, true, true, true, true, true, true, true, true, true, true, true, true, true, true, true, true, true, true, true, true, true, true, true, true, true, true, false, false] "ValueError", isxC exN [false, false, false, false, false, false, false, false, false, false, false, false, false, false, false, false, false, false, false, false, false, false, false, false, false, false, false, false, false, true, false] "Missing", isxT exN [false, false, false, false, false, false, false, false, false, false, false, false, false, false, false, false, false, false, false, false, false, false, false, false, false, false, false, false, false, true, true] "LookupError", isxT exN [false, false, false, false, false, false, false, false, false, false, false, false, false, false, false, false, false, false, false, false, false, false, false, false, false, false, false, false, false, false, true] "IndexError", isxT exN [false, false, false, false, false, false, false, false, false, false, false, false, false, false, false, false, false, false, false, false, false, false, false, false, false, false, false, false, false, false, false] "KeyError"]
def dfX : List (PySem.W.Frag → Addr) := []
def gtX : List GetD := []
def tfX : List He.Defn := []
abbrev gK (K : PySem.W.Frag) : Gc := ⟨K, clsN csX K, [], none⟩
end Lw

set_option Elab.async false
set_option linter.all false
set_option maxRecDepth 100000
set_option maxHeartbeats 4000000
namespace Lw
open PySem PySem.Spec PyProof.Rows L2 SD
def loose0 : List Str := ["__name__", "LotError", "Missing", "InvalidName", "InvalidNumber", "InvalidDirection", "InvalidPart", "PartsOverlap", "Loose", "InvalidWay", "InvalidPiece", "InvalidPeg", "PiecesOverlap", "DuplicateName", "TooMany", "OutOfBounds", "InvalidText", "InvalidLot", "OtherThing", "InvalidStep", "NoParting", "NoJoining", "Barred", "Pegged", "NotFast", "Held", "NotStuck", "InvalidRow", "NeverLeaves", "Refused"]
def loose1 : List Str := ["InvalidPrices", "InvalidDeed", "UnknownName", "NothingLeft", "_law_box", "_law_take", "_law_pick", "_law_same", "_law_letters", "_law_word", "_law_odd", "_law_fields", "_law_codes", "_law_by_place", "_law_by_name", "_law_kinds", "_law_bases", "_law_due", "_law_all_so"]
def loose : List Str := loose0 ++ loose1
def exX (K : PySem.W.Frag) : Bool := allX csX K && (allY ysX K && (allC cvX K && (allE dfX K && (allD tfX K && allM xsX K))))
abbrev R0 : PySem.W.OpenRow := PySem.W.OpenLaw.row PySem.Challenge.rw_stucklots_k00_errors_by_themselves
abbrev hk : PySem.W.Hook := hookY 5 fa fn tfX exX gtX
def ob (s : PySem.W.SharedT) : AlG := obsY 5 fa fn tfX exX gtX (HandSHeadRun.getT s)
theorem ob_eq (s : PySem.W.SharedT) : ob s = hk.obs s.abs := obsY_eq (HandSHeadRun.getT_eq s)
/-- the head's run, one part after the other (all at once wants more room than there is) -/
theorem join5 {σ α β γ δ : Type} {o : Option σ} {f1 : σ → Bool} {f2 : σ → β} {ob : σ → (α × γ) × δ} {v1 : Bool} {v2 : β} {v3 : (α × γ) × δ} (h1 : o.map f1 = some v1) (h2 : o.map f2 = some v2) (h3 : o.map (fun s => (ob s).1.1) = some v3.1.1) (h4 : o.map (fun s => (ob s).1.2) = some v3.1.2) (h5 : o.map (fun s => (ob s).2) = some v3.2) : o.map (fun s => (f1 s, f2 s, ob s)) = some (v1, v2, v3) := by
  cases o with
  | none => cases h1
  | some s =>
    simp only [Option.map_some, Option.some.injEq] at *
    rw [h1, h2, ← Prod.eta (ob s), ← Prod.eta (ob s).1, h3, h4, h5]
section
open PySem.W PySem.Calls
noncomputable abbrev endO (w : World) (os : OsState) := HandSHeadRun.endF (HandSHeadRun.stepQ (HandSHeadRun.denQ HandSHeadRun.tabQ) R0.prog w) 9000 R0.prog w os
theorem run1 (w : World) (os : OsState) : (endO w os).map (fun s => HandSHeadRun.looksF R0.prog (boot_heap w.params) s.abs) = some true := by
  kernel_rfl
theorem run2 (w : World) (os : OsState) : (endO w os).map (fun s => HandSHeadRun.seenQ (view R0.prog [50]) loose (importedModules R0.prog.main.body) (fun s => xlAt (view R0.prog [50]) [] s && recOk R0.toRowW.records s) s.abs) = some (openGood (view R0.prog [50]) loose) := by
  kernel_rfl
theorem run3 (w : World) (os : OsState) : (endO w os).map (fun s => (ob s).1.1) = some (hk.val w).1.1 := by
  kernel_rfl
theorem run4 (w : World) (os : OsState) : (endO w os).map (fun s => (ob s).1.2) = some (hk.val w).1.2 := by
  kernel_rfl
theorem run5 (w : World) (os : OsState) : (endO w os).map (fun s => (ob s).2) = some (hk.val w).2 := by
  kernel_rfl
end
theorem run (w : World) : HandSHeadRun.RunEq R0 (PySem.W.view R0.prog [50]) hk ob 9000 loose w := fun os => join5 (run1 w os) (run2 w os) (run3 w os) (run4 w os) (run5 w os)
end Lw

set_option Elab.async false
set_option linter.all false
set_option maxRecDepth 100000
set_option maxHeartbeats 4000000
namespace Lw
open PySem PySem.Spec PyProof.Rows L2 SD
section
variable {P : Program} {w : World} {K : PySem.W.Frag} {mg : Str → Option Value} {base : Heap}
theorem exN_cls (K : PySem.W.Frag) : (List.range exN.length).map (gK K).cls = exN.map (He.ga K) := rfl
theorem is_InvalidName (T : Hv fa fn csX ysX cvX gtX dfX tfX xsX K mg) : IsX (gK K) [true, false, false, false, false, false, false, false, false, false, false, false, false, false, false, false, false, false, false, false, false, false, false, false, false, false, false, false, false, false, false] (.ref (He.ga K "InvalidName")) := isX_of rfl (T.fur 0 (f := excsB exN)) (T.fur 1 (f := isxC exN [true, false, false, false, false, false, false, false, false, false, false, false, false, false, false, false, false, false, false, false, false, false, false, false, false, false, false, false, false, false, false] "InvalidName")) (exN_cls K)
theorem is_InvalidNumber (T : Hv fa fn csX ysX cvX gtX dfX tfX xsX K mg) : IsX (gK K) [false, true, false, false, false, false, false, false, false, false, false, false, false, false, false, false, false, false, false, false, false, false, false, false, false, false, false, false, false, false, false] (.ref (He.ga K "InvalidNumber")) := isX_of rfl (T.fur 0 (f := excsB exN)) (T.fur 2 (f := isxC exN [false, true, false, false, false, false, false, false, false, false, false, false, false, false, false, false, false, false, false, false, false, false, false, false, false, false, false, false, false, false, false] "InvalidNumber")) (exN_cls K)
theorem is_InvalidDirection (T : Hv fa fn csX ysX cvX gtX dfX tfX xsX K mg) : IsX (gK K) [false, false, true, false, false, false, false, false, false, false, false, false, false, false, false, false, false, false, false, false, false, false, false, false, false, false, false, false, false, false, false] (.ref (He.ga K "InvalidDirection")) := isX_of rfl (T.fur 0 (f := excsB exN)) (T.fur 3 (f := isxC exN [false, false, true, false, false, false, false, false, false, false, false, false, false, false, false, false, false, false, false, false, false, false, false, false, false, false, false, false, false, false, false] "InvalidDirection")) (exN_cls K)
theorem is_InvalidPart (T : Hv fa fn csX ysX cvX gtX dfX tfX xsX K mg) : IsX (gK K) [false, false, false, true, false, false, false, false, false, false, false, false, false, false, false, false, false, false, false, false, false, false, false, false, false, false, false, false, false, false, false] (.ref (He.ga K "InvalidPart")) := isX_of rfl (T.fur 0 (f := excsB exN)) (T.fur 4 (f := isxC exN [false, false, false, true, false, false, false, false, false, false, false, false, false, false, false, false, false, false, false, false, false, false, false, false, false, false, false, false, false, false, false] "InvalidPart")) (exN_cls K)
theorem is_PartsOverlap (T : Hv fa fn csX ysX cvX gtX dfX tfX xsX K mg) : IsX (gK K) [false, false, false, false, true, false, false, false, false, false, false, false, false, false, false, false, false, false, false, false, false, false, false, false, false, false, false, false, false, false, false] (.ref (He.ga K "PartsOverlap")) := isX_of rfl (T.fur 0 (f := excsB exN)) (T.fur 5 (f := isxC exN [false, false, false, false, true, false, false, false, false, false, false, false, false, false, false, false, false, false, false, false, false, false, false, false, false, false, false, false, false, false, false] "PartsOverlap")) (exN_cls K)
theorem is_Loose (T : Hv fa fn csX ysX cvX gtX dfX tfX xsX K mg) : IsX (gK K) [false, false, false, false, false, true, false, false, false, false, false, false, false, false, false, false, false, false, false, false, false, false, false, false, false, false, false, false, false, false, false] (.ref (He.ga K "Loose")) := isX_of rfl (T.fur 0 (f := excsB exN)) (T.fur 6 (f := isxC exN [false, false, false, false, false, true, false, false, false, false, false, false, false, false, false, false, false, false, false, false, false, false, false, false, false, false, false, false, false, false, false] "Loose")) (exN_cls K)
theorem is_InvalidWay (T : Hv fa fn csX ysX cvX gtX dfX tfX xsX K mg) : IsX (gK K) [false, false, false, false, false, false, true, false, false, false, false, false, false, false, false, false, false, false, false, false, false, false, false, false, false, false, false, false, false, false, false] (.ref (He.ga K "InvalidWay")) := isX_of rfl (T.fur 0 (f := excsB exN)) (T.fur 7 (f := isxC exN [false, false, false, false, false, false, true, false, false, false, false, false, false, false, false, false, false, false, false, false, false, false, false, false, false, false, false, false, false, false, false] "InvalidWay")) (exN_cls K)
theorem is_InvalidPiece (T : Hv fa fn csX ysX cvX gtX dfX tfX xsX K mg) : IsX (gK K) [false, false, false, false, false, false, false, true, false, false, false, false, false, false, false, false, false, false, false, false, false, false, false, false, false, false, false, false, false, false, false] (.ref (He.ga K "InvalidPiece")) := isX_of rfl (T.fur 0 (f := excsB exN)) (T.fur 8 (f := isxC exN [false, false, false, false, false, false, false, true, false, false, false, false, false, false, false, false, false, false, false, false, false, false, false, false, false, false, false, false, false, false, false] "InvalidPiece")) (exN_cls K)
theorem is_InvalidPeg (T : Hv fa fn csX ysX cvX gtX dfX tfX xsX K mg) : IsX (gK K) [false, false, false, false, false, false, false, false, true, false, false, false, false, false, false, false, false, false, false, false, false, false, false, false, false, false, false, false, false, false, false] (.ref (He.ga K "InvalidPeg")) := isX_of rfl (T.fur 0 (f := excsB exN)) (T.fur 9 (f := isxC exN [false, false, false, false, false, false, false, false, true, false, false, false, false, false, false, false, false, false, false, false, false, false, false, false, false, false, false, false, false, false, false] "InvalidPeg")) (exN_cls K)
theorem is_PiecesOverlap (T : Hv fa fn csX ysX cvX gtX dfX tfX xsX K mg) : IsX (gK K) [false, false, false, false, false, false, false, false, false, true, false, false, false, false, false, false, false, false, false, false, false, false, false, false, false, false, false, false, false, false, false] (.ref (He.ga K "PiecesOverlap")) := isX_of rfl (T.fur 0 (f := excsB exN)) (T.fur 10 (f := isxC exN [false, false, false, false, false, false, false, false, false, true, false, false, false, false, false, false, false, false, false, false, false, false, false, false, false, false, false, false, false, false, false] "PiecesOverlap")) (exN_cls K)
theorem is_DuplicateName (T : Hv fa fn csX ysX cvX gtX dfX tfX xsX K mg) : IsX (gK K) [false, false, false, false, false, false, false, false, false, false, true, false, false, false, false, false, false, false, false, false, false, false, false, false, false, false, false, false, false, false, false] (.ref (He.ga K "DuplicateName")) := isX_of rfl (T.fur 0 (f := excsB exN)) (T.fur 11 (f := isxC exN [false, false, false, false, false, false, false, false, false, false, true, false, false, false, false, false, false, false, false, false, false, false, false, false, false, false, false, false, false, false, false] "DuplicateName")) (exN_cls K)
theorem is_TooMany (T : Hv fa fn csX ysX cvX gtX dfX tfX xsX K mg) : IsX (gK K) [false, false, false, false, false, false, false, false, false, false, false, true, false, false, false, false, false, false, false, false, false, false, false, false, false, false, false, false, false, false, false] (.ref (He.ga K "TooMany")) := isX_of rfl (T.fur 0 (f := excsB exN)) (T.fur 12 (f := isxC exN [false, false, false, false, false, false, false, false, false, false, false, true, false, false, false, false, false, false, false, false, false, false, false, false, false, false, false, false, false, false, false] "TooMany")) (exN_cls K)
theorem is_OutOfBounds (T : Hv fa fn csX ysX cvX gtX dfX tfX xsX K mg) : IsX (gK K) [false, false, false, false, false, false, false, false, false, false, false, false, true, false, false, false, false, false, false, false, false, false, false, false, false, false, false, false, false, false, false] (.ref (He.ga K "OutOfBounds")) := isX_of rfl (T.fur 0 (f := excsB exN)) (T.fur 13 (f := isxC exN [false, false, false, false, false, false, false, false, false, false, false, false, true, false, false, false, false, false, false, false, false, false, false, false, false, false, false, false, false, false, false] "OutOfBounds")) (exN_cls K)
theorem is_InvalidText (T : Hv fa fn csX ysX cvX gtX dfX tfX xsX K mg) : IsX (gK K) [false, false, false, false, false, false, false, false, false, false, false, false, false, true, false, false, false, false, false, false, false, false, false, false, false, false, false, false, false, false, false] (.ref (He.ga K "InvalidText")) := isX_of rfl (T.fur 0 (f := excsB exN)) (T.fur 14 (f := isxC exN [false, false, false, false, false, false, false, false, false, false, false, false, false, true, false, false, false, false, false, false, false, false, false, false, false, false, false, false, false, false, false] "InvalidText")) (exN_cls K)
theorem is_InvalidLot (T : Hv fa fn csX ysX cvX gtX dfX tfX xsX K mg) : IsX (gK K) [false, false, false, false, false, false, false, false, false, false, false, false, false, false, true, false, false, false, false, false, false, false, false, false, false, false, false, false, false, false, false] (.ref (He.ga K "InvalidLot")) := isX_of rfl (T.fur 0 (f := excsB exN)) (T.fur 15 (f := isxC exN [false, false, false, false, false, false, false, false, false, false, false, false, false, false, true, false, false, false, false, false, false, false, false, false, false, false, false, false, false, false, false] "InvalidLot")) (exN_cls K)
theorem is_OtherThing (T : Hv fa fn csX ysX cvX gtX dfX tfX xsX K mg) : IsX (gK K) [false, false, false, false, false, false, false, false, false, false, false, false, false, false, false, true, false, false, false, false, false, false, false, false, false, false, false, false, false, false, false] (.ref (He.ga K "OtherThing")) := isX_of rfl (T.fur 0 (f := excsB exN)) (T.fur 16 (f := isxC exN [false, false, false, false, false, false, false, false, false, false, false, false, false, false, false, true, false, false, false, false, false, false, false, false, false, false, false, false, false, false, false] "OtherThing")) (exN_cls K)
theorem is_InvalidStep (T : Hv fa fn csX ysX cvX gtX dfX tfX xsX K mg) : IsX (gK K) [false, false, false, false, false, false, false, false, false, false, false, false, false, false, false, false, true, false, false, false, false, false, false, false, false, false, false, false, false, false, false] (.ref (He.ga K "InvalidStep")) := isX_of rfl (T.fur 0 (f := excsB exN)) (T.fur 17 (f := isxC exN [false, false, false, false, false, false, false, false, false, false, false, false, false, false, false, false, true, false, false, false, false, false, false, false, false, false, false, false, false, false, false] "InvalidStep")) (exN_cls K)
theorem is_NoParting (T : Hv fa fn csX ysX cvX gtX dfX tfX xsX K mg) : IsX (gK K) [false, false, false, false, false, false, false, false, false, false, false, false, false, false, false, false, false, true, false, false, false, false, false, false, false, false, false, false, false, false, false] (.ref (He.ga K "NoParting")) := isX_of rfl (T.fur 0 (f := excsB exN)) (T.fur 18 (f := isxC exN [false, false, false, false, false, false, false, false, false, false, false, false, false, false, false, false, false, true, false, false, false, false, false, false, false, false, false, false, false, false, false] "NoParting")) (exN_cls K)
theorem is_NoJoining (T : Hv fa fn csX ysX cvX gtX dfX tfX xsX K mg) : IsX (gK K) [false, false, false, false, false, false, false, false, false, false, false, false, false, false, false, false, false, false, true, false, false, false, false, false, false, false, false, false, false, false, false] (.ref (He.ga K "NoJoining")) := isX_of rfl (T.fur 0 (f := excsB exN)) (T.fur 19 (f := isxC exN [false, false, false, false, false, false, false, false, false, false, false, false, false, false, false, false, false, false, true, false, false, false, false, false, false, false, false, false, false, false, false] "NoJoining")) (exN_cls K)
theorem is_Barred (T : Hv fa fn csX ysX cvX gtX dfX tfX xsX K mg) : IsX (gK K) [false, false, false, false, false, false, false, false, false, false, false, false, false, false, false, false, false, false, false, true, false, false, false, false, false, false, false, false, false, false, false] (.ref (He.ga K "Barred")) := isX_of rfl (T.fur 0 (f := excsB exN)) (T.fur 20 (f := isxC exN [false, false, false, false, false, false, false, false, false, false, false, false, false, false, false, false, false, false, false, true, false, false, false, false, false, false, false, false, false, false, false] "Barred")) (exN_cls K)
theorem is_Pegged (T : Hv fa fn csX ysX cvX gtX dfX tfX xsX K mg) : IsX (gK K) [false, false, false, false, false, false, false, false, false, false, false, false, false, false, false, false, false, false, false, false, true, false, false, false, false, false, false, false, false, false, false] (.ref (He.ga K "Pegged")) := isX_of rfl (T.fur 0 (f := excsB exN)) (T.fur 21 (f := isxC exN [false, false, false, false, false, false, false, false, false, false, false, false, false, false, false, false, false, false, false, false, true, false, false, false, false, false, false, false, false, false, false] "Pegged")) (exN_cls K)
theorem is_NotFast (T : Hv fa fn csX ysX cvX gtX dfX tfX xsX K mg) : IsX (gK K) [false, false, false, false, false, false, false, false, false, false, false, false, false, false, false, false, false, false, false, false, false, true, false, false, false, false, false, false, false, false, false] (.ref (He.ga K "NotFast")) := isX_of rfl (T.fur 0 (f := excsB exN)) (T.fur 22 (f := isxC exN [false, false, false, false, false, false, false, false, false, false, false, false, false, false, false, false, false, false, false, false, false, true, false, false, false, false, false, false, false, false, false] "NotFast")) (exN_cls K)
theorem is_Held (T : Hv fa fn csX ysX cvX gtX dfX tfX xsX K mg) : IsX (gK K) [false, false, false, false, false, false, false, false, false, false, false, false, false, false, false, false, false, false, false, false, false, false, true, false, false, false, false, false, false, false, false] (.ref (He.ga K "Held")) := isX_of rfl (T.fur 0 (f := excsB exN)) (T.fur 23 (f := isxC exN [false, false, false, false, false, false, false, false, false, false, false, false, false, false, false, false, false, false, false, false, false, false, true, false, false, false, false, false, false, false, false] "Held")) (exN_cls K)
theorem is_NotStuck (T : Hv fa fn csX ysX cvX gtX dfX tfX xsX K mg) : IsX (gK K) [false, false, false, false, false, false, false, false, false, false, false, false, false, false, false, false, false, false, false, false, false, false, false, true, false, false, false, false, false, false, false] (.ref (He.ga K "NotStuck")) := isX_of rfl (T.fur 0 (f := excsB exN)) (T.fur 24 (f := isxC exN [false, false, false, false, false, false, false, false, false, false, false, false, false, false, false, false, false, false, false, false, false, false, false, true, false, false, false, false, false, false, false] "NotStuck")) (exN_cls K)
theorem is_InvalidRow (T : Hv fa fn csX ysX cvX gtX dfX tfX xsX K mg) : IsX (gK K) [false, false, false, false, false, false, false, false, false, false, false, false, false, false, false, false, false, false, false, false, false, false, false, false, true, false, false, false, false, false, false] (.ref (He.ga K "InvalidRow")) := isX_of rfl (T.fur 0 (f := excsB exN)) (T.fur 25 (f := isxC exN [false, false, false, false, false, false, false, false, false, false, false, false, false, false, false, false, false, false, false, false, false, false, false, false, true, false, false, false, false, false, false] "InvalidRow")) (exN_cls K)
theorem is_NeverLeaves (T : Hv fa fn csX ysX cvX gtX dfX tfX xsX K mg) : IsX (gK K) [false, false, false, false, false, false, false, false, false, false, false, false, false, false, false, false, false, false, false, false, false, false, false, false, false, true, false, false, false, false, false] (.ref (He.ga K "NeverLeaves")) := isX_of rfl (T.fur 0 (f := excsB exN)) (T.fur 26 (f := isxC exN [false, false, false, false, false, false, false, false, false, false, false, false, false, false, false, false, false, false, false, false, false, false, false, false, false, true, false, false, false, false, false] "NeverLeaves")) (exN_cls K)
theorem is_Refused (T : Hv fa fn csX ysX cvX gtX dfX tfX xsX K mg) : IsX (gK K) [false, false, false, false, false, false, false, false, false, false, false, false, false, false, false, false, false, false, false, false, false, false, false, false, false, false, true, false, false, false, false] (.ref (He.ga K "Refused")) := isX_of rfl (T.fur 0 (f := excsB exN)) (T.fur 27 (f := isxC exN [false, false, false, false, false, false, false, false, false, false, false, false, false, false, false, false, false, false, false, false, false, false, false, false, false, false, true, false, false, false, false] "Refused")) (exN_cls K)
theorem is_InvalidPrices (T : Hv fa fn csX ysX cvX gtX dfX tfX xsX K mg) : IsX (gK K) [false, false, false, false, false, false, false, false, false, false, false, false, false, false, false, false, false, false, false, false, false, false, false, false, false, false, false, true, false, false, false] (.ref (He.ga K "InvalidPrices")) := isX_of rfl (T.fur 0 (f := excsB exN)) (T.fur 28 (f := isxC exN [false, false, false, false, false, false, false, false, false, false, false, false, false, false, false, false, false, false, false, false, false, false, false, false, false, false, false, true, false, false, false] "InvalidPrices")) (exN_cls K)
theorem is_InvalidDeed (T : Hv fa fn csX ysX cvX gtX dfX tfX xsX K mg) : IsX (gK K) [false, false, false, false, false, false, false, false, false, false, false, false, false, false, false, false, false, false, false, false, false, false, false, false, false, false, false, false, true, false, false] (.ref (He.ga K "InvalidDeed")) := isX_of rfl (T.fur 0 (f := excsB exN)) (T.fur 29 (f := isxC exN [false, false, false, false, false, false, false, false, false, false, false, false, false, false, false, false, false, false, false, false, false, false, false, false, false, false, false, false, true, false, false] "InvalidDeed")) (exN_cls K)
theorem is_UnknownName (T : Hv fa fn csX ysX cvX gtX dfX tfX xsX K mg) : IsX (gK K) [false, false, false, false, false, false, false, false, false, false, false, false, false, false, false, false, false, false, false, false, false, false, false, false, false, false, false, false, false, true, false] (.ref (He.ga K "UnknownName")) := isX_of rfl (T.fur 0 (f := excsB exN)) (T.fur 30 (f := isxC exN [false, false, false, false, false, false, false, false, false, false, false, false, false, false, false, false, false, false, false, false, false, false, false, false, false, false, false, false, false, true, false] "UnknownName")) (exN_cls K)
theorem is_NothingLeft (T : Hv fa fn csX ysX cvX gtX dfX tfX xsX K mg) : IsX (gK K) [false, false, false, false, false, false, false, false, false, false, false, false, false, false, false, false, false, false, false, false, false, false, false, false, false, false, false, false, false, false, true] (.ref (He.ga K "NothingLeft")) := isX_of rfl (T.fur 0 (f := excsB exN)) (T.fur 31 (f := isxC exN [false, false, false, false, false, false, false, false, false, false, false, false, false, false, false, false, false, false, false, false, false, false, false, false, false, false, false, false, false, false, true] "NothingLeft")) (exN_cls K)
theorem is_LotError (T : Hv fa fn csX ysX cvX gtX dfX tfX xsX K mg) : IsX (gK K) [true, true, true, true, true, true, true, true, true, true, true, true, true, true, true, true, true, true, true, true, true, true, true, true, true, true, true, true, true, false, false] (.ref (He.ga K "LotError")) := isX_of rfl (T.fur 0 (f := excsB exN)) (T.fur 32 (f := isxC exN [true, true, true, true, true, true, true, true, true, true, true, true, true, true, true, true, true, true, true, true, true, true, true, true, true, true, true, true, true, false, false] "LotError")) (exN_cls K)
theorem is_ValueError (T : Hv fa fn csX ysX cvX gtX dfX tfX xsX K mg) : IsX (gK K) [true, true, true, true, true, true, true, true, true, true, true, true, true, true, true, true, true, true, true, true, true, true, true, true, true, true, true, true, true, false, false] (.type "ValueError") := isX_of rfl (T.fur 0 (f := excsB exN)) (T.fur 33 (f := isxT exN [true, true, true, true, true, true, true, true, true, true, true, true, true, true, true, true, true, true, true, true, true, true, true, true, true, true, true, true, true, false, false] "ValueError")) (exN_cls K)
theorem is_Missing (T : Hv fa fn csX ysX cvX gtX dfX tfX xsX K mg) : IsX (gK K) [false, false, false, false, false, false, false, false, false, false, false, false, false, false, false, false, false, false, false, false, false, false, false, false, false, false, false, false, false, true, false] (.ref (He.ga K "Missing")) := isX_of rfl (T.fur 0 (f := excsB exN)) (T.fur 34 (f := isxC exN [false, false, false, false, false, false, false, false, false, false, false, false, false, false, false, false, false, false, false, false, false, false, false, false, false, false, false, false, false, true, false] "Missing")) (exN_cls K)
theorem is_LookupError (T : Hv fa fn csX ysX cvX gtX dfX tfX xsX K mg) : IsX (gK K) [false, false, false, false, false, false, false, false, false, false, false, false, false, false, false, false, false, false, false, false, false, false, false, false, false, false, false, false, false, true, true] (.type "LookupError") := isX_of rfl (T.fur 0 (f := excsB exN)) (T.fur 35 (f := isxT exN [false, false, false, false, false, false, false, false, false, false, false, false, false, false, false, false, false, false, false, false, false, false, false, false, false, false, false, false, false, true, true] "LookupError")) (exN_cls K)
theorem is_IndexError (T : Hv fa fn csX ysX cvX gtX dfX tfX xsX K mg) : IsX (gK K) [false, false, false, false, false, false, false, false, false, false, false, false, false, false, false, false, false, false, false, false, false, false, false, false, false, false, false, false, false, false, true] (.type "IndexError") := isX_of rfl (T.fur 0 (f := excsB exN)) (T.fur 36 (f := isxT exN [false, false, false, false, false, false, false, false, false, false, false, false, false, false, false, false, false, false, false, false, false, false, false, false, false, false, false, false, false, false, true] "IndexError")) (exN_cls K)
theorem is_KeyError (T : Hv fa fn csX ysX cvX gtX dfX tfX xsX K mg) : IsX (gK K) [false, false, false, false, false, false, false, false, false, false, false, false, false, false, false, false, false, false, false, false, false, false, false, false, false, false, false, false, false, false, false] (.type "KeyError") := isX_of rfl (T.fur 0 (f := excsB exN)) (T.fur 37 (f := isxT exN [false, false, false, false, false, false, false, false, false, false, false, false, false, false, false, false, false, false, false, false, false, false, false, false, false, false, false, false, false, false, false] "KeyError")) (exN_cls K)
theorem sc_InvalidName : FnScope ["self", "value"] ["self", "value"] (defScope s_InvalidName) := ⟨rfl, rfl, rfl, by decide +kernel, rfl, by decide +kernel, by decide +kernel⟩
theorem fd_InvalidName (T : Hv fa fn csX ysX cvX gtX dfX tfX xsX K mg) : ∃ fd, FunD (gK K).K "__init__" "InvalidName.__init__" (defArgs s_InvalidName) (defBody s_InvalidName) (defScope s_InvalidName) [] [] (He.ma K (He.ga K "InvalidName") "__init__") fd := T.def_ 0
theorem xc_InvalidName (T : Hv fa fn csX ysX cvX gtX dfX tfX xsX K mg) : XcG P w (gK K) mg base 1 "InvalidName" 0 ["value"] "InvalidName" := xc1 (k := 0) (T.glo 0) (T.xc 0) rfl (fd_InvalidName T) sc_InvalidName (fun _ _ _ _ _ _ us hl => match us, hl with | [_, _], _ => rfl) rfl rfl rfl (.inl rfl) rfl (.inl rfl) (by decide) (by decide) rfl (fun _ => rfl)
theorem sc_InvalidNumber : FnScope ["self", "value"] ["self", "value"] (defScope s_InvalidNumber) := ⟨rfl, rfl, rfl, by decide +kernel, rfl, by decide +kernel, by decide +kernel⟩
theorem fd_InvalidNumber (T : Hv fa fn csX ysX cvX gtX dfX tfX xsX K mg) : ∃ fd, FunD (gK K).K "__init__" "InvalidNumber.__init__" (defArgs s_InvalidNumber) (defBody s_InvalidNumber) (defScope s_InvalidNumber) [] [] (He.ma K (He.ga K "InvalidNumber") "__init__") fd := T.def_ 1
theorem xc_InvalidNumber (T : Hv fa fn csX ysX cvX gtX dfX tfX xsX K mg) : XcG P w (gK K) mg base 1 "InvalidNumber" 1 ["value"] "InvalidNumber" := xc1 (k := 0) (T.glo 1) (T.xc 1) rfl (fd_InvalidNumber T) sc_InvalidNumber (fun _ _ _ _ _ _ us hl => match us, hl with | [_, _], _ => rfl) rfl rfl rfl (.inl rfl) rfl (.inl rfl) (by decide) (by decide) rfl (fun _ => rfl)
theorem sc_InvalidDirection : FnScope ["self", "value"] ["self", "value"] (defScope s_InvalidDirection) := ⟨rfl, rfl, rfl, by decide +kernel, rfl, by decide +kernel, by decide +kernel⟩
theorem fd_InvalidDirection (T : Hv fa fn csX ysX cvX gtX dfX tfX xsX K mg) : ∃ fd, FunD (gK K).K "__init__" "InvalidDirection.__init__" (defArgs s_InvalidDirection) (defBody s_InvalidDirection) (defScope s_InvalidDirection) [] [] (He.ma K (He.ga K "InvalidDirection") "__init__") fd := T.def_ 2
theorem xc_InvalidDirection (T : Hv fa fn csX ysX cvX gtX dfX tfX xsX K mg) : XcG P w (gK K) mg base 1 "InvalidDirection" 2 ["value"] "InvalidDirection" := xc1 (k := 0) (T.glo 2) (T.xc 2) rfl (fd_InvalidDirection T) sc_InvalidDirection (fun _ _ _ _ _ _ us hl => match us, hl with | [_, _], _ => rfl) rfl rfl rfl (.inl rfl) rfl (.inl rfl) (by decide) (by decide) rfl (fun _ => rfl)
theorem sc_InvalidPart : FnScope ["self", "at"] ["self", "at"] (defScope s_InvalidPart) := ⟨rfl, rfl, rfl, by decide +kernel, rfl, by decide +kernel, by decide +kernel⟩
theorem fd_InvalidPart (T : Hv fa fn csX ysX cvX gtX dfX tfX xsX K mg) : ∃ fd, FunD (gK K).K "__init__" "InvalidPart.__init__" (defArgs s_InvalidPart) (defBody s_InvalidPart) (defScope s_InvalidPart) [] [] (He.ma K (He.ga K "InvalidPart") "__init__") fd := T.def_ 3
theorem xc_InvalidPart (T : Hv fa fn csX ysX cvX gtX dfX tfX xsX K mg) : XcG P w (gK K) mg base 1 "InvalidPart" 3 ["at"] "InvalidPart" := xc1 (k := 0) (T.glo 3) (T.xc 3) rfl (fd_InvalidPart T) sc_InvalidPart (fun _ _ _ _ _ _ us hl => match us, hl with | [_, _], _ => rfl) rfl rfl rfl (.inl rfl) rfl (.inl rfl) (by decide) (by decide) rfl (fun _ => rfl)
theorem sc_PartsOverlap : FnScope ["self", "one", "other"] ["self", "one", "other"] (defScope s_PartsOverlap) := ⟨rfl, rfl, rfl, by decide +kernel, rfl, by decide +kernel, by decide +kernel⟩
theorem fd_PartsOverlap (T : Hv fa fn csX ysX cvX gtX dfX tfX xsX K mg) : ∃ fd, FunD (gK K).K "__init__" "PartsOverlap.__init__" (defArgs s_PartsOverlap) (defBody s_PartsOverlap) (defScope s_PartsOverlap) [] [] (He.ma K (He.ga K "PartsOverlap") "__init__") fd := T.def_ 4
theorem xc_PartsOverlap (T : Hv fa fn csX ysX cvX gtX dfX tfX xsX K mg) : XcG P w (gK K) mg base 1 "PartsOverlap" 4 ["one", "other"] "PartsOverlap" := xc2 (k := 0) (T.glo 4) (T.xc 4) rfl (fd_PartsOverlap T) sc_PartsOverlap (fun _ _ _ _ _ _ us hl => match us, hl with | [_, _, _], _ => rfl) rfl rfl rfl rfl (.inl rfl) rfl (.inl rfl) (by decide) (by decide) rfl (.inl rfl) (by decide) (by decide) rfl (fun _ => rfl) (fun _ => rfl)
theorem sc_Loose : FnScope ["self", "at"] ["self", "at"] (defScope s_Loose) := ⟨rfl, rfl, rfl, by decide +kernel, rfl, by decide +kernel, by decide +kernel⟩
theorem fd_Loose (T : Hv fa fn csX ysX cvX gtX dfX tfX xsX K mg) : ∃ fd, FunD (gK K).K "__init__" "Loose.__init__" (defArgs s_Loose) (defBody s_Loose) (defScope s_Loose) [] [] (He.ma K (He.ga K "Loose") "__init__") fd := T.def_ 5
theorem xc_Loose (T : Hv fa fn csX ysX cvX gtX dfX tfX xsX K mg) : XcG P w (gK K) mg base 1 "Loose" 5 ["at"] "Loose" := xc1 (k := 0) (T.glo 5) (T.xc 5) rfl (fd_Loose T) sc_Loose (fun _ _ _ _ _ _ us hl => match us, hl with | [_, _], _ => rfl) rfl rfl rfl (.inl rfl) rfl (.inl rfl) (by decide) (by decide) rfl (fun _ => rfl)
theorem sc_InvalidWay : FnScope ["self", "at"] ["self", "at"] (defScope s_InvalidWay) := ⟨rfl, rfl, rfl, by decide +kernel, rfl, by decide +kernel, by decide +kernel⟩
theorem fd_InvalidWay (T : Hv fa fn csX ysX cvX gtX dfX tfX xsX K mg) : ∃ fd, FunD (gK K).K "__init__" "InvalidWay.__init__" (defArgs s_InvalidWay) (defBody s_InvalidWay) (defScope s_InvalidWay) [] [] (He.ma K (He.ga K "InvalidWay") "__init__") fd := T.def_ 6
theorem xc_InvalidWay (T : Hv fa fn csX ysX cvX gtX dfX tfX xsX K mg) : XcG P w (gK K) mg base 1 "InvalidWay" 6 ["at"] "InvalidWay" := xc1 (k := 0) (T.glo 6) (T.xc 6) rfl (fd_InvalidWay T) sc_InvalidWay (fun _ _ _ _ _ _ us hl => match us, hl with | [_, _], _ => rfl) rfl rfl rfl (.inl rfl) rfl (.inl rfl) (by decide) (by decide) rfl (fun _ => rfl)
theorem sc_InvalidPiece : FnScope ["self", "at"] ["self", "at"] (defScope s_InvalidPiece) := ⟨rfl, rfl, rfl, by decide +kernel, rfl, by decide +kernel, by decide +kernel⟩
theorem fd_InvalidPiece (T : Hv fa fn csX ysX cvX gtX dfX tfX xsX K mg) : ∃ fd, FunD (gK K).K "__init__" "InvalidPiece.__init__" (defArgs s_InvalidPiece) (defBody s_InvalidPiece) (defScope s_InvalidPiece) [] [] (He.ma K (He.ga K "InvalidPiece") "__init__") fd := T.def_ 7
theorem xc_InvalidPiece (T : Hv fa fn csX ysX cvX gtX dfX tfX xsX K mg) : XcG P w (gK K) mg base 1 "InvalidPiece" 7 ["at"] "InvalidPiece" := xc1 (k := 0) (T.glo 7) (T.xc 7) rfl (fd_InvalidPiece T) sc_InvalidPiece (fun _ _ _ _ _ _ us hl => match us, hl with | [_, _], _ => rfl) rfl rfl rfl (.inl rfl) rfl (.inl rfl) (by decide) (by decide) rfl (fun _ => rfl)
theorem sc_InvalidPeg : FnScope ["self", "at"] ["self", "at"] (defScope s_InvalidPeg) := ⟨rfl, rfl, rfl, by decide +kernel, rfl, by decide +kernel, by decide +kernel⟩
theorem fd_InvalidPeg (T : Hv fa fn csX ysX cvX gtX dfX tfX xsX K mg) : ∃ fd, FunD (gK K).K "__init__" "InvalidPeg.__init__" (defArgs s_InvalidPeg) (defBody s_InvalidPeg) (defScope s_InvalidPeg) [] [] (He.ma K (He.ga K "InvalidPeg") "__init__") fd := T.def_ 8
theorem xc_InvalidPeg (T : Hv fa fn csX ysX cvX gtX dfX tfX xsX K mg) : XcG P w (gK K) mg base 1 "InvalidPeg" 8 ["at"] "InvalidPeg" := xc1 (k := 0) (T.glo 8) (T.xc 8) rfl (fd_InvalidPeg T) sc_InvalidPeg (fun _ _ _ _ _ _ us hl => match us, hl with | [_, _], _ => rfl) rfl rfl rfl (.inl rfl) rfl (.inl rfl) (by decide) (by decide) rfl (fun _ => rfl)
theorem sc_PiecesOverlap : FnScope ["self", "one", "other"] ["self", "one", "other"] (defScope s_PiecesOverlap) := ⟨rfl, rfl, rfl, by decide +kernel, rfl, by decide +kernel, by decide +kernel⟩
theorem fd_PiecesOverlap (T : Hv fa fn csX ysX cvX gtX dfX tfX xsX K mg) : ∃ fd, FunD (gK K).K "__init__" "PiecesOverlap.__init__" (defArgs s_PiecesOverlap) (defBody s_PiecesOverlap) (defScope s_PiecesOverlap) [] [] (He.ma K (He.ga K "PiecesOverlap") "__init__") fd := T.def_ 9
theorem xc_PiecesOverlap (T : Hv fa fn csX ysX cvX gtX dfX tfX xsX K mg) : XcG P w (gK K) mg base 1 "PiecesOverlap" 9 ["one", "other"] "PiecesOverlap" := xc2 (k := 0) (T.glo 9) (T.xc 9) rfl (fd_PiecesOverlap T) sc_PiecesOverlap (fun _ _ _ _ _ _ us hl => match us, hl with | [_, _, _], _ => rfl) rfl rfl rfl rfl (.inl rfl) rfl (.inl rfl) (by decide) (by decide) rfl (.inl rfl) (by decide) (by decide) rfl (fun _ => rfl) (fun _ => rfl)
theorem sc_DuplicateName : FnScope ["self", "name"] ["self", "name"] (defScope s_DuplicateName) := ⟨rfl, rfl, rfl, by decide +kernel, rfl, by decide +kernel, by decide +kernel⟩
theorem fd_DuplicateName (T : Hv fa fn csX ysX cvX gtX dfX tfX xsX K mg) : ∃ fd, FunD (gK K).K "__init__" "DuplicateName.__init__" (defArgs s_DuplicateName) (defBody s_DuplicateName) (defScope s_DuplicateName) [] [] (He.ma K (He.ga K "DuplicateName") "__init__") fd := T.def_ 10
theorem xc_DuplicateName (T : Hv fa fn csX ysX cvX gtX dfX tfX xsX K mg) : XcG P w (gK K) mg base 1 "DuplicateName" 10 ["name"] "DuplicateName" := xc1 (k := 0) (T.glo 10) (T.xc 10) rfl (fd_DuplicateName T) sc_DuplicateName (fun _ _ _ _ _ _ us hl => match us, hl with | [_, _], _ => rfl) rfl rfl rfl (.inl rfl) rfl (.inl rfl) (by decide) (by decide) rfl (fun _ => rfl)
theorem sc_TooMany : FnScope ["self", "most"] ["self", "most"] (defScope s_TooMany) := ⟨rfl, rfl, rfl, by decide +kernel, rfl, by decide +kernel, by decide +kernel⟩
theorem fd_TooMany (T : Hv fa fn csX ysX cvX gtX dfX tfX xsX K mg) : ∃ fd, FunD (gK K).K "__init__" "TooMany.__init__" (defArgs s_TooMany) (defBody s_TooMany) (defScope s_TooMany) [] [] (He.ma K (He.ga K "TooMany") "__init__") fd := T.def_ 11
theorem xc_TooMany (T : Hv fa fn csX ysX cvX gtX dfX tfX xsX K mg) : XcG P w (gK K) mg base 1 "TooMany" 11 ["most"] "TooMany" := xc1 (k := 0) (T.glo 11) (T.xc 11) rfl (fd_TooMany T) sc_TooMany (fun _ _ _ _ _ _ us hl => match us, hl with | [_, _], _ => rfl) rfl rfl rfl (.inl rfl) rfl (.inl rfl) (by decide) (by decide) rfl (fun _ => rfl)
theorem sc_OutOfBounds : FnScope ["self"] ["self"] (defScope s_OutOfBounds) := ⟨rfl, rfl, rfl, by decide +kernel, rfl, by decide +kernel, by decide +kernel⟩
theorem fd_OutOfBounds (T : Hv fa fn csX ysX cvX gtX dfX tfX xsX K mg) : ∃ fd, FunD (gK K).K "__init__" "OutOfBounds.__init__" (defArgs s_OutOfBounds) (defBody s_OutOfBounds) (defScope s_OutOfBounds) [] [] (He.ma K (He.ga K "OutOfBounds") "__init__") fd := T.def_ 12
theorem xc_OutOfBounds (T : Hv fa fn csX ysX cvX gtX dfX tfX xsX K mg) : XcG P w (gK K) mg base 1 "OutOfBounds" 12 [] "OutOfBounds" := xc0 (k := 0) (T.glo 12) (T.xc 12) rfl (fd_OutOfBounds T) sc_OutOfBounds (fun _ _ _ _ _ _ us hl => match us, hl with | [_], _ => rfl) rfl rfl (.inl rfl) rfl
theorem sc_InvalidText : FnScope ["self", "line", "why"] ["self", "line", "why"] (defScope s_InvalidText) := ⟨rfl, rfl, rfl, by decide +kernel, rfl, by decide +kernel, by decide +kernel⟩
theorem fd_InvalidText (T : Hv fa fn csX ysX cvX gtX dfX tfX xsX K mg) : ∃ fd, FunD (gK K).K "__init__" "InvalidText.__init__" (defArgs s_InvalidText) (defBody s_InvalidText) (defScope s_InvalidText) [] [] (He.ma K (He.ga K "InvalidText") "__init__") fd := T.def_ 13
theorem xc_InvalidText (T : Hv fa fn csX ysX cvX gtX dfX tfX xsX K mg) : XcG P w (gK K) mg base 1 "InvalidText" 13 ["line", "why"] "InvalidText" := xc2 (k := 0) (T.glo 13) (T.xc 13) rfl (fd_InvalidText T) sc_InvalidText (fun _ _ _ _ _ _ us hl => match us, hl with | [_, _, _], _ => rfl) rfl rfl rfl rfl (.inl rfl) rfl (.inl rfl) (by decide) (by decide) rfl (.inl rfl) (by decide) (by decide) rfl (fun _ => rfl) (fun _ => rfl)
theorem sc_InvalidLot : FnScope ["self", "at"] ["self", "at"] (defScope s_InvalidLot) := ⟨rfl, rfl, rfl, by decide +kernel, rfl, by decide +kernel, by decide +kernel⟩
theorem fd_InvalidLot (T : Hv fa fn csX ysX cvX gtX dfX tfX xsX K mg) : ∃ fd, FunD (gK K).K "__init__" "InvalidLot.__init__" (defArgs s_InvalidLot) (defBody s_InvalidLot) (defScope s_InvalidLot) [] [] (He.ma K (He.ga K "InvalidLot") "__init__") fd := T.def_ 14
theorem xc_InvalidLot (T : Hv fa fn csX ysX cvX gtX dfX tfX xsX K mg) : XcG P w (gK K) mg base 1 "InvalidLot" 14 ["at"] "InvalidLot" := xc1 (k := 0) (T.glo 14) (T.xc 14) rfl (fd_InvalidLot T) sc_InvalidLot (fun _ _ _ _ _ _ us hl => match us, hl with | [_, _], _ => rfl) rfl rfl rfl (.inl rfl) rfl (.inl rfl) (by decide) (by decide) rfl (fun _ => rfl)
theorem sc_OtherThing : FnScope ["self"] ["self"] (defScope s_OtherThing) := ⟨rfl, rfl, rfl, by decide +kernel, rfl, by decide +kernel, by decide +kernel⟩
theorem fd_OtherThing (T : Hv fa fn csX ysX cvX gtX dfX tfX xsX K mg) : ∃ fd, FunD (gK K).K "__init__" "OtherThing.__init__" (defArgs s_OtherThing) (defBody s_OtherThing) (defScope s_OtherThing) [] [] (He.ma K (He.ga K "OtherThing") "__init__") fd := T.def_ 15
theorem xc_OtherThing (T : Hv fa fn csX ysX cvX gtX dfX tfX xsX K mg) : XcG P w (gK K) mg base 1 "OtherThing" 15 [] "OtherThing" := xc0 (k := 0) (T.glo 15) (T.xc 15) rfl (fd_OtherThing T) sc_OtherThing (fun _ _ _ _ _ _ us hl => match us, hl with | [_], _ => rfl) rfl rfl (.inl rfl) rfl
theorem sc_InvalidStep : FnScope ["self"] ["self"] (defScope s_InvalidStep) := ⟨rfl, rfl, rfl, by decide +kernel, rfl, by decide +kernel, by decide +kernel⟩
theorem fd_InvalidStep (T : Hv fa fn csX ysX cvX gtX dfX tfX xsX K mg) : ∃ fd, FunD (gK K).K "__init__" "InvalidStep.__init__" (defArgs s_InvalidStep) (defBody s_InvalidStep) (defScope s_InvalidStep) [] [] (He.ma K (He.ga K "InvalidStep") "__init__") fd := T.def_ 16
theorem xc_InvalidStep (T : Hv fa fn csX ysX cvX gtX dfX tfX xsX K mg) : XcG P w (gK K) mg base 1 "InvalidStep" 16 [] "InvalidStep" := xc0 (k := 0) (T.glo 16) (T.xc 16) rfl (fd_InvalidStep T) sc_InvalidStep (fun _ _ _ _ _ _ us hl => match us, hl with | [_], _ => rfl) rfl rfl (.inl rfl) rfl
theorem sc_NoParting : FnScope ["self"] ["self"] (defScope s_NoParting) := ⟨rfl, rfl, rfl, by decide +kernel, rfl, by decide +kernel, by decide +kernel⟩
theorem fd_NoParting (T : Hv fa fn csX ysX cvX gtX dfX tfX xsX K mg) : ∃ fd, FunD (gK K).K "__init__" "NoParting.__init__" (defArgs s_NoParting) (defBody s_NoParting) (defScope s_NoParting) [] [] (He.ma K (He.ga K "NoParting") "__init__") fd := T.def_ 17
theorem xc_NoParting (T : Hv fa fn csX ysX cvX gtX dfX tfX xsX K mg) : XcG P w (gK K) mg base 1 "NoParting" 17 [] "NoParting" := xc0 (k := 0) (T.glo 17) (T.xc 17) rfl (fd_NoParting T) sc_NoParting (fun _ _ _ _ _ _ us hl => match us, hl with | [_], _ => rfl) rfl rfl (.inl rfl) rfl
theorem sc_NoJoining : FnScope ["self"] ["self"] (defScope s_NoJoining) := ⟨rfl, rfl, rfl, by decide +kernel, rfl, by decide +kernel, by decide +kernel⟩
theorem fd_NoJoining (T : Hv fa fn csX ysX cvX gtX dfX tfX xsX K mg) : ∃ fd, FunD (gK K).K "__init__" "NoJoining.__init__" (defArgs s_NoJoining) (defBody s_NoJoining) (defScope s_NoJoining) [] [] (He.ma K (He.ga K "NoJoining") "__init__") fd := T.def_ 18
theorem xc_NoJoining (T : Hv fa fn csX ysX cvX gtX dfX tfX xsX K mg) : XcG P w (gK K) mg base 1 "NoJoining" 18 [] "NoJoining" := xc0 (k := 0) (T.glo 18) (T.xc 18) rfl (fd_NoJoining T) sc_NoJoining (fun _ _ _ _ _ _ us hl => match us, hl with | [_], _ => rfl) rfl rfl (.inl rfl) rfl
theorem sc_Barred : FnScope ["self", "one", "other"] ["self", "one", "other"] (defScope s_Barred) := ⟨rfl, rfl, rfl, by decide +kernel, rfl, by decide +kernel, by decide +kernel⟩
theorem fd_Barred (T : Hv fa fn csX ysX cvX gtX dfX tfX xsX K mg) : ∃ fd, FunD (gK K).K "__init__" "Barred.__init__" (defArgs s_Barred) (defBody s_Barred) (defScope s_Barred) [] [] (He.ma K (He.ga K "Barred") "__init__") fd := T.def_ 19
theorem xc_Barred (T : Hv fa fn csX ysX cvX gtX dfX tfX xsX K mg) : XcG P w (gK K) mg base 1 "Barred" 19 ["one", "other"] "Barred" := xc2 (k := 0) (T.glo 19) (T.xc 19) rfl (fd_Barred T) sc_Barred (fun _ _ _ _ _ _ us hl => match us, hl with | [_, _, _], _ => rfl) rfl rfl rfl rfl (.inl rfl) rfl (.inl rfl) (by decide) (by decide) rfl (.inl rfl) (by decide) (by decide) rfl (fun _ => rfl) (fun _ => rfl)
theorem sc_Pegged : FnScope ["self", "peg"] ["self", "peg"] (defScope s_Pegged) := ⟨rfl, rfl, rfl, by decide +kernel, rfl, by decide +kernel, by decide +kernel⟩
theorem fd_Pegged (T : Hv fa fn csX ysX cvX gtX dfX tfX xsX K mg) : ∃ fd, FunD (gK K).K "__init__" "Pegged.__init__" (defArgs s_Pegged) (defBody s_Pegged) (defScope s_Pegged) [] [] (He.ma K (He.ga K "Pegged") "__init__") fd := T.def_ 20
theorem xc_Pegged (T : Hv fa fn csX ysX cvX gtX dfX tfX xsX K mg) : XcG P w (gK K) mg base 1 "Pegged" 20 ["peg"] "Pegged" := xc1 (k := 0) (T.glo 20) (T.xc 20) rfl (fd_Pegged T) sc_Pegged (fun _ _ _ _ _ _ us hl => match us, hl with | [_, _], _ => rfl) rfl rfl rfl (.inl rfl) rfl (.inl rfl) (by decide) (by decide) rfl (fun _ => rfl)
theorem sc_NotFast : FnScope ["self", "peg"] ["self", "peg"] (defScope s_NotFast) := ⟨rfl, rfl, rfl, by decide +kernel, rfl, by decide +kernel, by decide +kernel⟩
theorem fd_NotFast (T : Hv fa fn csX ysX cvX gtX dfX tfX xsX K mg) : ∃ fd, FunD (gK K).K "__init__" "NotFast.__init__" (defArgs s_NotFast) (defBody s_NotFast) (defScope s_NotFast) [] [] (He.ma K (He.ga K "NotFast") "__init__") fd := T.def_ 21
theorem xc_NotFast (T : Hv fa fn csX ysX cvX gtX dfX tfX xsX K mg) : XcG P w (gK K) mg base 1 "NotFast" 21 ["peg"] "NotFast" := xc1 (k := 0) (T.glo 21) (T.xc 21) rfl (fd_NotFast T) sc_NotFast (fun _ _ _ _ _ _ us hl => match us, hl with | [_, _], _ => rfl) rfl rfl rfl (.inl rfl) rfl (.inl rfl) (by decide) (by decide) rfl (fun _ => rfl)
theorem sc_Held : FnScope ["self", "peg"] ["self", "peg"] (defScope s_Held) := ⟨rfl, rfl, rfl, by decide +kernel, rfl, by decide +kernel, by decide +kernel⟩
theorem fd_Held (T : Hv fa fn csX ysX cvX gtX dfX tfX xsX K mg) : ∃ fd, FunD (gK K).K "__init__" "Held.__init__" (defArgs s_Held) (defBody s_Held) (defScope s_Held) [] [] (He.ma K (He.ga K "Held") "__init__") fd := T.def_ 22
theorem xc_Held (T : Hv fa fn csX ysX cvX gtX dfX tfX xsX K mg) : XcG P w (gK K) mg base 1 "Held" 22 ["peg"] "Held" := xc1 (k := 0) (T.glo 22) (T.xc 22) rfl (fd_Held T) sc_Held (fun _ _ _ _ _ _ us hl => match us, hl with | [_, _], _ => rfl) rfl rfl rfl (.inl rfl) rfl (.inl rfl) (by decide) (by decide) rfl (fun _ => rfl)
theorem sc_NotStuck : FnScope ["self", "step"] ["self", "step"] (defScope s_NotStuck) := ⟨rfl, rfl, rfl, by decide +kernel, rfl, by decide +kernel, by decide +kernel⟩
theorem fd_NotStuck (T : Hv fa fn csX ysX cvX gtX dfX tfX xsX K mg) : ∃ fd, FunD (gK K).K "__init__" "NotStuck.__init__" (defArgs s_NotStuck) (defBody s_NotStuck) (defScope s_NotStuck) [] [] (He.ma K (He.ga K "NotStuck") "__init__") fd := T.def_ 23
theorem xc_NotStuck (T : Hv fa fn csX ysX cvX gtX dfX tfX xsX K mg) : XcG P w (gK K) mg base 1 "NotStuck" 23 ["step"] "NotStuck" := xc1 (k := 0) (T.glo 23) (T.xc 23) rfl (fd_NotStuck T) sc_NotStuck (fun _ _ _ _ _ _ us hl => match us, hl with | [_, _], _ => rfl) rfl rfl rfl (.inl rfl) rfl (.inl rfl) (by decide) (by decide) rfl (fun _ => rfl)
theorem sc_InvalidRow : FnScope ["self", "at"] ["self", "at"] (defScope s_InvalidRow) := ⟨rfl, rfl, rfl, by decide +kernel, rfl, by decide +kernel, by decide +kernel⟩
theorem fd_InvalidRow (T : Hv fa fn csX ysX cvX gtX dfX tfX xsX K mg) : ∃ fd, FunD (gK K).K "__init__" "InvalidRow.__init__" (defArgs s_InvalidRow) (defBody s_InvalidRow) (defScope s_InvalidRow) [] [] (He.ma K (He.ga K "InvalidRow") "__init__") fd := T.def_ 24
theorem xc_InvalidRow (T : Hv fa fn csX ysX cvX gtX dfX tfX xsX K mg) : XcG P w (gK K) mg base 1 "InvalidRow" 24 ["at"] "InvalidRow" := xc1 (k := 0) (T.glo 24) (T.xc 24) rfl (fd_InvalidRow T) sc_InvalidRow (fun _ _ _ _ _ _ us hl => match us, hl with | [_, _], _ => rfl) rfl rfl rfl (.inl rfl) rfl (.inl rfl) (by decide) (by decide) rfl (fun _ => rfl)
theorem sc_NeverLeaves : FnScope ["self", "name"] ["self", "name"] (defScope s_NeverLeaves) := ⟨rfl, rfl, rfl, by decide +kernel, rfl, by decide +kernel, by decide +kernel⟩
theorem fd_NeverLeaves (T : Hv fa fn csX ysX cvX gtX dfX tfX xsX K mg) : ∃ fd, FunD (gK K).K "__init__" "NeverLeaves.__init__" (defArgs s_NeverLeaves) (defBody s_NeverLeaves) (defScope s_NeverLeaves) [] [] (He.ma K (He.ga K "NeverLeaves") "__init__") fd := T.def_ 25
theorem xc_NeverLeaves (T : Hv fa fn csX ysX cvX gtX dfX tfX xsX K mg) : XcG P w (gK K) mg base 1 "NeverLeaves" 25 ["name"] "NeverLeaves" := xc1 (k := 0) (T.glo 25) (T.xc 25) rfl (fd_NeverLeaves T) sc_NeverLeaves (fun _ _ _ _ _ _ us hl => match us, hl with | [_, _], _ => rfl) rfl rfl rfl (.inl rfl) rfl (.inl rfl) (by decide) (by decide) rfl (fun _ => rfl)
theorem sc_Refused : FnScope ["self", "line", "why"] ["self", "line", "why"] (defScope s_Refused) := ⟨rfl, rfl, rfl, by decide +kernel, rfl, by decide +kernel, by decide +kernel⟩
theorem fd_Refused (T : Hv fa fn csX ysX cvX gtX dfX tfX xsX K mg) : ∃ fd, FunD (gK K).K "__init__" "Refused.__init__" (defArgs s_Refused) (defBody s_Refused) (defScope s_Refused) [] [] (He.ma K (He.ga K "Refused") "__init__") fd := T.def_ 26
theorem xc_Refused (T : Hv fa fn csX ysX cvX gtX dfX tfX xsX K mg) : XcG P w (gK K) mg base 1 "Refused" 26 ["line", "why"] "Refused" := xc2 (k := 0) (T.glo 26) (T.xc 26) rfl (fd_Refused T) sc_Refused (fun _ _ _ _ _ _ us hl => match us, hl with | [_, _, _], _ => rfl) rfl rfl rfl rfl (.inl rfl) rfl (.inl rfl) (by decide) (by decide) rfl (.inl rfl) (by decide) (by decide) rfl (fun _ => rfl) (fun _ => rfl)
theorem sc_InvalidPrices : FnScope ["self"] ["self"] (defScope s_InvalidPrices) := ⟨rfl, rfl, rfl, by decide +kernel, rfl, by decide +kernel, by decide +kernel⟩
theorem fd_InvalidPrices (T : Hv fa fn csX ysX cvX gtX dfX tfX xsX K mg) : ∃ fd, FunD (gK K).K "__init__" "InvalidPrices.__init__" (defArgs s_InvalidPrices) (defBody s_InvalidPrices) (defScope s_InvalidPrices) [] [] (He.ma K (He.ga K "InvalidPrices") "__init__") fd := T.def_ 27
theorem xc_InvalidPrices (T : Hv fa fn csX ysX cvX gtX dfX tfX xsX K mg) : XcG P w (gK K) mg base 1 "InvalidPrices" 27 [] "InvalidPrices" := xc0 (k := 0) (T.glo 27) (T.xc 27) rfl (fd_InvalidPrices T) sc_InvalidPrices (fun _ _ _ _ _ _ us hl => match us, hl with | [_], _ => rfl) rfl rfl (.inl rfl) rfl
theorem sc_InvalidDeed : FnScope ["self", "at"] ["self", "at"] (defScope s_InvalidDeed) := ⟨rfl, rfl, rfl, by decide +kernel, rfl, by decide +kernel, by decide +kernel⟩
theorem fd_InvalidDeed (T : Hv fa fn csX ysX cvX gtX dfX tfX xsX K mg) : ∃ fd, FunD (gK K).K "__init__" "InvalidDeed.__init__" (defArgs s_InvalidDeed) (defBody s_InvalidDeed) (defScope s_InvalidDeed) [] [] (He.ma K (He.ga K "InvalidDeed") "__init__") fd := T.def_ 28
theorem xc_InvalidDeed (T : Hv fa fn csX ysX cvX gtX dfX tfX xsX K mg) : XcG P w (gK K) mg base 1 "InvalidDeed" 28 ["at"] "InvalidDeed" := xc1 (k := 0) (T.glo 28) (T.xc 28) rfl (fd_InvalidDeed T) sc_InvalidDeed (fun _ _ _ _ _ _ us hl => match us, hl with | [_, _], _ => rfl) rfl rfl rfl (.inl rfl) rfl (.inl rfl) (by decide) (by decide) rfl (fun _ => rfl)
theorem sc_UnknownName : FnScope ["self", "name"] ["self", "name"] (defScope s_UnknownName) := ⟨rfl, rfl, rfl, by decide +kernel, rfl, by decide +kernel, by decide +kernel⟩
theorem fd_UnknownName (T : Hv fa fn csX ysX cvX gtX dfX tfX xsX K mg) : ∃ fd, FunD (gK K).K "__init__" "UnknownName.__init__" (defArgs s_UnknownName) (defBody s_UnknownName) (defScope s_UnknownName) [] [] (He.ma K (He.ga K "UnknownName") "__init__") fd := T.def_ 29
theorem xc_UnknownName (T : Hv fa fn csX ysX cvX gtX dfX tfX xsX K mg) : XcG P w (gK K) mg base 1 "UnknownName" 29 ["name"] "UnknownName" := xc1 (k := 0) (T.glo 29) (T.xc 29) rfl (fd_UnknownName T) sc_UnknownName (fun _ _ _ _ _ _ us hl => match us, hl with | [_, _], _ => rfl) rfl rfl rfl (.inl rfl) rfl (.inl rfl) (by decide) (by decide) rfl (fun _ => rfl)
theorem sc_NothingLeft : FnScope ["self"] ["self"] (defScope s_NothingLeft) := ⟨rfl, rfl, rfl, by decide +kernel, rfl, by decide +kernel, by decide +kernel⟩
theorem fd_NothingLeft (T : Hv fa fn csX ysX cvX gtX dfX tfX xsX K mg) : ∃ fd, FunD (gK K).K "__init__" "NothingLeft.__init__" (defArgs s_NothingLeft) (defBody s_NothingLeft) (defScope s_NothingLeft) [] [] (He.ma K (He.ga K "NothingLeft") "__init__") fd := T.def_ 30
theorem xc_NothingLeft (T : Hv fa fn csX ysX cvX gtX dfX tfX xsX K mg) : XcG P w (gK K) mg base 1 "NothingLeft" 30 [] "NothingLeft" := xc0 (k := 0) (T.glo 30) (T.xc 30) rfl (fd_NothingLeft T) sc_NothingLeft (fun _ _ _ _ _ _ us hl => match us, hl with | [_], _ => rfl) rfl rfl (.inl rfl) rfl
theorem sc__law_box : FnScope ["script", "own", "mixed", "cell"] ["script", "own"] (defScope s__law_box) := ⟨rfl, rfl, rfl, by decide +kernel, rfl, by decide +kernel, by decide +kernel⟩
def b__law_box : DS :=
  (sSeq (sAsg (eVar 1) (gN 2))
    (sSeq (sFor (iSeq (eSl vSlc (eVar 0) oNone (oSome (eC (.int 63))))) (gN 3) (sAsg (eBin vMod (eFn vInt (aCons (eBin vAdd (eBin vAdd (eBin vMul (eVar 2) (eC (.int 40503))) (eBin vMod (eFn vInt (aCons (eVar 3) aNil)) (eC (.int 2147483423)))) (eC (.int 11))) aNil)) (eC (.int 2147483587))) (gN 2)))
    (sRet (eLstC (aCons (eLc (iSeq (eSl vSlc (eVar 0) oNone (oSome (eC (.int 63))))) (gN 3) tYes' (eFn vInt (aCons (eVar 3) aNil)) [3]) (aCons (eC (.int 0)) (aCons (eC (.int 0)) (aCons (eVar 2) (aCons (eC (.int 0)) aNil)))))))))
def f__law_box : Fn := runF .cl 2 4 b__law_box
theorem ar__law_box : Ar f__law_box 2 := ar_run
theorem fd__law_box (T : Hv fa fn csX ysX cvX gtX dfX tfX xsX K mg) : ∃ fd, FunD (gK K).K "_law_box" "_law_box" (defArgs s__law_box) (defBody s__law_box) (defScope s__law_box) [] [] (He.ga K "_law_box") fd := T.def_ 31
theorem fb__law_box (T : Hv fa fn csX ysX cvX gtX dfX tfX xsX K mg) (cdv : Value) (A : Around) (outer : List Env) (s : Shared) (H : Hp) (E : XK) (hr : Room 0 (A.deeper (envOfC "_law_box" (defScope s__law_box) s.heap.objs.size (He.ga K "_law_box") cdv))) : GSs (gK K) (WF E) (cxOf (L2.CX P w) P w (gK K).K mg base ["script", "own", "mixed", "cell"] "_law_box" (defScope s__law_box) (He.ga K "_law_box") cdv A outer s H E) (defBody s__law_box) b__law_box := by
  have nd := sc__law_box.nd
  have tk := tk_of (P := P) (w := w) (K := (gK K).K) (mg := mg) (base := base) (N := ["script", "own", "mixed", "cell"]) (qual := "_law_box") (scope := defScope s__law_box) (f := He.ga K "_law_box") (cdv := cdv) (A := A) (outer := outer) (s := s) (H := H) (E := E)
  have hu := hu64 hr
  have hu5 := hu65 hr
  exact (gss_cons (gs_asg (ge_var (pv 1)) (gg_name (pg_name (i := 2) nd rfl (Or.inl rfl))))
    (gss_cons (gs_for po_of rfl (gi_seq ⟨rfl⟩ (ge_slice (slAny ⟨rfl⟩) (ge_var (pv 0)) go_none (go_some (ge_c pe_int)))) (gg_name (pg_name (i := 3) nd rfl (Or.inl rfl))) (gss_one (gs_asg (ge_bin opMod (ge_callTy cInt rfl (T.free 31) (by decide +kernel) (ga_cons (ge_bin (opAdd ⟨rfl⟩) (ge_bin (opAdd ⟨rfl⟩) (ge_bin opMul (ge_var (pv 2)) (ge_c pe_int)) (ge_bin opMod (ge_callTy cInt rfl (T.free 31) (by decide +kernel) (ga_cons (ge_var (pv 3)) ga_nil)) (ge_c pe_int))) (ge_c pe_int)) ga_nil)) (ge_c pe_int)) (gg_name (pg_name (i := 2) nd rfl (Or.inl rfl))))))
    (gss_one (gs_ret (ge_lstC (ga_cons (ge_lc (own := [("cell", 3)]) (N := ["script", "own", "mixed", "cell"]) (sc := defScope s__law_box) rfl nd (gi_seq ⟨rfl⟩ (ge_slice (slAny ⟨rfl⟩) (ge_var (pv 0)) go_none (go_some (ge_c pe_int)))) rfl rfl (by decide +kernel) (fun _ _ _ _ _ => (gg_name (pg_name (i := 3) nd rfl (Or.inl rfl)))) (fun _ _ _ _ _ => gts_nil) (fun _ _ _ _ _ => (ge_callTy cInt rfl (T.free 31) (by decide +kernel) (ga_cons (ge_var (pv 3)) ga_nil)))) (ga_cons (ge_c pe_int) (ga_cons (ge_c pe_int) (ga_cons (ge_var (pv 2)) (ga_cons (ge_c pe_int) ga_nil))))))))))
theorem fg__law_box (T : Hv fa fn csX ysX cvX gtX dfX tfX xsX K mg) : FnG P w (gK K) mg base 1 "_law_box" s__law_box ["script", "own"] [] f__law_box := fg_of (T.glo 32) (fd__law_box T) sc__law_box (fb__law_box T)
theorem sc__law_take : FnScope ["box", "many", "cell", "digit", "step_q"] ["box", "many"] (defScope s__law_take) := ⟨rfl, rfl, rfl, by decide +kernel, rfl, by decide +kernel, by decide +kernel⟩
def b__law_take : DS :=
  (sSeq (sIf (tAnd' (tB' (eBin vEq (eBin vIx (eVar 0) (eC (.int 2))) (eC (.int 0)))) (tB' (eBin vLt (eBin vIx (eVar 0) (eC (.int 1))) (eFn vLen (aCons (eBin vIx (eVar 0) (eC (.int 0))) aNil))))) (sSeq (sAsg (eBin vIx (eBin vIx (eVar 0) (eC (.int 0))) (eBin vIx (eVar 0) (eC (.int 1)))) (gN 2))
    (sSeq (sSetIx (eBin vAdd (eBin vIx (eVar 0) (eC (.int 1))) (eC (.int 1))) (eVar 0) (eC (.int 1)))
    (sSeq (sSetIx (eBin vMod (eFn vInt (aCons (eBin vAdd (eBin vAdd (eBin vMul (eBin vIx (eVar 0) (eC (.int 3))) (eC (.int 48271))) (eBin vMul (eBin vMod (eFn vInt (aCons (eVar 2) aNil)) (eC (.int 2147483399))) (eC (.int 7)))) (eC (.int 13))) aNil)) (eC (.int 2147483587))) (eVar 0) (eC (.int 3)))
    (sIf (tB' (eBin vGe (eFn vAbs (aCons (eVar 2) aNil)) (eBin vPow (eC (.int 10)) (eC (.int 18))))) (sSetIx (eFn vAbs (aCons (eVar 2) aNil)) (eVar 0) (eC (.int 2))) sNop)))) sNop)
    (sSeq (sIf (tB' (eBin vGt (eBin vIx (eVar 0) (eC (.int 2))) (eC (.int 0)))) (sSeq (sAsg (eBin vMod (eFn vInt (aCons (eBin vIx (eVar 0) (eC (.int 2))) aNil)) (eVar 1)) (gN 3))
    (sSeq (sSetIx (eBin vDiv (eFn vInt (aCons (eBin vIx (eVar 0) (eC (.int 2))) aNil)) (eVar 1)) (eVar 0) (eC (.int 2)))
    (sRet (eVar 3)))) sNop)
    (sSeq (sSetIx (eBin vAdd (eBin vIx (eVar 0) (eC (.int 4))) (eC (.int 1))) (eVar 0) (eC (.int 4)))
    (sSeq (sAsg (eBin vMod (eFn vInt (aCons (eBin vAdd (eBin vIx (eVar 0) (eC (.int 3))) (eBin vMul (eBin vIx (eVar 0) (eC (.int 4))) (eC (.int 6007)))) aNil)) (eC (.int 2147483587))) (gN 4))
    (sSeq (sSetIx (eBin vMod (eFn vInt (aCons (eBin vAdd (eBin vAdd (eBin vPow (eVar 4) (eC (.int 3))) (eBin vMul (eC (.int 30011)) (eVar 4))) (eC (.int 977))) aNil)) (eC (.int 2147483587))) (eVar 0) (eC (.int 3)))
    (sRet (eBin vMod (eFn vInt (aCons (eBin vAdd (eBin vDiv (eBin vIx (eVar 0) (eC (.int 3))) (eC (.int 59))) (eBin vMul (eBin vMod (eFn vInt (aCons (eBin vIx (eVar 0) (eC (.int 3))) aNil)) (eC (.int 7919))) (eC (.int 37)))) aNil)) (eVar 1))))))))
def f__law_take : Fn := runF .fz 2 5 b__law_take
theorem ar__law_take : Ar f__law_take 2 := ar_run
theorem fd__law_take (T : Hv fa fn csX ysX cvX gtX dfX tfX xsX K mg) : ∃ fd, FunD (gK K).K "_law_take" "_law_take" (defArgs s__law_take) (defBody s__law_take) (defScope s__law_take) [] [] (He.ga K "_law_take") fd := T.def_ 32
theorem fb__law_take (T : Hv fa fn csX ysX cvX gtX dfX tfX xsX K mg) (cdv : Value) (A : Around) (outer : List Env) (s : Shared) (H : Hp) (E : XK) (hr : Room 0 (A.deeper (envOfC "_law_take" (defScope s__law_take) s.heap.objs.size (He.ga K "_law_take") cdv))) : GSs (gK K) (WF E) (cxOf (L2.CX P w) P w (gK K).K mg base ["box", "many", "cell", "digit", "step_q"] "_law_take" (defScope s__law_take) (He.ga K "_law_take") cdv A outer s H E) (defBody s__law_take) b__law_take := by
  have nd := sc__law_take.nd
  have tk := tk_of (P := P) (w := w) (K := (gK K).K) (mg := mg) (base := base) (N := ["box", "many", "cell", "digit", "step_q"]) (qual := "_law_take") (scope := defScope s__law_take) (f := He.ga K "_law_take") (cdv := cdv) (A := A) (outer := outer) (s := s) (H := H) (E := E)
  have hu := hu64 hr
  have hu5 := hu65 hr
  exact (gss_cons (gs_if (PW.pt (gw_and (gt_cmp (opEq ⟨rfl⟩ hu) (ge_ix (ixAny ⟨rfl⟩) (ge_var (pv 0)) (ge_c pe_int)) (ge_c pe_int) (nomark _)) (gw_and1 (gt_cmp opLt (ge_ix (ixAny ⟨rfl⟩) (ge_var (pv 0)) (ge_c pe_int)) (ge_callB (cLen ⟨rfl⟩) rfl (T.free 33) (by decide +kernel) (ga_cons (ge_ix (ixAny ⟨rfl⟩) (ge_var (pv 0)) (ge_c pe_int)) ga_nil)) (nomark _))))) (gss_cons (gs_asg (ge_ix (ixAny ⟨rfl⟩) (ge_ix (ixAny ⟨rfl⟩) (ge_var (pv 0)) (ge_c pe_int)) (ge_ix (ixAny ⟨rfl⟩) (ge_var (pv 0)) (ge_c pe_int))) (gg_name (pg_name (i := 2) nd rfl (Or.inl rfl))))
    (gss_cons (gs_setIx (ge_bin (opAdd ⟨rfl⟩) (ge_ix (ixAny ⟨rfl⟩) (ge_var (pv 0)) (ge_c pe_int)) (ge_c pe_int)) (ge_var (pv 0)) (ge_c pe_int))
    (gss_cons (gs_setIx (ge_bin opMod (ge_callTy cInt rfl (T.free 31) (by decide +kernel) (ga_cons (ge_bin (opAdd ⟨rfl⟩) (ge_bin (opAdd ⟨rfl⟩) (ge_bin opMul (ge_ix (ixAny ⟨rfl⟩) (ge_var (pv 0)) (ge_c pe_int)) (ge_c pe_int)) (ge_bin opMul (ge_bin opMod (ge_callTy cInt rfl (T.free 31) (by decide +kernel) (ga_cons (ge_var (pv 2)) ga_nil)) (ge_c pe_int)) (ge_c pe_int))) (ge_c pe_int)) ga_nil)) (ge_c pe_int)) (ge_var (pv 0)) (ge_c pe_int))
    (gss_one (gs_if (gt_cmp opGe (ge_callB cAbs rfl (T.free 34) (by decide +kernel) (ga_cons (ge_var (pv 2)) ga_nil)) (ge_bin opPow (ge_c pe_int) (ge_c pe_int)) (nomark _)) (gss_one (gs_setIx (ge_callB cAbs rfl (T.free 34) (by decide +kernel) (ga_cons (ge_var (pv 2)) ga_nil)) (ge_var (pv 0)) (ge_c pe_int))) gss_nil))))) gss_nil)
    (gss_cons (gs_if (gt_cmp opGt (ge_ix (ixAny ⟨rfl⟩) (ge_var (pv 0)) (ge_c pe_int)) (ge_c pe_int) (nomark _)) (gss_cons (gs_asg (ge_bin opMod (ge_callTy cInt rfl (T.free 31) (by decide +kernel) (ga_cons (ge_ix (ixAny ⟨rfl⟩) (ge_var (pv 0)) (ge_c pe_int)) ga_nil)) (ge_var (pv 1))) (gg_name (pg_name (i := 3) nd rfl (Or.inl rfl))))
    (gss_cons (gs_setIx (ge_bin opDiv (ge_callTy cInt rfl (T.free 31) (by decide +kernel) (ga_cons (ge_ix (ixAny ⟨rfl⟩) (ge_var (pv 0)) (ge_c pe_int)) ga_nil)) (ge_var (pv 1))) (ge_var (pv 0)) (ge_c pe_int))
    (gss_one (gs_ret (ge_var (pv 3)))))) gss_nil)
    (gss_cons (gs_setIx (ge_bin (opAdd ⟨rfl⟩) (ge_ix (ixAny ⟨rfl⟩) (ge_var (pv 0)) (ge_c pe_int)) (ge_c pe_int)) (ge_var (pv 0)) (ge_c pe_int))
    (gss_cons (gs_asg (ge_bin opMod (ge_callTy cInt rfl (T.free 31) (by decide +kernel) (ga_cons (ge_bin (opAdd ⟨rfl⟩) (ge_ix (ixAny ⟨rfl⟩) (ge_var (pv 0)) (ge_c pe_int)) (ge_bin opMul (ge_ix (ixAny ⟨rfl⟩) (ge_var (pv 0)) (ge_c pe_int)) (ge_c pe_int))) ga_nil)) (ge_c pe_int)) (gg_name (pg_name (i := 4) nd rfl (Or.inl rfl))))
    (gss_cons (gs_setIx (ge_bin opMod (ge_callTy cInt rfl (T.free 31) (by decide +kernel) (ga_cons (ge_bin (opAdd ⟨rfl⟩) (ge_bin (opAdd ⟨rfl⟩) (ge_bin opPow (ge_var (pv 4)) (ge_c pe_int)) (ge_bin opMul (ge_c pe_int) (ge_var (pv 4)))) (ge_c pe_int)) ga_nil)) (ge_c pe_int)) (ge_var (pv 0)) (ge_c pe_int))
    (gss_one (gs_ret (ge_bin opMod (ge_callTy cInt rfl (T.free 31) (by decide +kernel) (ga_cons (ge_bin (opAdd ⟨rfl⟩) (ge_bin opDiv (ge_ix (ixAny ⟨rfl⟩) (ge_var (pv 0)) (ge_c pe_int)) (ge_c pe_int)) (ge_bin opMul (ge_bin opMod (ge_callTy cInt rfl (T.free 31) (by decide +kernel) (ga_cons (ge_ix (ixAny ⟨rfl⟩) (ge_var (pv 0)) (ge_c pe_int)) ga_nil)) (ge_c pe_int)) (ge_c pe_int))) ga_nil)) (ge_var (pv 1))))))))))
theorem fg__law_take (T : Hv fa fn csX ysX cvX gtX dfX tfX xsX K mg) : FnG P w (gK K) mg base 1 "_law_take" s__law_take ["box", "many"] [] f__law_take := fg_of (T.glo 35) (fd__law_take T) sc__law_take (fb__law_take T)
theorem sc__law_pick : FnScope ["box", "some"] ["box", "some"] (defScope s__law_pick) := ⟨rfl, rfl, rfl, by decide +kernel, rfl, by decide +kernel, by decide +kernel⟩
def b__law_pick : DS :=
  (sRet (eBin vIx (eVar 1) (eCall f__law_take (aCons (eVar 0) (aCons (eFn vLen (aCons (eVar 1) aNil)) aNil)))))
def f__law_pick : Fn := runF .fz 2 2 b__law_pick
theorem ar__law_pick : Ar f__law_pick 2 := ar_run
theorem fd__law_pick (T : Hv fa fn csX ysX cvX gtX dfX tfX xsX K mg) : ∃ fd, FunD (gK K).K "_law_pick" "_law_pick" (defArgs s__law_pick) (defBody s__law_pick) (defScope s__law_pick) [] [] (He.ga K "_law_pick") fd := T.def_ 33
theorem fb__law_pick (T : Hv fa fn csX ysX cvX gtX dfX tfX xsX K mg) (cdv : Value) (A : Around) (outer : List Env) (s : Shared) (H : Hp) (E : XK) (hr : Room 1 (A.deeper (envOfC "_law_pick" (defScope s__law_pick) s.heap.objs.size (He.ga K "_law_pick") cdv))) : GSs (gK K) (WF E) (cxOf (L2.CX P w) P w (gK K).K mg base ["box", "some"] "_law_pick" (defScope s__law_pick) (He.ga K "_law_pick") cdv A outer s H E) (defBody s__law_pick) b__law_pick := by
  have nd := sc__law_pick.nd
  have tk := tk_of (P := P) (w := w) (K := (gK K).K) (mg := mg) (base := base) (N := ["box", "some"]) (qual := "_law_pick") (scope := defScope s__law_pick) (f := He.ga K "_law_pick") (cdv := cdv) (A := A) (outer := outer) (s := s) (H := H) (E := E)
  have hu := hu64 hr
  have hu5 := hu65 hr
  exact (gss_one (gs_ret (ge_ix (ixAny ⟨rfl⟩) (ge_var (pv 1)) (ge_call (fg__law_take T) rfl ar__law_take (hr.mono (by decide)) rfl tk (ga_cons (ge_var (pv 0)) (ga_cons (ge_callB (cLen ⟨rfl⟩) rfl (T.free 33) (by decide +kernel) (ga_cons (ge_var (pv 1)) ga_nil)) ga_nil)) rfl (fun _ _ _ _ _ _ us hl => match us, hl with | [_, _], _ => rfl)))))
theorem fg__law_pick (T : Hv fa fn csX ysX cvX gtX dfX tfX xsX K mg) : FnG P w (gK K) mg base 2 "_law_pick" s__law_pick ["box", "some"] [] f__law_pick := fg_of (T.glo 36) (fd__law_pick T) sc__law_pick (fb__law_pick T)
theorem sc__law_same : FnScope ["found", "due", "kinds", "k", "x"] ["found", "due"] (defScope s__law_same) := ⟨rfl, rfl, rfl, by decide +kernel, rfl, by decide +kernel, by decide +kernel⟩
def b__law_same (F : Fn) : DS :=
  (sSeq (sIf (tB' (eFn vIsi (aCons (eVar 1) (aCons (eTup (aCons (eC (.ty .lst)) (aCons (eC (.ty .tup)) aNil))) aNil)))) (sSeq (sIf (tOr' (tB' (eBin vNe (eFn vIsi (aCons (eVar 0) (aCons (eC (.ty .lst)) aNil))) (eFn vIsi (aCons (eVar 1) (aCons (eC (.ty .lst)) aNil))))) (tB' (eBin vNe (eFn vIsi (aCons (eVar 0) (aCons (eC (.ty .tup)) aNil))) (eFn vIsi (aCons (eVar 1) (aCons (eC (.ty .tup)) aNil)))))) (sRet (eC (.bl false))) sNop)
    (sRet (eAnd (eBin vEq (eFn vLen (aCons (eVar 0) aNil)) (eFn vLen (aCons (eVar 1) aNil))) (eFn vAll (aCons (eLc (iRng1' (aCons (eFn vLen (aCons (eVar 1) aNil)) aNil)) (gN 3) tYes' (eCall F (aCons (eBin vIx (eVar 0) (eVar 3)) (aCons (eBin vIx (eVar 1) (eVar 3)) aNil))) [3]) aNil))))) sNop)
    (sSeq (sAsg (eLc (iSeq (eTup (aCons (eVar 0) (aCons (eVar 1) aNil)))) (gN 4) tYes' (eLst (aCons (eFn vIsi (aCons (eVar 4) (aCons (eC (.ty .bl)) aNil))) (aCons (eFn vIsi (aCons (eVar 4) (aCons (eC (.ty .int)) aNil))) (aCons (eFn vIsi (aCons (eVar 4) (aCons (eC (.ty .str)) aNil))) (aCons (eFn vIsi (aCons (eVar 4) (aCons (eC (.ty .dct)) aNil))) (aCons (eBin vIs (eVar 4) (eC .non)) aNil)))))) [4]) (gN 2))
    (sRet (eAnd (eBin vEq (eBin vIx (eVar 2) (eC (.int 0))) (eBin vIx (eVar 2) (eC (.int 1)))) (eAnd (eNot (eFn vIsi (aCons (eVar 0) (aCons (eTup (aCons (eC (.ty .lst)) (aCons (eC (.ty .tup)) aNil))) aNil)))) (eBin vEq (eVar 0) (eVar 1)))))))
def f__law_same : Nat → Fn
  | 0 => fun _ _ => .stuck
  | k + 1 => runF .fz 2 5 (b__law_same (f__law_same k))
theorem ar__law_same : ∀ k, Ar (f__law_same k) 2
  | 0 => ar_stuck
  | _ + 1 => ar_run
theorem fd__law_same (T : Hv fa fn csX ysX cvX gtX dfX tfX xsX K mg) : ∃ fd, FunD (gK K).K "_law_same" "_law_same" (defArgs s__law_same) (defBody s__law_same) (defScope s__law_same) [] [] (He.ga K "_law_same") fd := T.def_ 34
theorem fg__law_same (T : Hv fa fn csX ysX cvX gtX dfX tfX xsX K mg) : ∀ k : Nat, FnG P w (gK K) mg base (0 + k) "_law_same" s__law_same ["found", "due"] [] (f__law_same k)
  | 0 => fg_stuck (T.glo 45) (fd__law_same T)
  | k + 1 => by
    have FG : FnG P w (gK K) mg base (0 + k) "_law_same" s__law_same ["found", "due"] [] (f__law_same k) := fg__law_same T k
    have AR := ar__law_same k
    refine fg_of (T.glo 45) (fd__law_same T) sc__law_same (fun cdv A outer s H E hr => ?_)
    have nd := sc__law_same.nd
    have tk := tk_of (P := P) (w := w) (K := (gK K).K) (mg := mg) (base := base) (N := ["found", "due", "kinds", "k", "x"]) (qual := "_law_same") (scope := defScope s__law_same) (f := He.ga K "_law_same") (cdv := cdv) (A := A) (outer := outer) (s := s) (H := H) (E := E)
    have hu := hu64 hr
    have hu5 := hu65 hr
    exact (gss_cons (gs_if (gt_val (ge_callB (cIsi ⟨rfl⟩) rfl (T.free 39) (by decide +kernel) (ga_cons (ge_var (pv 1)) (ga_cons (ge_tup (ga_cons (ge_ty .lst (T.free 37) rfl (by decide +kernel)) (ga_cons (ge_ty .tup (T.free 38) rfl (by decide +kernel)) ga_nil))) ga_nil)))) (gss_cons (gs_if (PW.pt (gw_or (gt_cmp (opNe ⟨rfl⟩ hu) (ge_callB (cIsi ⟨rfl⟩) rfl (T.free 39) (by decide +kernel) (ga_cons (ge_var (pv 0)) (ga_cons (ge_ty .lst (T.free 37) rfl (by decide +kernel)) ga_nil))) (ge_callB (cIsi ⟨rfl⟩) rfl (T.free 39) (by decide +kernel) (ga_cons (ge_var (pv 1)) (ga_cons (ge_ty .lst (T.free 37) rfl (by decide +kernel)) ga_nil))) (nomark _)) (gw_or1 (gt_cmp (opNe ⟨rfl⟩ hu) (ge_callB (cIsi ⟨rfl⟩) rfl (T.free 39) (by decide +kernel) (ga_cons (ge_var (pv 0)) (ga_cons (ge_ty .tup (T.free 38) rfl (by decide +kernel)) ga_nil))) (ge_callB (cIsi ⟨rfl⟩) rfl (T.free 39) (by decide +kernel) (ga_cons (ge_var (pv 1)) (ga_cons (ge_ty .tup (T.free 38) rfl (by decide +kernel)) ga_nil))) (nomark _))))) (gss_one (gs_ret (ge_c pe_bl))) gss_nil)
    (gss_one (gs_ret (ge_and (ge_cmp (opEq ⟨rfl⟩ hu) (ge_callB (cLen ⟨rfl⟩) rfl (T.free 33) (by decide +kernel) (ga_cons (ge_var (pv 0)) ga_nil)) (ge_callB (cLen ⟨rfl⟩) rfl (T.free 33) (by decide +kernel) (ga_cons (ge_var (pv 1)) ga_nil)) (nomark _)) (ge_one (ge_callB (cAll ⟨rfl⟩ rfl) rfl (T.free 41) (by decide +kernel) (ga_cons (ge_lc (own := [("k", 3)]) (N := ["found", "due", "kinds", "k", "x"]) (sc := defScope s__law_same) rfl nd (gi_rng1 rfl (T.free 40) (ga_cons (ge_callB (cLen ⟨rfl⟩) rfl (T.free 33) (by decide +kernel) (ga_cons (ge_var (pv 1)) ga_nil)) ga_nil)) rfl rfl (by decide +kernel) (fun _ _ _ _ _ => (gg_name (pg_name (i := 3) nd rfl (Or.inl rfl)))) (fun _ _ _ _ _ => gts_nil) (fun _ _ _ _ _ => (ge_call FG rfl AR hr rfl takes0 (ga_cons (ge_ix (ixAny ⟨rfl⟩) (ge_var (pv 0)) (ge_var (pv 3))) (ga_cons (ge_ix (ixAny ⟨rfl⟩) (ge_var (pv 1)) (ge_var (pv 3))) ga_nil)) rfl (fun _ _ _ _ _ _ us hl => match us, hl with | [_, _], _ => rfl)))) ga_nil))))))) gss_nil)
    (gss_cons (gs_setLc (own := [("x", 4)]) (N := ["found", "due", "kinds", "k", "x"]) (sc := defScope s__law_same) (i := 2) rfl nd rfl rfl (sw_true rfl rfl rfl (by decide +kernel)) (gi_seq ⟨rfl⟩ (ge_tup (ga_cons (ge_var (pv 0)) (ga_cons (ge_var (pv 1)) ga_nil)))) rfl rfl (by decide +kernel) (fun _ _ _ _ _ => (gg_name (pg_name (i := 4) nd rfl (Or.inl rfl)))) (fun _ _ _ _ _ => gts_nil) (fun _ _ _ _ _ => (ge_lst (ga_cons (ge_callB (cIsi ⟨rfl⟩) rfl (T.free 39) (by decide +kernel) (ga_cons (ge_var (pv 4)) (ga_cons (ge_ty .bl (T.free 42) rfl (by decide +kernel)) ga_nil))) (ga_cons (ge_callB (cIsi ⟨rfl⟩) rfl (T.free 39) (by decide +kernel) (ga_cons (ge_var (pv 4)) (ga_cons (ge_ty .int (T.free 31) rfl (by decide +kernel)) ga_nil))) (ga_cons (ge_callB (cIsi ⟨rfl⟩) rfl (T.free 39) (by decide +kernel) (ga_cons (ge_var (pv 4)) (ga_cons (ge_ty .str (T.free 43) rfl (by decide +kernel)) ga_nil))) (ga_cons (ge_callB (cIsi ⟨rfl⟩) rfl (T.free 39) (by decide +kernel) (ga_cons (ge_var (pv 4)) (ga_cons (ge_ty .dct (T.free 44) rfl (by decide +kernel)) ga_nil))) (ga_cons (ge_cmp opIs (ge_var (pv 4)) (ge_c pe_non) (nomark _)) ga_nil))))))))
    (gss_one (gs_ret (ge_and (ge_cmp (opEq ⟨rfl⟩ hu) (ge_ix (ixAny ⟨rfl⟩) (ge_var (pv 2)) (ge_c pe_int)) (ge_ix (ixAny ⟨rfl⟩) (ge_var (pv 2)) (ge_c pe_int)) (nomark _)) (ge_and (ge_not (ge_callB (cIsi ⟨rfl⟩) rfl (T.free 39) (by decide +kernel) (ga_cons (ge_var (pv 0)) (ga_cons (ge_tup (ga_cons (ge_ty .lst (T.free 37) rfl (by decide +kernel)) (ga_cons (ge_ty .tup (T.free 38) rfl (by decide +kernel)) ga_nil))) ga_nil)))) (ge_one (ge_cmp (opEq ⟨rfl⟩ hu) (ge_var (pv 0)) (ge_var (pv 1)) (nomark _)))))))))
theorem sc__law_letters : FnScope [] [] (defScope s__law_letters) := ⟨rfl, rfl, rfl, by decide +kernel, rfl, by decide +kernel, by decide +kernel⟩
def b__law_letters : DS :=
  (sRet (eC (.str "abcdefghijklmnopqrstuvwxyz")))
def f__law_letters : Fn := runF .fz 0 0 b__law_letters
theorem ar__law_letters : Ar f__law_letters 0 := ar_run
theorem fd__law_letters (T : Hv fa fn csX ysX cvX gtX dfX tfX xsX K mg) : ∃ fd, FunD (gK K).K "_law_letters" "_law_letters" (defArgs s__law_letters) (defBody s__law_letters) (defScope s__law_letters) [] [] (He.ga K "_law_letters") fd := T.def_ 35
theorem fb__law_letters (T : Hv fa fn csX ysX cvX gtX dfX tfX xsX K mg) (cdv : Value) (A : Around) (outer : List Env) (s : Shared) (H : Hp) (E : XK) (hr : Room 0 (A.deeper (envOfC "_law_letters" (defScope s__law_letters) s.heap.objs.size (He.ga K "_law_letters") cdv))) : GSs (gK K) (WF E) (cxOf (L2.CX P w) P w (gK K).K mg base [] "_law_letters" (defScope s__law_letters) (He.ga K "_law_letters") cdv A outer s H E) (defBody s__law_letters) b__law_letters := by
  have nd := sc__law_letters.nd
  have tk := tk_of (P := P) (w := w) (K := (gK K).K) (mg := mg) (base := base) (N := []) (qual := "_law_letters") (scope := defScope s__law_letters) (f := He.ga K "_law_letters") (cdv := cdv) (A := A) (outer := outer) (s := s) (H := H) (E := E)
  have hu := hu64 hr
  have hu5 := hu65 hr
  exact (gss_one (gs_ret (ge_c pe_str)))
theorem fg__law_letters (T : Hv fa fn csX ysX cvX gtX dfX tfX xsX K mg) : FnG P w (gK K) mg base 1 "_law_letters" s__law_letters [] [] f__law_letters := fg_of (T.glo 46) (fd__law_letters T) sc__law_letters (fb__law_letters T)
theorem sc__law_word : FnScope ["box", "most_q", "k"] ["box", "most_q"] (defScope s__law_word) := ⟨rfl, rfl, rfl, by decide +kernel, rfl, by decide +kernel, by decide +kernel⟩
def b__law_word : DS :=
  (sRet (eBm "str" mJoin (eC (.str "")) (aCons (eLc (iRng1' (aCons (eBin vAdd (eC (.int 1)) (eCall f__law_take (aCons (eVar 0) (aCons (eVar 1) aNil)))) aNil)) (gN 2) tYes' (eBin vIx (eCall f__law_letters aNil) (eCall f__law_take (aCons (eVar 0) (aCons (eC (.int 26)) aNil)))) [2]) aNil)))
def f__law_word : Fn := runF .fz 2 3 b__law_word
theorem ar__law_word : Ar f__law_word 2 := ar_run
theorem fd__law_word (T : Hv fa fn csX ysX cvX gtX dfX tfX xsX K mg) : ∃ fd, FunD (gK K).K "_law_word" "_law_word" (defArgs s__law_word) (defBody s__law_word) (defScope s__law_word) [] [] (He.ga K "_law_word") fd := T.def_ 36
theorem fb__law_word (T : Hv fa fn csX ysX cvX gtX dfX tfX xsX K mg) (cdv : Value) (A : Around) (outer : List Env) (s : Shared) (H : Hp) (E : XK) (hr : Room 1 (A.deeper (envOfC "_law_word" (defScope s__law_word) s.heap.objs.size (He.ga K "_law_word") cdv))) : GSs (gK K) (WF E) (cxOf (L2.CX P w) P w (gK K).K mg base ["box", "most_q", "k"] "_law_word" (defScope s__law_word) (He.ga K "_law_word") cdv A outer s H E) (defBody s__law_word) b__law_word := by
  have nd := sc__law_word.nd
  have tk := tk_of (P := P) (w := w) (K := (gK K).K) (mg := mg) (base := base) (N := ["box", "most_q", "k"]) (qual := "_law_word") (scope := defScope s__law_word) (f := He.ga K "_law_word") (cdv := cdv) (A := A) (outer := outer) (s := s) (H := H) (E := E)
  have hu := hu64 hr
  have hu5 := hu65 hr
  exact (gss_one (gs_ret (ge_bm (name' := "") ⟨rfl⟩ PySem.F.plainAttrs_str PySem.F.slot_str_join PySem.F.type_str_join (mtJoin ⟨rfl⟩) (ge_c pe_str) (ga_cons (ge_lc (own := [("k", 2)]) (N := ["box", "most_q", "k"]) (sc := defScope s__law_word) rfl nd (gi_rng1 rfl (T.free 40) (ga_cons (ge_bin (opAdd ⟨rfl⟩) (ge_c pe_int) (ge_call (fg__law_take T) rfl ar__law_take (hr.mono (by decide)) rfl tk (ga_cons (ge_var (pv 0)) (ga_cons (ge_var (pv 1)) ga_nil)) rfl (fun _ _ _ _ _ _ us hl => match us, hl with | [_, _], _ => rfl))) ga_nil)) rfl rfl (by decide +kernel) (fun _ _ _ _ _ => (gg_name (pg_name (i := 2) nd rfl (Or.inl rfl)))) (fun _ _ _ _ _ => gts_nil) (fun _ _ _ _ _ => (ge_ix (ixAny ⟨rfl⟩) (ge_call0 (fg__law_letters T) rfl ar__law_letters (hr.mono (by decide)) rfl takes0 rfl (fun _ _ _ _ _ _ us hl => match us, hl with | [], _ => rfl)) (ge_call (fg__law_take T) rfl ar__law_take (hr.mono (by decide)) rfl takes0 (ga_cons (ge_var (pv 0)) (ga_cons (ge_c pe_int) ga_nil)) rfl (fun _ _ _ _ _ _ us hl => match us, hl with | [_, _], _ => rfl))))) ga_nil))))
theorem fg__law_word (T : Hv fa fn csX ysX cvX gtX dfX tfX xsX K mg) : FnG P w (gK K) mg base 2 "_law_word" s__law_word ["box", "most_q"] [] f__law_word := fg_of (T.glo 47) (fd__law_word T) sc__law_word (fb__law_word T)
theorem sc__law_odd : FnScope ["box"] ["box"] (defScope s__law_odd) := ⟨rfl, rfl, rfl, by decide +kernel, rfl, by decide +kernel, by decide +kernel⟩
def b__law_odd : DS :=
  (sRet (eCall f__law_pick (aCons (eVar 0) (aCons (eLst (aCons (eC .non) (aCons (eC (.bl true)) (aCons (eC (.bl false)) (aCons (eC (.int 0)) (aCons (eUn vNeg (eC (.int 1))) (aCons (eC (.int 5)) (aCons (eC (.str "")) (aCons (eC (.str "A")) (aCons (eC (.str "ab1")) (aCons (eC (.str "abcdefg")) (aCons (eC (.str "a b")) (aCons (eC (.str "a\n")) (aCons (eTup aNil) (aCons (eLst aNil) (aCons eDct0 (aCons (eTup (aCons (eC (.str "a")) aNil)) (aCons (eLst (aCons (eC (.str "a")) aNil)) (aCons (eDct [((eC (.str "a")), (eC (.int 1)))]) (aCons (eTup (aCons (eC (.int 1)) (aCons (eC (.int 2)) aNil))) (aCons (eLst (aCons (eC (.int 0)) aNil)) (aCons (eTup (aCons (eC .non) aNil)) (aCons (eTup (aCons (eTup (aCons (eC (.int 0)) (aCons (eC (.int 0)) aNil))) (aCons (eTup (aCons (eC (.int 1)) (aCons (eC (.int 0)) aNil))) aNil))) aNil))))))))))))))))))))))) aNil))))
def f__law_odd : Fn := runF .fz 1 1 b__law_odd
theorem ar__law_odd : Ar f__law_odd 1 := ar_run
theorem fd__law_odd (T : Hv fa fn csX ysX cvX gtX dfX tfX xsX K mg) : ∃ fd, FunD (gK K).K "_law_odd" "_law_odd" (defArgs s__law_odd) (defBody s__law_odd) (defScope s__law_odd) [] [] (He.ga K "_law_odd") fd := T.def_ 37
theorem fb__law_odd (T : Hv fa fn csX ysX cvX gtX dfX tfX xsX K mg) (cdv : Value) (A : Around) (outer : List Env) (s : Shared) (H : Hp) (E : XK) (hr : Room 2 (A.deeper (envOfC "_law_odd" (defScope s__law_odd) s.heap.objs.size (He.ga K "_law_odd") cdv))) : GSs (gK K) (WF E) (cxOf (L2.CX P w) P w (gK K).K mg base ["box"] "_law_odd" (defScope s__law_odd) (He.ga K "_law_odd") cdv A outer s H E) (defBody s__law_odd) b__law_odd := by
  have nd := sc__law_odd.nd
  have tk := tk_of (P := P) (w := w) (K := (gK K).K) (mg := mg) (base := base) (N := ["box"]) (qual := "_law_odd") (scope := defScope s__law_odd) (f := He.ga K "_law_odd") (cdv := cdv) (A := A) (outer := outer) (s := s) (H := H) (E := E)
  have hu := hu64 hr
  have hu5 := hu65 hr
  exact (gss_one (gs_ret (ge_call (fg__law_pick T) rfl ar__law_pick (hr.mono (by decide)) rfl tk (ga_cons (ge_var (pv 0)) (ga_cons (ge_lst (ga_cons (ge_c pe_non) (ga_cons (ge_c pe_bl) (ga_cons (ge_c pe_bl) (ga_cons (ge_c pe_int) (ga_cons (ge_un unNeg (ge_c pe_int)) (ga_cons (ge_c pe_int) (ga_cons (ge_c pe_str) (ga_cons (ge_c pe_str) (ga_cons (ge_c pe_str) (ga_cons (ge_c pe_str) (ga_cons (ge_c pe_str) (ga_cons (ge_c pe_str) (ga_cons (ge_tup ga_nil) (ga_cons (ge_lst ga_nil) (ga_cons ge_dct0 (ga_cons (ge_tup (ga_cons (ge_c pe_str) ga_nil)) (ga_cons (ge_lst (ga_cons (ge_c pe_str) ga_nil)) (ga_cons (ge_dct (gps_cons (ge_c pe_str) (ge_c pe_int) gps_nil) (by simp) (by decide)) (ga_cons (ge_tup (ga_cons (ge_c pe_int) (ga_cons (ge_c pe_int) ga_nil))) (ga_cons (ge_lst (ga_cons (ge_c pe_int) ga_nil)) (ga_cons (ge_tup (ga_cons (ge_c pe_non) ga_nil)) (ga_cons (ge_tup (ga_cons (ge_tup (ga_cons (ge_c pe_int) (ga_cons (ge_c pe_int) ga_nil))) (ga_cons (ge_tup (ga_cons (ge_c pe_int) (ga_cons (ge_c pe_int) ga_nil))) ga_nil))) ga_nil))))))))))))))))))))))) ga_nil)) rfl (fun _ _ _ _ _ _ us hl => match us, hl with | [_, _], _ => rfl))))
theorem fg__law_odd (T : Hv fa fn csX ysX cvX gtX dfX tfX xsX K mg) : FnG P w (gK K) mg base 3 "_law_odd" s__law_odd ["box"] [] f__law_odd := fg_of (T.glo 48) (fd__law_odd T) sc__law_odd (fb__law_odd T)
theorem sc__law_fields : FnScope ["e"] ["e"] (defScope s__law_fields) := ⟨rfl, rfl, rfl, by decide +kernel, rfl, by decide +kernel, by decide +kernel⟩
def b__law_fields : DS :=
  (sSeq (sIf (tB' (eBin vIn (eUn (vXv csL "code") (eVar 0)) (eTup (aCons (eC (.str "InvalidName")) (aCons (eC (.str "InvalidNumber")) (aCons (eC (.str "InvalidDirection")) aNil)))))) (sRet (eTup (aCons (eUn (vXv csL "value") (eVar 0)) aNil))) sNop)
    (sSeq (sIf (tB' (eBin vIn (eUn (vXv csL "code") (eVar 0)) (eTup (aCons (eC (.str "InvalidPart")) (aCons (eC (.str "Loose")) (aCons (eC (.str "InvalidWay")) (aCons (eC (.str "InvalidPiece")) (aCons (eC (.str "InvalidPeg")) (aCons (eC (.str "InvalidLot")) (aCons (eC (.str "InvalidRow")) (aCons (eC (.str "InvalidDeed")) aNil))))))))))) (sRet (eTup (aCons (eUn (vXv csL "at") (eVar 0)) aNil))) sNop)
    (sSeq (sIf (tB' (eBin vIn (eUn (vXv csL "code") (eVar 0)) (eTup (aCons (eC (.str "PartsOverlap")) (aCons (eC (.str "PiecesOverlap")) (aCons (eC (.str "Barred")) aNil)))))) (sRet (eTup (aCons (eUn (vXv csL "one") (eVar 0)) (aCons (eUn (vXv csL "other") (eVar 0)) aNil)))) sNop)
    (sSeq (sIf (tB' (eBin vIn (eUn (vXv csL "code") (eVar 0)) (eTup (aCons (eC (.str "DuplicateName")) (aCons (eC (.str "NeverLeaves")) (aCons (eC (.str "UnknownName")) aNil)))))) (sRet (eTup (aCons (eUn (vXv csL "name") (eVar 0)) aNil))) sNop)
    (sSeq (sIf (tB' (eBin vEq (eUn (vXv csL "code") (eVar 0)) (eC (.str "TooMany")))) (sRet (eTup (aCons (eUn (vXv csL "most") (eVar 0)) aNil))) sNop)
    (sSeq (sIf (tB' (eBin vIn (eUn (vXv csL "code") (eVar 0)) (eTup (aCons (eC (.str "InvalidText")) (aCons (eC (.str "Refused")) aNil))))) (sRet (eTup (aCons (eUn (vXv csL "line") (eVar 0)) (aCons (eUn (vXv csL "why") (eVar 0)) aNil)))) sNop)
    (sSeq (sIf (tB' (eBin vIn (eUn (vXv csL "code") (eVar 0)) (eTup (aCons (eC (.str "Pegged")) (aCons (eC (.str "NotFast")) (aCons (eC (.str "Held")) aNil)))))) (sRet (eTup (aCons (eUn (vXv csL "peg") (eVar 0)) aNil))) sNop)
    (sRet (eIf (tB' (eBin vEq (eUn (vXv csL "code") (eVar 0)) (eC (.str "NotStuck")))) (eTup (aCons (eUn (vXv csL "step") (eVar 0)) aNil)) (eTup aNil))))))))))
def f__law_fields : Fn := runF .fz 1 1 b__law_fields
theorem ar__law_fields : Ar f__law_fields 1 := ar_run
theorem fd__law_fields (T : Hv fa fn csX ysX cvX gtX dfX tfX xsX K mg) : ∃ fd, FunD (gK K).K "_law_fields" "_law_fields" (defArgs s__law_fields) (defBody s__law_fields) (defScope s__law_fields) [] [] (He.ga K "_law_fields") fd := T.def_ 38
theorem fb__law_fields (T : Hv fa fn csX ysX cvX gtX dfX tfX xsX K mg) (cdv : Value) (A : Around) (outer : List Env) (s : Shared) (H : Hp) (E : XK) (hr : Room 0 (A.deeper (envOfC "_law_fields" (defScope s__law_fields) s.heap.objs.size (He.ga K "_law_fields") cdv))) : GSs (gK K) (WF E) (cxOf (L2.CX P w) P w (gK K).K mg base ["e"] "_law_fields" (defScope s__law_fields) (He.ga K "_law_fields") cdv A outer s H E) (defBody s__law_fields) b__law_fields := by
  have nd := sc__law_fields.nd
  have tk := tk_of (P := P) (w := w) (K := (gK K).K) (mg := mg) (base := base) (N := ["e"]) (qual := "_law_fields") (scope := defScope s__law_fields) (f := He.ga K "_law_fields") (cdv := cdv) (A := A) (outer := outer) (s := s) (H := H) (E := E)
  have hu := hu64 hr
  have hu5 := hu65 hr
  exact (gss_cons (gs_if (gt_cmp (opIn ⟨rfl⟩ hu5) (ge_xv ⟨rfl⟩ (T.xf rfl rfl rfl) (ge_var (pv 0))) (ge_tup (ga_cons (ge_c pe_str) (ga_cons (ge_c pe_str) (ga_cons (ge_c pe_str) ga_nil)))) (by rfl)) (gss_one (gs_ret (ge_tup (ga_cons (ge_xv ⟨rfl⟩ (T.xf rfl rfl rfl) (ge_var (pv 0))) ga_nil)))) gss_nil)
    (gss_cons (gs_if (gt_cmp (opIn ⟨rfl⟩ hu5) (ge_xv ⟨rfl⟩ (T.xf rfl rfl rfl) (ge_var (pv 0))) (ge_tup (ga_cons (ge_c pe_str) (ga_cons (ge_c pe_str) (ga_cons (ge_c pe_str) (ga_cons (ge_c pe_str) (ga_cons (ge_c pe_str) (ga_cons (ge_c pe_str) (ga_cons (ge_c pe_str) (ga_cons (ge_c pe_str) ga_nil))))))))) (by rfl)) (gss_one (gs_ret (ge_tup (ga_cons (ge_xv ⟨rfl⟩ (T.xf rfl rfl rfl) (ge_var (pv 0))) ga_nil)))) gss_nil)
    (gss_cons (gs_if (gt_cmp (opIn ⟨rfl⟩ hu5) (ge_xv ⟨rfl⟩ (T.xf rfl rfl rfl) (ge_var (pv 0))) (ge_tup (ga_cons (ge_c pe_str) (ga_cons (ge_c pe_str) (ga_cons (ge_c pe_str) ga_nil)))) (by rfl)) (gss_one (gs_ret (ge_tup (ga_cons (ge_xv ⟨rfl⟩ (T.xf rfl rfl rfl) (ge_var (pv 0))) (ga_cons (ge_xv ⟨rfl⟩ (T.xf rfl rfl rfl) (ge_var (pv 0))) ga_nil))))) gss_nil)
    (gss_cons (gs_if (gt_cmp (opIn ⟨rfl⟩ hu5) (ge_xv ⟨rfl⟩ (T.xf rfl rfl rfl) (ge_var (pv 0))) (ge_tup (ga_cons (ge_c pe_str) (ga_cons (ge_c pe_str) (ga_cons (ge_c pe_str) ga_nil)))) (by rfl)) (gss_one (gs_ret (ge_tup (ga_cons (ge_xv ⟨rfl⟩ (T.xf rfl rfl rfl) (ge_var (pv 0))) ga_nil)))) gss_nil)
    (gss_cons (gs_if (gt_cmp (opEq ⟨rfl⟩ hu) (ge_xv ⟨rfl⟩ (T.xf rfl rfl rfl) (ge_var (pv 0))) (ge_c pe_str) (nomark _)) (gss_one (gs_ret (ge_tup (ga_cons (ge_xv ⟨rfl⟩ (T.xf rfl rfl rfl) (ge_var (pv 0))) ga_nil)))) gss_nil)
    (gss_cons (gs_if (gt_cmp (opIn ⟨rfl⟩ hu5) (ge_xv ⟨rfl⟩ (T.xf rfl rfl rfl) (ge_var (pv 0))) (ge_tup (ga_cons (ge_c pe_str) (ga_cons (ge_c pe_str) ga_nil))) (by rfl)) (gss_one (gs_ret (ge_tup (ga_cons (ge_xv ⟨rfl⟩ (T.xf rfl rfl rfl) (ge_var (pv 0))) (ga_cons (ge_xv ⟨rfl⟩ (T.xf rfl rfl rfl) (ge_var (pv 0))) ga_nil))))) gss_nil)
    (gss_cons (gs_if (gt_cmp (opIn ⟨rfl⟩ hu5) (ge_xv ⟨rfl⟩ (T.xf rfl rfl rfl) (ge_var (pv 0))) (ge_tup (ga_cons (ge_c pe_str) (ga_cons (ge_c pe_str) (ga_cons (ge_c pe_str) ga_nil)))) (by rfl)) (gss_one (gs_ret (ge_tup (ga_cons (ge_xv ⟨rfl⟩ (T.xf rfl rfl rfl) (ge_var (pv 0))) ga_nil)))) gss_nil)
    (gss_one (gs_ret (ge_ifExp (gt_cmp (opEq ⟨rfl⟩ hu) (ge_xv ⟨rfl⟩ (T.xf rfl rfl rfl) (ge_var (pv 0))) (ge_c pe_str) (nomark _)) (ge_tup (ga_cons (ge_xv ⟨rfl⟩ (T.xf rfl rfl rfl) (ge_var (pv 0))) ga_nil)) (ge_tup ga_nil)))))))))))
theorem fg__law_fields (T : Hv fa fn csX ysX cvX gtX dfX tfX xsX K mg) : FnG P w (gK K) mg base 1 "_law_fields" s__law_fields ["e"] [] f__law_fields := fg_of (T.glo 49) (fd__law_fields T) sc__law_fields (fb__law_fields T)
theorem sc__law_codes : FnScope [] [] (defScope s__law_codes) := ⟨rfl, rfl, rfl, by decide +kernel, rfl, by decide +kernel, by decide +kernel⟩
def b__law_codes : DS :=
  (sRet (eLst (aCons (eC (.str "InvalidName")) (aCons (eC (.str "InvalidNumber")) (aCons (eC (.str "InvalidDirection")) (aCons (eC (.str "InvalidPart")) (aCons (eC (.str "PartsOverlap")) (aCons (eC (.str "Loose")) (aCons (eC (.str "InvalidWay")) (aCons (eC (.str "InvalidPiece")) (aCons (eC (.str "InvalidPeg")) (aCons (eC (.str "PiecesOverlap")) (aCons (eC (.str "DuplicateName")) (aCons (eC (.str "TooMany")) (aCons (eC (.str "OutOfBounds")) (aCons (eC (.str "InvalidText")) (aCons (eC (.str "InvalidLot")) (aCons (eC (.str "OtherThing")) (aCons (eC (.str "InvalidStep")) (aCons (eC (.str "NoParting")) (aCons (eC (.str "NoJoining")) (aCons (eC (.str "Barred")) (aCons (eC (.str "Pegged")) (aCons (eC (.str "NotFast")) (aCons (eC (.str "Held")) (aCons (eC (.str "NotStuck")) (aCons (eC (.str "InvalidRow")) (aCons (eC (.str "NeverLeaves")) (aCons (eC (.str "Refused")) (aCons (eC (.str "InvalidPrices")) (aCons (eC (.str "InvalidDeed")) (aCons (eC (.str "UnknownName")) (aCons (eC (.str "NothingLeft")) aNil)))))))))))))))))))))))))))))))))
def f__law_codes : Fn := runF .fz 0 0 b__law_codes
theorem ar__law_codes : Ar f__law_codes 0 := ar_run
theorem fd__law_codes (T : Hv fa fn csX ysX cvX gtX dfX tfX xsX K mg) : ∃ fd, FunD (gK K).K "_law_codes" "_law_codes" (defArgs s__law_codes) (defBody s__law_codes) (defScope s__law_codes) [] [] (He.ga K "_law_codes") fd := T.def_ 39
theorem fb__law_codes (T : Hv fa fn csX ysX cvX gtX dfX tfX xsX K mg) (cdv : Value) (A : Around) (outer : List Env) (s : Shared) (H : Hp) (E : XK) (hr : Room 0 (A.deeper (envOfC "_law_codes" (defScope s__law_codes) s.heap.objs.size (He.ga K "_law_codes") cdv))) : GSs (gK K) (WF E) (cxOf (L2.CX P w) P w (gK K).K mg base [] "_law_codes" (defScope s__law_codes) (He.ga K "_law_codes") cdv A outer s H E) (defBody s__law_codes) b__law_codes := by
  have nd := sc__law_codes.nd
  have tk := tk_of (P := P) (w := w) (K := (gK K).K) (mg := mg) (base := base) (N := []) (qual := "_law_codes") (scope := defScope s__law_codes) (f := He.ga K "_law_codes") (cdv := cdv) (A := A) (outer := outer) (s := s) (H := H) (E := E)
  have hu := hu64 hr
  have hu5 := hu65 hr
  exact (gss_one (gs_ret (ge_lst (ga_cons (ge_c pe_str) (ga_cons (ge_c pe_str) (ga_cons (ge_c pe_str) (ga_cons (ge_c pe_str) (ga_cons (ge_c pe_str) (ga_cons (ge_c pe_str) (ga_cons (ge_c pe_str) (ga_cons (ge_c pe_str) (ga_cons (ge_c pe_str) (ga_cons (ge_c pe_str) (ga_cons (ge_c pe_str) (ga_cons (ge_c pe_str) (ga_cons (ge_c pe_str) (ga_cons (ge_c pe_str) (ga_cons (ge_c pe_str) (ga_cons (ge_c pe_str) (ga_cons (ge_c pe_str) (ga_cons (ge_c pe_str) (ga_cons (ge_c pe_str) (ga_cons (ge_c pe_str) (ga_cons (ge_c pe_str) (ga_cons (ge_c pe_str) (ga_cons (ge_c pe_str) (ga_cons (ge_c pe_str) (ga_cons (ge_c pe_str) (ga_cons (ge_c pe_str) (ga_cons (ge_c pe_str) (ga_cons (ge_c pe_str) (ga_cons (ge_c pe_str) (ga_cons (ge_c pe_str) (ga_cons (ge_c pe_str) ga_nil))))))))))))))))))))))))))))))))))
theorem fg__law_codes (T : Hv fa fn csX ysX cvX gtX dfX tfX xsX K mg) : FnG P w (gK K) mg base 1 "_law_codes" s__law_codes [] [] f__law_codes := fg_of (T.glo 50) (fd__law_codes T) sc__law_codes (fb__law_codes T)
theorem sc__law_by_place : FnScope ["x", "y"] ["x", "y"] (defScope s__law_by_place) := ⟨rfl, rfl, rfl, by decide +kernel, rfl, by decide +kernel, by decide +kernel⟩
def b__law_by_place : DS :=
  (sRet (eLst (aCons (eMkV 0 ["value"] "InvalidName" (aCons (eVar 0) aNil)) (aCons (eMkV 1 ["value"] "InvalidNumber" (aCons (eVar 0) aNil)) (aCons (eMkV 2 ["value"] "InvalidDirection" (aCons (eVar 0) aNil)) (aCons (eMkV 3 ["at"] "InvalidPart" (aCons (eVar 0) aNil)) (aCons (eMkV 4 ["one", "other"] "PartsOverlap" (aCons (eVar 0) (aCons (eVar 1) aNil))) (aCons (eMkV 5 ["at"] "Loose" (aCons (eVar 0) aNil)) (aCons (eMkV 6 ["at"] "InvalidWay" (aCons (eVar 0) aNil)) (aCons (eMkV 7 ["at"] "InvalidPiece" (aCons (eVar 0) aNil)) (aCons (eMkV 8 ["at"] "InvalidPeg" (aCons (eVar 0) aNil)) (aCons (eMkV 9 ["one", "other"] "PiecesOverlap" (aCons (eVar 0) (aCons (eVar 1) aNil))) (aCons (eMkV 10 ["name"] "DuplicateName" (aCons (eVar 0) aNil)) (aCons (eMkV 11 ["most"] "TooMany" (aCons (eVar 0) aNil)) (aCons (eMkVK 12 [] "OutOfBounds" [] 0 aNil) (aCons (eMkV 13 ["line", "why"] "InvalidText" (aCons (eVar 0) (aCons (eVar 1) aNil))) (aCons (eMkV 14 ["at"] "InvalidLot" (aCons (eVar 0) aNil)) (aCons (eMkVK 15 [] "OtherThing" [] 0 aNil) (aCons (eMkVK 16 [] "InvalidStep" [] 0 aNil) (aCons (eMkVK 17 [] "NoParting" [] 0 aNil) (aCons (eMkVK 18 [] "NoJoining" [] 0 aNil) (aCons (eMkV 19 ["one", "other"] "Barred" (aCons (eVar 0) (aCons (eVar 1) aNil))) (aCons (eMkV 20 ["peg"] "Pegged" (aCons (eVar 0) aNil)) (aCons (eMkV 21 ["peg"] "NotFast" (aCons (eVar 0) aNil)) (aCons (eMkV 22 ["peg"] "Held" (aCons (eVar 0) aNil)) (aCons (eMkV 23 ["step"] "NotStuck" (aCons (eVar 0) aNil)) (aCons (eMkV 24 ["at"] "InvalidRow" (aCons (eVar 0) aNil)) (aCons (eMkV 25 ["name"] "NeverLeaves" (aCons (eVar 0) aNil)) (aCons (eMkV 26 ["line", "why"] "Refused" (aCons (eVar 0) (aCons (eVar 1) aNil))) (aCons (eMkVK 27 [] "InvalidPrices" [] 0 aNil) (aCons (eMkV 28 ["at"] "InvalidDeed" (aCons (eVar 0) aNil)) (aCons (eMkV 29 ["name"] "UnknownName" (aCons (eVar 0) aNil)) (aCons (eMkVK 30 [] "NothingLeft" [] 0 aNil) aNil)))))))))))))))))))))))))))))))))
def f__law_by_place : Fn := runF .fz 2 2 b__law_by_place
theorem ar__law_by_place : Ar f__law_by_place 2 := ar_run
theorem fd__law_by_place (T : Hv fa fn csX ysX cvX gtX dfX tfX xsX K mg) : ∃ fd, FunD (gK K).K "_law_by_place" "_law_by_place" (defArgs s__law_by_place) (defBody s__law_by_place) (defScope s__law_by_place) [] [] (He.ga K "_law_by_place") fd := T.def_ 40
theorem fb__law_by_place (T : Hv fa fn csX ysX cvX gtX dfX tfX xsX K mg) (cdv : Value) (A : Around) (outer : List Env) (s : Shared) (H : Hp) (E : XK) (hr : Room 2 (A.deeper (envOfC "_law_by_place" (defScope s__law_by_place) s.heap.objs.size (He.ga K "_law_by_place") cdv))) : GSs (gK K) (WF E) (cxOf (L2.CX P w) P w (gK K).K mg base ["x", "y"] "_law_by_place" (defScope s__law_by_place) (He.ga K "_law_by_place") cdv A outer s H E) (defBody s__law_by_place) b__law_by_place := by
  have nd := sc__law_by_place.nd
  have tk := tk_of (P := P) (w := w) (K := (gK K).K) (mg := mg) (base := base) (N := ["x", "y"]) (qual := "_law_by_place") (scope := defScope s__law_by_place) (f := He.ga K "_law_by_place") (cdv := cdv) (A := A) (outer := outer) (s := s) (H := H) (E := E)
  have hu := hu64 hr
  have hu5 := hu65 hr
  exact (gss_one (gs_ret (ge_lst (ga_cons (ge_mkV (xc_InvalidName T) ⟨rfl⟩ (hr.mono (by decide)) rfl tk (ga_cons (ge_var (pv 0)) ga_nil)) (ga_cons (ge_mkV (xc_InvalidNumber T) ⟨rfl⟩ (hr.mono (by decide)) rfl tk (ga_cons (ge_var (pv 0)) ga_nil)) (ga_cons (ge_mkV (xc_InvalidDirection T) ⟨rfl⟩ (hr.mono (by decide)) rfl tk (ga_cons (ge_var (pv 0)) ga_nil)) (ga_cons (ge_mkV (xc_InvalidPart T) ⟨rfl⟩ (hr.mono (by decide)) rfl tk (ga_cons (ge_var (pv 0)) ga_nil)) (ga_cons (ge_mkV (xc_PartsOverlap T) ⟨rfl⟩ (hr.mono (by decide)) rfl tk (ga_cons (ge_var (pv 0)) (ga_cons (ge_var (pv 1)) ga_nil))) (ga_cons (ge_mkV (xc_Loose T) ⟨rfl⟩ (hr.mono (by decide)) rfl tk (ga_cons (ge_var (pv 0)) ga_nil)) (ga_cons (ge_mkV (xc_InvalidWay T) ⟨rfl⟩ (hr.mono (by decide)) rfl tk (ga_cons (ge_var (pv 0)) ga_nil)) (ga_cons (ge_mkV (xc_InvalidPiece T) ⟨rfl⟩ (hr.mono (by decide)) rfl tk (ga_cons (ge_var (pv 0)) ga_nil)) (ga_cons (ge_mkV (xc_InvalidPeg T) ⟨rfl⟩ (hr.mono (by decide)) rfl tk (ga_cons (ge_var (pv 0)) ga_nil)) (ga_cons (ge_mkV (xc_PiecesOverlap T) ⟨rfl⟩ (hr.mono (by decide)) rfl tk (ga_cons (ge_var (pv 0)) (ga_cons (ge_var (pv 1)) ga_nil))) (ga_cons (ge_mkV (xc_DuplicateName T) ⟨rfl⟩ (hr.mono (by decide)) rfl tk (ga_cons (ge_var (pv 0)) ga_nil)) (ga_cons (ge_mkV (xc_TooMany T) ⟨rfl⟩ (hr.mono (by decide)) rfl tk (ga_cons (ge_var (pv 0)) ga_nil)) (ga_cons (ge_mkVK (ix := []) (ks := []) (xc_OutOfBounds T) (T.xc 12) rfl (fd_OutOfBounds T) ⟨rfl⟩ (hr.mono (by decide)) rfl tk gk_nil (fun _ _ _ _ _ _ _ ws hl => match ws, hl with | [], _ => rfl)) (ga_cons (ge_mkV (xc_InvalidText T) ⟨rfl⟩ (hr.mono (by decide)) rfl tk (ga_cons (ge_var (pv 0)) (ga_cons (ge_var (pv 1)) ga_nil))) (ga_cons (ge_mkV (xc_InvalidLot T) ⟨rfl⟩ (hr.mono (by decide)) rfl tk (ga_cons (ge_var (pv 0)) ga_nil)) (ga_cons (ge_mkVK (ix := []) (ks := []) (xc_OtherThing T) (T.xc 15) rfl (fd_OtherThing T) ⟨rfl⟩ (hr.mono (by decide)) rfl tk gk_nil (fun _ _ _ _ _ _ _ ws hl => match ws, hl with | [], _ => rfl)) (ga_cons (ge_mkVK (ix := []) (ks := []) (xc_InvalidStep T) (T.xc 16) rfl (fd_InvalidStep T) ⟨rfl⟩ (hr.mono (by decide)) rfl tk gk_nil (fun _ _ _ _ _ _ _ ws hl => match ws, hl with | [], _ => rfl)) (ga_cons (ge_mkVK (ix := []) (ks := []) (xc_NoParting T) (T.xc 17) rfl (fd_NoParting T) ⟨rfl⟩ (hr.mono (by decide)) rfl tk gk_nil (fun _ _ _ _ _ _ _ ws hl => match ws, hl with | [], _ => rfl)) (ga_cons (ge_mkVK (ix := []) (ks := []) (xc_NoJoining T) (T.xc 18) rfl (fd_NoJoining T) ⟨rfl⟩ (hr.mono (by decide)) rfl tk gk_nil (fun _ _ _ _ _ _ _ ws hl => match ws, hl with | [], _ => rfl)) (ga_cons (ge_mkV (xc_Barred T) ⟨rfl⟩ (hr.mono (by decide)) rfl tk (ga_cons (ge_var (pv 0)) (ga_cons (ge_var (pv 1)) ga_nil))) (ga_cons (ge_mkV (xc_Pegged T) ⟨rfl⟩ (hr.mono (by decide)) rfl tk (ga_cons (ge_var (pv 0)) ga_nil)) (ga_cons (ge_mkV (xc_NotFast T) ⟨rfl⟩ (hr.mono (by decide)) rfl tk (ga_cons (ge_var (pv 0)) ga_nil)) (ga_cons (ge_mkV (xc_Held T) ⟨rfl⟩ (hr.mono (by decide)) rfl tk (ga_cons (ge_var (pv 0)) ga_nil)) (ga_cons (ge_mkV (xc_NotStuck T) ⟨rfl⟩ (hr.mono (by decide)) rfl tk (ga_cons (ge_var (pv 0)) ga_nil)) (ga_cons (ge_mkV (xc_InvalidRow T) ⟨rfl⟩ (hr.mono (by decide)) rfl tk (ga_cons (ge_var (pv 0)) ga_nil)) (ga_cons (ge_mkV (xc_NeverLeaves T) ⟨rfl⟩ (hr.mono (by decide)) rfl tk (ga_cons (ge_var (pv 0)) ga_nil)) (ga_cons (ge_mkV (xc_Refused T) ⟨rfl⟩ (hr.mono (by decide)) rfl tk (ga_cons (ge_var (pv 0)) (ga_cons (ge_var (pv 1)) ga_nil))) (ga_cons (ge_mkVK (ix := []) (ks := []) (xc_InvalidPrices T) (T.xc 27) rfl (fd_InvalidPrices T) ⟨rfl⟩ (hr.mono (by decide)) rfl tk gk_nil (fun _ _ _ _ _ _ _ ws hl => match ws, hl with | [], _ => rfl)) (ga_cons (ge_mkV (xc_InvalidDeed T) ⟨rfl⟩ (hr.mono (by decide)) rfl tk (ga_cons (ge_var (pv 0)) ga_nil)) (ga_cons (ge_mkV (xc_UnknownName T) ⟨rfl⟩ (hr.mono (by decide)) rfl tk (ga_cons (ge_var (pv 0)) ga_nil)) (ga_cons (ge_mkVK (ix := []) (ks := []) (xc_NothingLeft T) (T.xc 30) rfl (fd_NothingLeft T) ⟨rfl⟩ (hr.mono (by decide)) rfl tk gk_nil (fun _ _ _ _ _ _ _ ws hl => match ws, hl with | [], _ => rfl)) ga_nil))))))))))))))))))))))))))))))))))
theorem fg__law_by_place (T : Hv fa fn csX ysX cvX gtX dfX tfX xsX K mg) : FnG P w (gK K) mg base 3 "_law_by_place" s__law_by_place ["x", "y"] [] f__law_by_place := fg_of (T.glo 51) (fd__law_by_place T) sc__law_by_place (fb__law_by_place T)
theorem sc__law_by_name : FnScope ["x", "y"] ["x", "y"] (defScope s__law_by_name) := ⟨rfl, rfl, rfl, by decide +kernel, rfl, by decide +kernel, by decide +kernel⟩
def b__law_by_name : DS :=
  (sRet (eLst (aCons (eMkVK 0 ["value"] "InvalidName" [0] 1 (aCons (eVar 0) aNil)) (aCons (eMkVK 1 ["value"] "InvalidNumber" [0] 1 (aCons (eVar 0) aNil)) (aCons (eMkVK 2 ["value"] "InvalidDirection" [0] 1 (aCons (eVar 0) aNil)) (aCons (eMkVK 3 ["at"] "InvalidPart" [0] 1 (aCons (eVar 0) aNil)) (aCons (eMkVK 4 ["one", "other"] "PartsOverlap" [1, 0] 2 (aCons (eVar 1) (aCons (eVar 0) aNil))) (aCons (eMkVK 5 ["at"] "Loose" [0] 1 (aCons (eVar 0) aNil)) (aCons (eMkVK 6 ["at"] "InvalidWay" [0] 1 (aCons (eVar 0) aNil)) (aCons (eMkVK 7 ["at"] "InvalidPiece" [0] 1 (aCons (eVar 0) aNil)) (aCons (eMkVK 8 ["at"] "InvalidPeg" [0] 1 (aCons (eVar 0) aNil)) (aCons (eMkVK 9 ["one", "other"] "PiecesOverlap" [1, 0] 2 (aCons (eVar 1) (aCons (eVar 0) aNil))) (aCons (eMkVK 10 ["name"] "DuplicateName" [0] 1 (aCons (eVar 0) aNil)) (aCons (eMkVK 11 ["most"] "TooMany" [0] 1 (aCons (eVar 0) aNil)) (aCons (eMkVK 12 [] "OutOfBounds" [] 0 aNil) (aCons (eMkVK 13 ["line", "why"] "InvalidText" [1, 0] 2 (aCons (eVar 1) (aCons (eVar 0) aNil))) (aCons (eMkVK 14 ["at"] "InvalidLot" [0] 1 (aCons (eVar 0) aNil)) (aCons (eMkVK 15 [] "OtherThing" [] 0 aNil) (aCons (eMkVK 16 [] "InvalidStep" [] 0 aNil) (aCons (eMkVK 17 [] "NoParting" [] 0 aNil) (aCons (eMkVK 18 [] "NoJoining" [] 0 aNil) (aCons (eMkVK 19 ["one", "other"] "Barred" [1, 0] 2 (aCons (eVar 1) (aCons (eVar 0) aNil))) (aCons (eMkVK 20 ["peg"] "Pegged" [0] 1 (aCons (eVar 0) aNil)) (aCons (eMkVK 21 ["peg"] "NotFast" [0] 1 (aCons (eVar 0) aNil)) (aCons (eMkVK 22 ["peg"] "Held" [0] 1 (aCons (eVar 0) aNil)) (aCons (eMkVK 23 ["step"] "NotStuck" [0] 1 (aCons (eVar 0) aNil)) (aCons (eMkVK 24 ["at"] "InvalidRow" [0] 1 (aCons (eVar 0) aNil)) (aCons (eMkVK 25 ["name"] "NeverLeaves" [0] 1 (aCons (eVar 0) aNil)) (aCons (eMkVK 26 ["line", "why"] "Refused" [1, 0] 2 (aCons (eVar 1) (aCons (eVar 0) aNil))) (aCons (eMkVK 27 [] "InvalidPrices" [] 0 aNil) (aCons (eMkVK 28 ["at"] "InvalidDeed" [0] 1 (aCons (eVar 0) aNil)) (aCons (eMkVK 29 ["name"] "UnknownName" [0] 1 (aCons (eVar 0) aNil)) (aCons (eMkVK 30 [] "NothingLeft" [] 0 aNil) aNil)))))))))))))))))))))))))))))))))
def f__law_by_name : Fn := runF .fz 2 2 b__law_by_name
theorem ar__law_by_name : Ar f__law_by_name 2 := ar_run
theorem fd__law_by_name (T : Hv fa fn csX ysX cvX gtX dfX tfX xsX K mg) : ∃ fd, FunD (gK K).K "_law_by_name" "_law_by_name" (defArgs s__law_by_name) (defBody s__law_by_name) (defScope s__law_by_name) [] [] (He.ga K "_law_by_name") fd := T.def_ 41
theorem fb__law_by_name (T : Hv fa fn csX ysX cvX gtX dfX tfX xsX K mg) (cdv : Value) (A : Around) (outer : List Env) (s : Shared) (H : Hp) (E : XK) (hr : Room 2 (A.deeper (envOfC "_law_by_name" (defScope s__law_by_name) s.heap.objs.size (He.ga K "_law_by_name") cdv))) : GSs (gK K) (WF E) (cxOf (L2.CX P w) P w (gK K).K mg base ["x", "y"] "_law_by_name" (defScope s__law_by_name) (He.ga K "_law_by_name") cdv A outer s H E) (defBody s__law_by_name) b__law_by_name := by
  have nd := sc__law_by_name.nd
  have tk := tk_of (P := P) (w := w) (K := (gK K).K) (mg := mg) (base := base) (N := ["x", "y"]) (qual := "_law_by_name") (scope := defScope s__law_by_name) (f := He.ga K "_law_by_name") (cdv := cdv) (A := A) (outer := outer) (s := s) (H := H) (E := E)
  have hu := hu64 hr
  have hu5 := hu65 hr
  exact (gss_one (gs_ret (ge_lst (ga_cons (ge_mkVK (ix := [0]) (ks := ["value"]) (xc_InvalidName T) (T.xc 0) rfl (fd_InvalidName T) ⟨rfl⟩ (hr.mono (by decide)) rfl tk (gk_cons (ge_var (pv 0)) gk_nil) (fun _ _ _ _ _ _ _ ws hl => match ws, hl with | [_], _ => rfl)) (ga_cons (ge_mkVK (ix := [0]) (ks := ["value"]) (xc_InvalidNumber T) (T.xc 1) rfl (fd_InvalidNumber T) ⟨rfl⟩ (hr.mono (by decide)) rfl tk (gk_cons (ge_var (pv 0)) gk_nil) (fun _ _ _ _ _ _ _ ws hl => match ws, hl with | [_], _ => rfl)) (ga_cons (ge_mkVK (ix := [0]) (ks := ["value"]) (xc_InvalidDirection T) (T.xc 2) rfl (fd_InvalidDirection T) ⟨rfl⟩ (hr.mono (by decide)) rfl tk (gk_cons (ge_var (pv 0)) gk_nil) (fun _ _ _ _ _ _ _ ws hl => match ws, hl with | [_], _ => rfl)) (ga_cons (ge_mkVK (ix := [0]) (ks := ["at"]) (xc_InvalidPart T) (T.xc 3) rfl (fd_InvalidPart T) ⟨rfl⟩ (hr.mono (by decide)) rfl tk (gk_cons (ge_var (pv 0)) gk_nil) (fun _ _ _ _ _ _ _ ws hl => match ws, hl with | [_], _ => rfl)) (ga_cons (ge_mkVK (ix := [1, 0]) (ks := ["other", "one"]) (xc_PartsOverlap T) (T.xc 4) rfl (fd_PartsOverlap T) ⟨rfl⟩ (hr.mono (by decide)) rfl tk (gk_cons (ge_var (pv 1)) (gk_cons (ge_var (pv 0)) gk_nil)) (fun _ _ _ _ _ _ _ ws hl => match ws, hl with | [_, _], _ => rfl)) (ga_cons (ge_mkVK (ix := [0]) (ks := ["at"]) (xc_Loose T) (T.xc 5) rfl (fd_Loose T) ⟨rfl⟩ (hr.mono (by decide)) rfl tk (gk_cons (ge_var (pv 0)) gk_nil) (fun _ _ _ _ _ _ _ ws hl => match ws, hl with | [_], _ => rfl)) (ga_cons (ge_mkVK (ix := [0]) (ks := ["at"]) (xc_InvalidWay T) (T.xc 6) rfl (fd_InvalidWay T) ⟨rfl⟩ (hr.mono (by decide)) rfl tk (gk_cons (ge_var (pv 0)) gk_nil) (fun _ _ _ _ _ _ _ ws hl => match ws, hl with | [_], _ => rfl)) (ga_cons (ge_mkVK (ix := [0]) (ks := ["at"]) (xc_InvalidPiece T) (T.xc 7) rfl (fd_InvalidPiece T) ⟨rfl⟩ (hr.mono (by decide)) rfl tk (gk_cons (ge_var (pv 0)) gk_nil) (fun _ _ _ _ _ _ _ ws hl => match ws, hl with | [_], _ => rfl)) (ga_cons (ge_mkVK (ix := [0]) (ks := ["at"]) (xc_InvalidPeg T) (T.xc 8) rfl (fd_InvalidPeg T) ⟨rfl⟩ (hr.mono (by decide)) rfl tk (gk_cons (ge_var (pv 0)) gk_nil) (fun _ _ _ _ _ _ _ ws hl => match ws, hl with | [_], _ => rfl)) (ga_cons (ge_mkVK (ix := [1, 0]) (ks := ["other", "one"]) (xc_PiecesOverlap T) (T.xc 9) rfl (fd_PiecesOverlap T) ⟨rfl⟩ (hr.mono (by decide)) rfl tk (gk_cons (ge_var (pv 1)) (gk_cons (ge_var (pv 0)) gk_nil)) (fun _ _ _ _ _ _ _ ws hl => match ws, hl with | [_, _], _ => rfl)) (ga_cons (ge_mkVK (ix := [0]) (ks := ["name"]) (xc_DuplicateName T) (T.xc 10) rfl (fd_DuplicateName T) ⟨rfl⟩ (hr.mono (by decide)) rfl tk (gk_cons (ge_var (pv 0)) gk_nil) (fun _ _ _ _ _ _ _ ws hl => match ws, hl with | [_], _ => rfl)) (ga_cons (ge_mkVK (ix := [0]) (ks := ["most"]) (xc_TooMany T) (T.xc 11) rfl (fd_TooMany T) ⟨rfl⟩ (hr.mono (by decide)) rfl tk (gk_cons (ge_var (pv 0)) gk_nil) (fun _ _ _ _ _ _ _ ws hl => match ws, hl with | [_], _ => rfl)) (ga_cons (ge_mkVK (ix := []) (ks := []) (xc_OutOfBounds T) (T.xc 12) rfl (fd_OutOfBounds T) ⟨rfl⟩ (hr.mono (by decide)) rfl tk gk_nil (fun _ _ _ _ _ _ _ ws hl => match ws, hl with | [], _ => rfl)) (ga_cons (ge_mkVK (ix := [1, 0]) (ks := ["why", "line"]) (xc_InvalidText T) (T.xc 13) rfl (fd_InvalidText T) ⟨rfl⟩ (hr.mono (by decide)) rfl tk (gk_cons (ge_var (pv 1)) (gk_cons (ge_var (pv 0)) gk_nil)) (fun _ _ _ _ _ _ _ ws hl => match ws, hl with | [_, _], _ => rfl)) (ga_cons (ge_mkVK (ix := [0]) (ks := ["at"]) (xc_InvalidLot T) (T.xc 14) rfl (fd_InvalidLot T) ⟨rfl⟩ (hr.mono (by decide)) rfl tk (gk_cons (ge_var (pv 0)) gk_nil) (fun _ _ _ _ _ _ _ ws hl => match ws, hl with | [_], _ => rfl)) (ga_cons (ge_mkVK (ix := []) (ks := []) (xc_OtherThing T) (T.xc 15) rfl (fd_OtherThing T) ⟨rfl⟩ (hr.mono (by decide)) rfl tk gk_nil (fun _ _ _ _ _ _ _ ws hl => match ws, hl with | [], _ => rfl)) (ga_cons (ge_mkVK (ix := []) (ks := []) (xc_InvalidStep T) (T.xc 16) rfl (fd_InvalidStep T) ⟨rfl⟩ (hr.mono (by decide)) rfl tk gk_nil (fun _ _ _ _ _ _ _ ws hl => match ws, hl with | [], _ => rfl)) (ga_cons (ge_mkVK (ix := []) (ks := []) (xc_NoParting T) (T.xc 17) rfl (fd_NoParting T) ⟨rfl⟩ (hr.mono (by decide)) rfl tk gk_nil (fun _ _ _ _ _ _ _ ws hl => match ws, hl with | [], _ => rfl)) (ga_cons (ge_mkVK (ix := []) (ks := []) (xc_NoJoining T) (T.xc 18) rfl (fd_NoJoining T) ⟨rfl⟩ (hr.mono (by decide)) rfl tk gk_nil (fun _ _ _ _ _ _ _ ws hl => match ws, hl with | [], _ => rfl)) (ga_cons (ge_mkVK (ix := [1, 0]) (ks := ["other", "one"]) (xc_Barred T) (T.xc 19) rfl (fd_Barred T) ⟨rfl⟩ (hr.mono (by decide)) rfl tk (gk_cons (ge_var (pv 1)) (gk_cons (ge_var (pv 0)) gk_nil)) (fun _ _ _ _ _ _ _ ws hl => match ws, hl with | [_, _], _ => rfl)) (ga_cons (ge_mkVK (ix := [0]) (ks := ["peg"]) (xc_Pegged T) (T.xc 20) rfl (fd_Pegged T) ⟨rfl⟩ (hr.mono (by decide)) rfl tk (gk_cons (ge_var (pv 0)) gk_nil) (fun _ _ _ _ _ _ _ ws hl => match ws, hl with | [_], _ => rfl)) (ga_cons (ge_mkVK (ix := [0]) (ks := ["peg"]) (xc_NotFast T) (T.xc 21) rfl (fd_NotFast T) ⟨rfl⟩ (hr.mono (by decide)) rfl tk (gk_cons (ge_var (pv 0)) gk_nil) (fun _ _ _ _ _ _ _ ws hl => match ws, hl with | [_], _ => rfl)) (ga_cons (ge_mkVK (ix := [0]) (ks := ["peg"]) (xc_Held T) (T.xc 22) rfl (fd_Held T) ⟨rfl⟩ (hr.mono (by decide)) rfl tk (gk_cons (ge_var (pv 0)) gk_nil) (fun _ _ _ _ _ _ _ ws hl => match ws, hl with | [_], _ => rfl)) (ga_cons (ge_mkVK (ix := [0]) (ks := ["step"]) (xc_NotStuck T) (T.xc 23) rfl (fd_NotStuck T) ⟨rfl⟩ (hr.mono (by decide)) rfl tk (gk_cons (ge_var (pv 0)) gk_nil) (fun _ _ _ _ _ _ _ ws hl => match ws, hl with | [_], _ => rfl)) (ga_cons (ge_mkVK (ix := [0]) (ks := ["at"]) (xc_InvalidRow T) (T.xc 24) rfl (fd_InvalidRow T) ⟨rfl⟩ (hr.mono (by decide)) rfl tk (gk_cons (ge_var (pv 0)) gk_nil) (fun _ _ _ _ _ _ _ ws hl => match ws, hl with | [_], _ => rfl)) (ga_cons (ge_mkVK (ix := [0]) (ks := ["name"]) (xc_NeverLeaves T) (T.xc 25) rfl (fd_NeverLeaves T) ⟨rfl⟩ (hr.mono (by decide)) rfl tk (gk_cons (ge_var (pv 0)) gk_nil) (fun _ _ _ _ _ _ _ ws hl => match ws, hl with | [_], _ => rfl)) (ga_cons (ge_mkVK (ix := [1, 0]) (ks := ["why", "line"]) (xc_Refused T) (T.xc 26) rfl (fd_Refused T) ⟨rfl⟩ (hr.mono (by decide)) rfl tk (gk_cons (ge_var (pv 1)) (gk_cons (ge_var (pv 0)) gk_nil)) (fun _ _ _ _ _ _ _ ws hl => match ws, hl with | [_, _], _ => rfl)) (ga_cons (ge_mkVK (ix := []) (ks := []) (xc_InvalidPrices T) (T.xc 27) rfl (fd_InvalidPrices T) ⟨rfl⟩ (hr.mono (by decide)) rfl tk gk_nil (fun _ _ _ _ _ _ _ ws hl => match ws, hl with | [], _ => rfl)) (ga_cons (ge_mkVK (ix := [0]) (ks := ["at"]) (xc_InvalidDeed T) (T.xc 28) rfl (fd_InvalidDeed T) ⟨rfl⟩ (hr.mono (by decide)) rfl tk (gk_cons (ge_var (pv 0)) gk_nil) (fun _ _ _ _ _ _ _ ws hl => match ws, hl with | [_], _ => rfl)) (ga_cons (ge_mkVK (ix := [0]) (ks := ["name"]) (xc_UnknownName T) (T.xc 29) rfl (fd_UnknownName T) ⟨rfl⟩ (hr.mono (by decide)) rfl tk (gk_cons (ge_var (pv 0)) gk_nil) (fun _ _ _ _ _ _ _ ws hl => match ws, hl with | [_], _ => rfl)) (ga_cons (ge_mkVK (ix := []) (ks := []) (xc_NothingLeft T) (T.xc 30) rfl (fd_NothingLeft T) ⟨rfl⟩ (hr.mono (by decide)) rfl tk gk_nil (fun _ _ _ _ _ _ _ ws hl => match ws, hl with | [], _ => rfl)) ga_nil))))))))))))))))))))))))))))))))))
theorem fg__law_by_name (T : Hv fa fn csX ysX cvX gtX dfX tfX xsX K mg) : FnG P w (gK K) mg base 3 "_law_by_name" s__law_by_name ["x", "y"] [] f__law_by_name := fg_of (T.glo 52) (fd__law_by_name T) sc__law_by_name (fb__law_by_name T)
theorem sc__law_kinds : FnScope ["e"] ["e"] (defScope s__law_kinds) := ⟨rfl, rfl, rfl, by decide +kernel, rfl, by decide +kernel, by decide +kernel⟩
def b__law_kinds : DS :=
  (sRet (eLst (aCons (eUn (vIsX [true, false, false, false, false, false, false, false, false, false, false, false, false, false, false, false, false, false, false, false, false, false, false, false, false, false, false, false, false, false, false]) (eVar 0)) (aCons (eUn (vIsX [false, true, false, false, false, false, false, false, false, false, false, false, false, false, false, false, false, false, false, false, false, false, false, false, false, false, false, false, false, false, false]) (eVar 0)) (aCons (eUn (vIsX [false, false, true, false, false, false, false, false, false, false, false, false, false, false, false, false, false, false, false, false, false, false, false, false, false, false, false, false, false, false, false]) (eVar 0)) (aCons (eUn (vIsX [false, false, false, true, false, false, false, false, false, false, false, false, false, false, false, false, false, false, false, false, false, false, false, false, false, false, false, false, false, false, false]) (eVar 0)) (aCons (eUn (vIsX [false, false, false, false, true, false, false, false, false, false, false, false, false, false, false, false, false, false, false, false, false, false, false, false, false, false, false, false, false, false, false]) (eVar 0)) (aCons (eUn (vIsX [false, false, false, false, false, true, false, false, false, false, false, false, false, false, false, false, false, false, false, false, false, false, false, false, false, false, false, false, false, false, false]) (eVar 0)) (aCons (eUn (vIsX [false, false, false, false, false, false, true, false, false, false, false, false, false, false, false, false, false, false, false, false, false, false, false, false, false, false, false, false, false, false, false]) (eVar 0)) (aCons (eUn (vIsX [false, false, false, false, false, false, false, true, false, false, false, false, false, false, false, false, false, false, false, false, false, false, false, false, false, false, false, false, false, false, false]) (eVar 0)) (aCons (eUn (vIsX [false, false, false, false, false, false, false, false, true, false, false, false, false, false, false, false, false, false, false, false, false, false, false, false, false, false, false, false, false, false, false]) (eVar 0)) (aCons (eUn (vIsX [false, false, false, false, false, false, false, false, false, true, false, false, false, false, false, false, false, false, false, false, false, false, false, false, false, false, false, false, false, false, false]) (eVar 0)) (aCons (eUn (vIsX [false, false, false, false, false, false, false, false, false, false, true, false, false, false, false, false, false, false, false, false, false, false, false, false, false, false, false, false, false, false, false]) (eVar 0)) (aCons (eUn (vIsX [false, false, false, false, false, false, false, false, false, false, false, true, false, false, false, false, false, false, false, false, false, false, false, false, false, false, false, false, false, false, false]) (eVar 0)) (aCons (eUn (vIsX [false, false, false, false, false, false, false, false, false, false, false, false, true, false, false, false, false, false, false, false, false, false, false, false, false, false, false, false, false, false, false]) (eVar 0)) (aCons (eUn (vIsX [false, false, false, false, false, false, false, false, false, false, false, false, false, true, false, false, false, false, false, false, false, false, false, false, false, false, false, false, false, false, false]) (eVar 0)) (aCons (eUn (vIsX [false, false, false, false, false, false, false, false, false, false, false, false, false, false, true, false, false, false, false, false, false, false, false, false, false, false, false, false, false, false, false]) (eVar 0)) (aCons (eUn (vIsX [false, false, false, false, false, false, false, false, false, false, false, false, false, false, false, true, false, false, false, false, false, false, false, false, false, false, false, false, false, false, false]) (eVar 0)) (aCons (eUn (vIsX [false, false, false, false, false, false, false, false, false, false, false, false, false, false, false, false, true, false, false, false, false, false, false, false, false, false, false, false, false, false, false]) (eVar 0)) (aCons (eUn (vIsX [false, false, false, false, false, false, false, false, false, false, false, false, false, false, false, false, false, true, false, false, false, false, false, false, false, false, false, false, false, false, false]) (eVar 0)) (aCons (eUn (vIsX [false, false, false, false, false, false, false, false, false, false, false, false, false, false, false, false, false, false, true, false, false, false, false, false, false, false, false, false, false, false, false]) (eVar 0)) (aCons (eUn (vIsX [false, false, false, false, false, false, false, false, false, false, false, false, false, false, false, false, false, false, false, true, false, false, false, false, false, false, false, false, false, false, false]) (eVar 0)) (aCons (eUn (vIsX [false, false, false, false, false, false, false, false, false, false, false, false, false, false, false, false, false, false, false, false, true, false, false, false, false, false, false, false, false, false, false]) (eVar 0)) (aCons (eUn (vIsX [false, false, false, false, false, false, false, false, false, false, false, false, false, false, false, false, false, false, false, false, false, true, false, false, false, false, false, false, false, false, false]) (eVar 0)) (aCons (eUn (vIsX [false, false, false, false, false, false, false, false, false, false, false, false, false, false, false, false, false, false, false, false, false, false, true, false, false, false, false, false, false, false, false]) (eVar 0)) (aCons (eUn (vIsX [false, false, false, false, false, false, false, false, false, false, false, false, false, false, false, false, false, false, false, false, false, false, false, true, false, false, false, false, false, false, false]) (eVar 0)) (aCons (eUn (vIsX [false, false, false, false, false, false, false, false, false, false, false, false, false, false, false, false, false, false, false, false, false, false, false, false, true, false, false, false, false, false, false]) (eVar 0)) (aCons (eUn (vIsX [false, false, false, false, false, false, false, false, false, false, false, false, false, false, false, false, false, false, false, false, false, false, false, false, false, true, false, false, false, false, false]) (eVar 0)) (aCons (eUn (vIsX [false, false, false, false, false, false, false, false, false, false, false, false, false, false, false, false, false, false, false, false, false, false, false, false, false, false, true, false, false, false, false]) (eVar 0)) (aCons (eUn (vIsX [false, false, false, false, false, false, false, false, false, false, false, false, false, false, false, false, false, false, false, false, false, false, false, false, false, false, false, true, false, false, false]) (eVar 0)) (aCons (eUn (vIsX [false, false, false, false, false, false, false, false, false, false, false, false, false, false, false, false, false, false, false, false, false, false, false, false, false, false, false, false, true, false, false]) (eVar 0)) (aCons (eUn (vIsX [false, false, false, false, false, false, false, false, false, false, false, false, false, false, false, false, false, false, false, false, false, false, false, false, false, false, false, false, false, true, false]) (eVar 0)) (aCons (eUn (vIsX [false, false, false, false, false, false, false, false, false, false, false, false, false, false, false, false, false, false, false, false, false, false, false, false, false, false, false, false, false, false, true]) (eVar 0)) aNil)))))))))))))))))))))))))))))))))
def f__law_kinds : Fn := runF .fz 1 1 b__law_kinds
theorem ar__law_kinds : Ar f__law_kinds 1 := ar_run
theorem fd__law_kinds (T : Hv fa fn csX ysX cvX gtX dfX tfX xsX K mg) : ∃ fd, FunD (gK K).K "_law_kinds" "_law_kinds" (defArgs s__law_kinds) (defBody s__law_kinds) (defScope s__law_kinds) [] [] (He.ga K "_law_kinds") fd := T.def_ 42
theorem fb__law_kinds (T : Hv fa fn csX ysX cvX gtX dfX tfX xsX K mg) (cdv : Value) (A : Around) (outer : List Env) (s : Shared) (H : Hp) (E : XK) (hr : Room 0 (A.deeper (envOfC "_law_kinds" (defScope s__law_kinds) s.heap.objs.size (He.ga K "_law_kinds") cdv))) : GSs (gK K) (WF E) (cxOf (L2.CX P w) P w (gK K).K mg base ["e"] "_law_kinds" (defScope s__law_kinds) (He.ga K "_law_kinds") cdv A outer s H E) (defBody s__law_kinds) b__law_kinds := by
  have nd := sc__law_kinds.nd
  have tk := tk_of (P := P) (w := w) (K := (gK K).K) (mg := mg) (base := base) (N := ["e"]) (qual := "_law_kinds") (scope := defScope s__law_kinds) (f := He.ga K "_law_kinds") (cdv := cdv) (A := A) (outer := outer) (s := s) (H := H) (E := E)
  have hu := hu64 hr
  have hu5 := hu65 hr
  exact (gss_one (gs_ret (ge_lst (ga_cons (ge_isX ⟨rfl⟩ (is_InvalidName T) rfl (T.free 39) (ge_var (pv 0)) (pe_glob (v := .ref (He.ga K "InvalidName")) rfl (T.glo 0) rfl) (fun _ r => r)) (ga_cons (ge_isX ⟨rfl⟩ (is_InvalidNumber T) rfl (T.free 39) (ge_var (pv 0)) (pe_glob (v := .ref (He.ga K "InvalidNumber")) rfl (T.glo 1) rfl) (fun _ r => r)) (ga_cons (ge_isX ⟨rfl⟩ (is_InvalidDirection T) rfl (T.free 39) (ge_var (pv 0)) (pe_glob (v := .ref (He.ga K "InvalidDirection")) rfl (T.glo 2) rfl) (fun _ r => r)) (ga_cons (ge_isX ⟨rfl⟩ (is_InvalidPart T) rfl (T.free 39) (ge_var (pv 0)) (pe_glob (v := .ref (He.ga K "InvalidPart")) rfl (T.glo 3) rfl) (fun _ r => r)) (ga_cons (ge_isX ⟨rfl⟩ (is_PartsOverlap T) rfl (T.free 39) (ge_var (pv 0)) (pe_glob (v := .ref (He.ga K "PartsOverlap")) rfl (T.glo 4) rfl) (fun _ r => r)) (ga_cons (ge_isX ⟨rfl⟩ (is_Loose T) rfl (T.free 39) (ge_var (pv 0)) (pe_glob (v := .ref (He.ga K "Loose")) rfl (T.glo 5) rfl) (fun _ r => r)) (ga_cons (ge_isX ⟨rfl⟩ (is_InvalidWay T) rfl (T.free 39) (ge_var (pv 0)) (pe_glob (v := .ref (He.ga K "InvalidWay")) rfl (T.glo 6) rfl) (fun _ r => r)) (ga_cons (ge_isX ⟨rfl⟩ (is_InvalidPiece T) rfl (T.free 39) (ge_var (pv 0)) (pe_glob (v := .ref (He.ga K "InvalidPiece")) rfl (T.glo 7) rfl) (fun _ r => r)) (ga_cons (ge_isX ⟨rfl⟩ (is_InvalidPeg T) rfl (T.free 39) (ge_var (pv 0)) (pe_glob (v := .ref (He.ga K "InvalidPeg")) rfl (T.glo 8) rfl) (fun _ r => r)) (ga_cons (ge_isX ⟨rfl⟩ (is_PiecesOverlap T) rfl (T.free 39) (ge_var (pv 0)) (pe_glob (v := .ref (He.ga K "PiecesOverlap")) rfl (T.glo 9) rfl) (fun _ r => r)) (ga_cons (ge_isX ⟨rfl⟩ (is_DuplicateName T) rfl (T.free 39) (ge_var (pv 0)) (pe_glob (v := .ref (He.ga K "DuplicateName")) rfl (T.glo 10) rfl) (fun _ r => r)) (ga_cons (ge_isX ⟨rfl⟩ (is_TooMany T) rfl (T.free 39) (ge_var (pv 0)) (pe_glob (v := .ref (He.ga K "TooMany")) rfl (T.glo 11) rfl) (fun _ r => r)) (ga_cons (ge_isX ⟨rfl⟩ (is_OutOfBounds T) rfl (T.free 39) (ge_var (pv 0)) (pe_glob (v := .ref (He.ga K "OutOfBounds")) rfl (T.glo 12) rfl) (fun _ r => r)) (ga_cons (ge_isX ⟨rfl⟩ (is_InvalidText T) rfl (T.free 39) (ge_var (pv 0)) (pe_glob (v := .ref (He.ga K "InvalidText")) rfl (T.glo 13) rfl) (fun _ r => r)) (ga_cons (ge_isX ⟨rfl⟩ (is_InvalidLot T) rfl (T.free 39) (ge_var (pv 0)) (pe_glob (v := .ref (He.ga K "InvalidLot")) rfl (T.glo 14) rfl) (fun _ r => r)) (ga_cons (ge_isX ⟨rfl⟩ (is_OtherThing T) rfl (T.free 39) (ge_var (pv 0)) (pe_glob (v := .ref (He.ga K "OtherThing")) rfl (T.glo 15) rfl) (fun _ r => r)) (ga_cons (ge_isX ⟨rfl⟩ (is_InvalidStep T) rfl (T.free 39) (ge_var (pv 0)) (pe_glob (v := .ref (He.ga K "InvalidStep")) rfl (T.glo 16) rfl) (fun _ r => r)) (ga_cons (ge_isX ⟨rfl⟩ (is_NoParting T) rfl (T.free 39) (ge_var (pv 0)) (pe_glob (v := .ref (He.ga K "NoParting")) rfl (T.glo 17) rfl) (fun _ r => r)) (ga_cons (ge_isX ⟨rfl⟩ (is_NoJoining T) rfl (T.free 39) (ge_var (pv 0)) (pe_glob (v := .ref (He.ga K "NoJoining")) rfl (T.glo 18) rfl) (fun _ r => r)) (ga_cons (ge_isX ⟨rfl⟩ (is_Barred T) rfl (T.free 39) (ge_var (pv 0)) (pe_glob (v := .ref (He.ga K "Barred")) rfl (T.glo 19) rfl) (fun _ r => r)) (ga_cons (ge_isX ⟨rfl⟩ (is_Pegged T) rfl (T.free 39) (ge_var (pv 0)) (pe_glob (v := .ref (He.ga K "Pegged")) rfl (T.glo 20) rfl) (fun _ r => r)) (ga_cons (ge_isX ⟨rfl⟩ (is_NotFast T) rfl (T.free 39) (ge_var (pv 0)) (pe_glob (v := .ref (He.ga K "NotFast")) rfl (T.glo 21) rfl) (fun _ r => r)) (ga_cons (ge_isX ⟨rfl⟩ (is_Held T) rfl (T.free 39) (ge_var (pv 0)) (pe_glob (v := .ref (He.ga K "Held")) rfl (T.glo 22) rfl) (fun _ r => r)) (ga_cons (ge_isX ⟨rfl⟩ (is_NotStuck T) rfl (T.free 39) (ge_var (pv 0)) (pe_glob (v := .ref (He.ga K "NotStuck")) rfl (T.glo 23) rfl) (fun _ r => r)) (ga_cons (ge_isX ⟨rfl⟩ (is_InvalidRow T) rfl (T.free 39) (ge_var (pv 0)) (pe_glob (v := .ref (He.ga K "InvalidRow")) rfl (T.glo 24) rfl) (fun _ r => r)) (ga_cons (ge_isX ⟨rfl⟩ (is_NeverLeaves T) rfl (T.free 39) (ge_var (pv 0)) (pe_glob (v := .ref (He.ga K "NeverLeaves")) rfl (T.glo 25) rfl) (fun _ r => r)) (ga_cons (ge_isX ⟨rfl⟩ (is_Refused T) rfl (T.free 39) (ge_var (pv 0)) (pe_glob (v := .ref (He.ga K "Refused")) rfl (T.glo 26) rfl) (fun _ r => r)) (ga_cons (ge_isX ⟨rfl⟩ (is_InvalidPrices T) rfl (T.free 39) (ge_var (pv 0)) (pe_glob (v := .ref (He.ga K "InvalidPrices")) rfl (T.glo 27) rfl) (fun _ r => r)) (ga_cons (ge_isX ⟨rfl⟩ (is_InvalidDeed T) rfl (T.free 39) (ge_var (pv 0)) (pe_glob (v := .ref (He.ga K "InvalidDeed")) rfl (T.glo 28) rfl) (fun _ r => r)) (ga_cons (ge_isX ⟨rfl⟩ (is_UnknownName T) rfl (T.free 39) (ge_var (pv 0)) (pe_glob (v := .ref (He.ga K "UnknownName")) rfl (T.glo 29) rfl) (fun _ r => r)) (ga_cons (ge_isX ⟨rfl⟩ (is_NothingLeft T) rfl (T.free 39) (ge_var (pv 0)) (pe_glob (v := .ref (He.ga K "NothingLeft")) rfl (T.glo 30) rfl) (fun _ r => r)) ga_nil))))))))))))))))))))))))))))))))))
theorem fg__law_kinds (T : Hv fa fn csX ysX cvX gtX dfX tfX xsX K mg) : FnG P w (gK K) mg base 1 "_law_kinds" s__law_kinds ["e"] [] f__law_kinds := fg_of (T.glo 53) (fd__law_kinds T) sc__law_kinds (fb__law_kinds T)
theorem sc__law_bases : FnScope ["e"] ["e"] (defScope s__law_bases) := ⟨rfl, rfl, rfl, by decide +kernel, rfl, by decide +kernel, by decide +kernel⟩
def b__law_bases : DS :=
  (sRet (eLst (aCons (eUn (vIsX [true, true, true, true, true, true, true, true, true, true, true, true, true, true, true, true, true, true, true, true, true, true, true, true, true, true, true, true, true, false, false]) (eVar 0)) (aCons (eUn (vIsX [true, true, true, true, true, true, true, true, true, true, true, true, true, true, true, true, true, true, true, true, true, true, true, true, true, true, true, true, true, false, false]) (eVar 0)) (aCons (eUn (vIsX [false, false, false, false, false, false, false, false, false, false, false, false, false, false, false, false, false, false, false, false, false, false, false, false, false, false, false, false, false, true, false]) (eVar 0)) (aCons (eUn (vIsX [false, false, false, false, false, false, false, false, false, false, false, false, false, false, false, false, false, false, false, false, false, false, false, false, false, false, false, false, false, true, true]) (eVar 0)) (aCons (eUn (vIsX [false, false, false, false, false, false, false, false, false, false, false, false, false, false, false, false, false, false, false, false, false, false, false, false, false, false, false, false, false, false, true]) (eVar 0)) (aCons (eUn (vIsX [false, false, false, false, false, false, false, false, false, false, false, false, false, false, false, false, false, false, false, false, false, false, false, false, false, false, false, false, false, false, false]) (eVar 0)) aNil))))))))
def f__law_bases : Fn := runF .fz 1 1 b__law_bases
theorem ar__law_bases : Ar f__law_bases 1 := ar_run
theorem fd__law_bases (T : Hv fa fn csX ysX cvX gtX dfX tfX xsX K mg) : ∃ fd, FunD (gK K).K "_law_bases" "_law_bases" (defArgs s__law_bases) (defBody s__law_bases) (defScope s__law_bases) [] [] (He.ga K "_law_bases") fd := T.def_ 43
theorem fb__law_bases (T : Hv fa fn csX ysX cvX gtX dfX tfX xsX K mg) (cdv : Value) (A : Around) (outer : List Env) (s : Shared) (H : Hp) (E : XK) (hr : Room 0 (A.deeper (envOfC "_law_bases" (defScope s__law_bases) s.heap.objs.size (He.ga K "_law_bases") cdv))) : GSs (gK K) (WF E) (cxOf (L2.CX P w) P w (gK K).K mg base ["e"] "_law_bases" (defScope s__law_bases) (He.ga K "_law_bases") cdv A outer s H E) (defBody s__law_bases) b__law_bases := by
  have nd := sc__law_bases.nd
  have tk := tk_of (P := P) (w := w) (K := (gK K).K) (mg := mg) (base := base) (N := ["e"]) (qual := "_law_bases") (scope := defScope s__law_bases) (f := He.ga K "_law_bases") (cdv := cdv) (A := A) (outer := outer) (s := s) (H := H) (E := E)
  have hu := hu64 hr
  have hu5 := hu65 hr
  exact (gss_one (gs_ret (ge_lst (ga_cons (ge_isX ⟨rfl⟩ (is_LotError T) rfl (T.free 39) (ge_var (pv 0)) (pe_glob (v := .ref (He.ga K "LotError")) rfl (T.glo 54) rfl) (fun _ r => r)) (ga_cons (ge_isX ⟨rfl⟩ (is_ValueError T) rfl (T.free 39) (ge_var (pv 0)) (pe_bltn (v := .ty "ValueError") rfl (T.free 55) (by decide +kernel) rfl) (fun _ r => r)) (ga_cons (ge_isX ⟨rfl⟩ (is_Missing T) rfl (T.free 39) (ge_var (pv 0)) (pe_glob (v := .ref (He.ga K "Missing")) rfl (T.glo 56) rfl) (fun _ r => r)) (ga_cons (ge_isX ⟨rfl⟩ (is_LookupError T) rfl (T.free 39) (ge_var (pv 0)) (pe_bltn (v := .ty "LookupError") rfl (T.free 57) (by decide +kernel) rfl) (fun _ r => r)) (ga_cons (ge_isX ⟨rfl⟩ (is_IndexError T) rfl (T.free 39) (ge_var (pv 0)) (pe_bltn (v := .ty "IndexError") rfl (T.free 58) (by decide +kernel) rfl) (fun _ r => r)) (ga_cons (ge_isX ⟨rfl⟩ (is_KeyError T) rfl (T.free 39) (ge_var (pv 0)) (pe_bltn (v := .ty "KeyError") rfl (T.free 59) (by decide +kernel) rfl) (fun _ r => r)) ga_nil)))))))))
theorem fg__law_bases (T : Hv fa fn csX ysX cvX gtX dfX tfX xsX K mg) : FnG P w (gK K) mg base 1 "_law_bases" s__law_bases ["e"] [] f__law_bases := fg_of (T.glo 60) (fd__law_bases T) sc__law_bases (fb__law_bases T)
theorem sc__law_due : FnScope ["code", "x", "y"] ["code", "x", "y"] (defScope s__law_due) := ⟨rfl, rfl, rfl, by decide +kernel, rfl, by decide +kernel, by decide +kernel⟩
def b__law_due : DS :=
  (sSeq (sIf (tB' (eBin vIn (eVar 0) (eTup (aCons (eC (.str "PartsOverlap")) (aCons (eC (.str "PiecesOverlap")) (aCons (eC (.str "InvalidText")) (aCons (eC (.str "Barred")) (aCons (eC (.str "Refused")) aNil)))))))) (sRet (eTup (aCons (eVar 1) (aCons (eVar 2) aNil)))) sNop)
    (sSeq (sIf (tB' (eBin vIn (eVar 0) (eTup (aCons (eC (.str "OutOfBounds")) (aCons (eC (.str "OtherThing")) (aCons (eC (.str "InvalidStep")) (aCons (eC (.str "NoParting")) (aCons (eC (.str "NoJoining")) (aCons (eC (.str "InvalidPrices")) (aCons (eC (.str "NothingLeft")) aNil)))))))))) (sRet (eTup aNil)) sNop)
    (sRet (eTup (aCons (eVar 1) aNil)))))
def f__law_due : Fn := runF .fz 3 3 b__law_due
theorem ar__law_due : Ar f__law_due 3 := ar_run
theorem fd__law_due (T : Hv fa fn csX ysX cvX gtX dfX tfX xsX K mg) : ∃ fd, FunD (gK K).K "_law_due" "_law_due" (defArgs s__law_due) (defBody s__law_due) (defScope s__law_due) [] [] (He.ga K "_law_due") fd := T.def_ 44
theorem fb__law_due (T : Hv fa fn csX ysX cvX gtX dfX tfX xsX K mg) (cdv : Value) (A : Around) (outer : List Env) (s : Shared) (H : Hp) (E : XK) (hr : Room 0 (A.deeper (envOfC "_law_due" (defScope s__law_due) s.heap.objs.size (He.ga K "_law_due") cdv))) : GSs (gK K) (WF E) (cxOf (L2.CX P w) P w (gK K).K mg base ["code", "x", "y"] "_law_due" (defScope s__law_due) (He.ga K "_law_due") cdv A outer s H E) (defBody s__law_due) b__law_due := by
  have nd := sc__law_due.nd
  have tk := tk_of (P := P) (w := w) (K := (gK K).K) (mg := mg) (base := base) (N := ["code", "x", "y"]) (qual := "_law_due") (scope := defScope s__law_due) (f := He.ga K "_law_due") (cdv := cdv) (A := A) (outer := outer) (s := s) (H := H) (E := E)
  have hu := hu64 hr
  have hu5 := hu65 hr
  exact (gss_cons (gs_if (gt_cmp (opIn ⟨rfl⟩ hu5) (ge_var (pv 0)) (ge_tup (ga_cons (ge_c pe_str) (ga_cons (ge_c pe_str) (ga_cons (ge_c pe_str) (ga_cons (ge_c pe_str) (ga_cons (ge_c pe_str) ga_nil)))))) (by rfl)) (gss_one (gs_ret (ge_tup (ga_cons (ge_var (pv 1)) (ga_cons (ge_var (pv 2)) ga_nil))))) gss_nil)
    (gss_cons (gs_if (gt_cmp (opIn ⟨rfl⟩ hu5) (ge_var (pv 0)) (ge_tup (ga_cons (ge_c pe_str) (ga_cons (ge_c pe_str) (ga_cons (ge_c pe_str) (ga_cons (ge_c pe_str) (ga_cons (ge_c pe_str) (ga_cons (ge_c pe_str) (ga_cons (ge_c pe_str) ga_nil)))))))) (by rfl)) (gss_one (gs_ret (ge_tup ga_nil))) gss_nil)
    (gss_one (gs_ret (ge_tup (ga_cons (ge_var (pv 1)) ga_nil))))))
theorem fg__law_due (T : Hv fa fn csX ysX cvX gtX dfX tfX xsX K mg) : FnG P w (gK K) mg base 1 "_law_due" s__law_due ["code", "x", "y"] [] f__law_due := fg_of (T.glo 61) (fd__law_due T) sc__law_due (fb__law_due T)
theorem sc__law_all_so : FnScope ["made", "x", "y", "codes", "k", "bases", "j"] ["made", "x", "y"] (defScope s__law_all_so) := ⟨rfl, rfl, rfl, by decide +kernel, rfl, by decide +kernel, by decide +kernel⟩
def b__law_all_so : DS :=
  (sSeq (sAsg (eCall f__law_codes aNil) (gN 3))
    (sSeq (sFor (iRng1' (aCons (eFn vLen (aCons (eVar 3) aNil)) aNil)) (gN 4) (sSeq (sIf (tOr' (tB' (eBin vNe (eUn (vXv csL "code") (eBin vIx (eVar 0) (eVar 4))) (eBin vIx (eVar 3) (eVar 4)))) (tNot' (tB' (eCall (f__law_same 6) (aCons (eCall f__law_fields (aCons (eBin vIx (eVar 0) (eVar 4)) aNil)) (aCons (eCall f__law_due (aCons (eBin vIx (eVar 3) (eVar 4)) (aCons (eVar 1) (aCons (eVar 2) aNil)))) aNil)))))) (sRet (eC (.bl false))) sNop)
    (sSeq (sIf (tB' (eBin vNe (eCall f__law_kinds (aCons (eBin vIx (eVar 0) (eVar 4)) aNil)) (eLc (iRng1' (aCons (eFn vLen (aCons (eVar 3) aNil)) aNil)) (gN 6) tYes' (eBin vEq (eVar 6) (eVar 4)) [6]))) (sRet (eC (.bl false))) sNop)
    (sSeq (sAsg (eIf (tB' (eBin vLt (eVar 4) (eC (.int 29)))) (eLst (aCons (eC (.bl true)) (aCons (eC (.bl true)) (aCons (eC (.bl false)) (aCons (eC (.bl false)) (aCons (eC (.bl false)) (aCons (eC (.bl false)) aNil))))))) (eLst (aCons (eC (.bl false)) (aCons (eC (.bl false)) (aCons (eC (.bl true)) (aCons (eC (.bl true)) (aCons (eC (.bl false)) (aCons (eC (.bl false)) aNil)))))))) (gN 5))
    (sIf (tB' (eBin vNe (eCall f__law_bases (aCons (eBin vIx (eVar 0) (eVar 4)) aNil)) (eIf (tB' (eBin vLt (eVar 4) (eC (.int 30)))) (eVar 5) (eLst (aCons (eC (.bl false)) (aCons (eC (.bl false)) (aCons (eC (.bl false)) (aCons (eC (.bl true)) (aCons (eC (.bl true)) (aCons (eC (.bl false)) aNil)))))))))) (sRet (eC (.bl false))) sNop)))))
    (sRet (eC (.bl true)))))
def f__law_all_so : Fn := runF .fz 3 7 b__law_all_so
theorem ar__law_all_so : Ar f__law_all_so 3 := ar_run
theorem fd__law_all_so (T : Hv fa fn csX ysX cvX gtX dfX tfX xsX K mg) : ∃ fd, FunD (gK K).K "_law_all_so" "_law_all_so" (defArgs s__law_all_so) (defBody s__law_all_so) (defScope s__law_all_so) [] [] (He.ga K "_law_all_so") fd := T.def_ 45
theorem fb__law_all_so (T : Hv fa fn csX ysX cvX gtX dfX tfX xsX K mg) (cdv : Value) (A : Around) (outer : List Env) (s : Shared) (H : Hp) (E : XK) (hr : Room 6 (A.deeper (envOfC "_law_all_so" (defScope s__law_all_so) s.heap.objs.size (He.ga K "_law_all_so") cdv))) : GSs (gK K) (WF E) (cxOf (L2.CX P w) P w (gK K).K mg base ["made", "x", "y", "codes", "k", "bases", "j"] "_law_all_so" (defScope s__law_all_so) (He.ga K "_law_all_so") cdv A outer s H E) (defBody s__law_all_so) b__law_all_so := by
  have nd := sc__law_all_so.nd
  have tk := tk_of (P := P) (w := w) (K := (gK K).K) (mg := mg) (base := base) (N := ["made", "x", "y", "codes", "k", "bases", "j"]) (qual := "_law_all_so") (scope := defScope s__law_all_so) (f := He.ga K "_law_all_so") (cdv := cdv) (A := A) (outer := outer) (s := s) (H := H) (E := E)
  have hu := hu64 hr
  have hu5 := hu65 hr
  exact (gss_cons (gs_asg (ge_call0 (fg__law_codes T) rfl ar__law_codes (hr.mono (by decide)) rfl tk rfl (fun _ _ _ _ _ _ us hl => match us, hl with | [], _ => rfl)) (gg_name (pg_name (i := 3) nd rfl (Or.inl rfl))))
    (gss_cons (gs_for po_of rfl (gi_rng1 rfl (T.free 40) (ga_cons (ge_callB (cLen ⟨rfl⟩) rfl (T.free 33) (by decide +kernel) (ga_cons (ge_var (pv 3)) ga_nil)) ga_nil)) (gg_name (pg_name (i := 4) nd rfl (Or.inr rfl))) (gss_cons (gs_if (PW.pt (gw_or (gt_cmp (opNe ⟨rfl⟩ hu) (ge_xv ⟨rfl⟩ (T.xf rfl rfl rfl) (ge_ix (ixAny ⟨rfl⟩) (ge_var (pv 0)) (ge_var (pv 4)))) (ge_ix (ixAny ⟨rfl⟩) (ge_var (pv 3)) (ge_var (pv 4))) (nomark _)) (gw_or1 (gt_not (gt_val (ge_call (fg__law_same T 6) rfl (ar__law_same 6) (hr.mono (by decide)) rfl tk (ga_cons (ge_call (fg__law_fields T) rfl ar__law_fields (hr.mono (by decide)) rfl tk (ga_cons (ge_ix (ixAny ⟨rfl⟩) (ge_var (pv 0)) (ge_var (pv 4))) ga_nil) rfl (fun _ _ _ _ _ _ us hl => match us, hl with | [_], _ => rfl)) (ga_cons (ge_call (fg__law_due T) rfl ar__law_due (hr.mono (by decide)) rfl tk (ga_cons (ge_ix (ixAny ⟨rfl⟩) (ge_var (pv 3)) (ge_var (pv 4))) (ga_cons (ge_var (pv 1)) (ga_cons (ge_var (pv 2)) ga_nil))) rfl (fun _ _ _ _ _ _ us hl => match us, hl with | [_, _, _], _ => rfl)) ga_nil)) rfl (fun _ _ _ _ _ _ us hl => match us, hl with | [_, _], _ => rfl))))))) (gss_one (gs_ret (ge_c pe_bl))) gss_nil)
    (gss_cons (gs_if (gt_cmp (opNe ⟨rfl⟩ hu) (ge_call (fg__law_kinds T) rfl ar__law_kinds (hr.mono (by decide)) rfl tk (ga_cons (ge_ix (ixAny ⟨rfl⟩) (ge_var (pv 0)) (ge_var (pv 4))) ga_nil) rfl (fun _ _ _ _ _ _ us hl => match us, hl with | [_], _ => rfl)) (ge_lc (own := [("j", 6)]) (N := ["made", "x", "y", "codes", "k", "bases", "j"]) (sc := defScope s__law_all_so) rfl nd (gi_rng1 rfl (T.free 40) (ga_cons (ge_callB (cLen ⟨rfl⟩) rfl (T.free 33) (by decide +kernel) (ga_cons (ge_var (pv 3)) ga_nil)) ga_nil)) rfl rfl (by decide +kernel) (fun _ _ _ _ _ => (gg_name (pg_name (i := 6) nd rfl (Or.inl rfl)))) (fun _ _ _ _ _ => gts_nil) (fun _ _ _ _ _ => (ge_cmp (opEq ⟨rfl⟩ hu) (ge_var (pv 6)) (ge_var (pv 4)) (nomark _)))) (nomark _)) (gss_one (gs_ret (ge_c pe_bl))) gss_nil)
    (gss_cons (gs_asg (ge_ifExp (gt_cmp opLt (ge_var (pv 4)) (ge_c pe_int) (nomark _)) (ge_lst (ga_cons (ge_c pe_bl) (ga_cons (ge_c pe_bl) (ga_cons (ge_c pe_bl) (ga_cons (ge_c pe_bl) (ga_cons (ge_c pe_bl) (ga_cons (ge_c pe_bl) ga_nil))))))) (ge_lst (ga_cons (ge_c pe_bl) (ga_cons (ge_c pe_bl) (ga_cons (ge_c pe_bl) (ga_cons (ge_c pe_bl) (ga_cons (ge_c pe_bl) (ga_cons (ge_c pe_bl) ga_nil)))))))) (gg_name (pg_name (i := 5) nd rfl (Or.inl rfl))))
    (gss_one (gs_if (gt_cmp (opNe ⟨rfl⟩ hu) (ge_call (fg__law_bases T) rfl ar__law_bases (hr.mono (by decide)) rfl tk (ga_cons (ge_ix (ixAny ⟨rfl⟩) (ge_var (pv 0)) (ge_var (pv 4))) ga_nil) rfl (fun _ _ _ _ _ _ us hl => match us, hl with | [_], _ => rfl)) (ge_ifExp (gt_cmp opLt (ge_var (pv 4)) (ge_c pe_int) (nomark _)) (ge_var (pv 5)) (ge_lst (ga_cons (ge_c pe_bl) (ga_cons (ge_c pe_bl) (ga_cons (ge_c pe_bl) (ga_cons (ge_c pe_bl) (ga_cons (ge_c pe_bl) (ga_cons (ge_c pe_bl) ga_nil)))))))) (nomark _)) (gss_one (gs_ret (ge_c pe_bl))) gss_nil))))))
    (gss_one (gs_ret (ge_c pe_bl)))))
theorem fg__law_all_so (T : Hv fa fn csX ysX cvX gtX dfX tfX xsX K mg) : FnG P w (gK K) mg base 7 "_law_all_so" s__law_all_so ["made", "x", "y"] [] f__law_all_so := fg_of (T.glo 62) (fd__law_all_so T) sc__law_all_so (fb__law_all_so T)
theorem sc_law : FnScope ["script", "box", "x", "y", "first", "second", "third", "handed", "late", "e"] ["script"] (defScope s_law) := ⟨rfl, rfl, rfl, by decide +kernel, rfl, by decide +kernel, by decide +kernel⟩
def b_law : DS :=
  (sSeq (sAsg (eCall f__law_box (aCons (eVar 0) (aCons (eC (.int 120320007)) aNil))) (gN 1))
    (sSeq (sAsg (eTup (aCons (eCall f__law_odd (aCons (eVar 1) aNil)) (aCons (eCall f__law_pick (aCons (eVar 1) (aCons (eLst (aCons (eCall f__law_odd (aCons (eVar 1) aNil)) (aCons (eCall f__law_take (aCons (eVar 1) (aCons (eBin vPow (eC (.int 10)) (eC (.int 9))) aNil))) (aCons (eCall f__law_word (aCons (eVar 1) (aCons (eC (.int 6)) aNil))) aNil)))) aNil))) aNil))) (gTup' (gCons' (gN 2) (gCons' (gN 3) gNil')) 2))
    (sSeq (sPar3 4 5 6 (aCons (eCall f__law_by_place (aCons (eVar 2) (aCons (eVar 3) aNil))) (aCons (eCall f__law_by_name (aCons (eVar 3) (aCons (eVar 2) aNil))) (aCons (eCall f__law_by_place (aCons (eC (.str "")) (aCons (eC (.int 0)) aNil))) aNil))))
    (sSeq (sAsg (eLstC (aCons (eVar 2) aNil)) (gN 7))
    (sSeq (sAsg (eLst (aCons (eMkV 0 ["value"] "InvalidName" (aCons (eVar 7) aNil)) (aCons (eMkVK 22 ["peg"] "Held" [0] 1 (aCons (eVar 7) aNil)) (aCons (eMkV 29 ["name"] "UnknownName" (aCons (eVar 7) aNil)) aNil)))) (gN 8))
    (sSeq (sExpr (eBm "list" mAppend (eVar 7) (aCons (eVar 3) aNil)))
    (sSeq (sIf (tNot' (tB' (eFn vAll (aCons (eLc (iSeq (eVar 8)) (gN 9) tYes' (eCall (f__law_same 6) (aCons (eCall f__law_fields (aCons (eVar 9) aNil)) (aCons (eTup (aCons (eLst (aCons (eVar 2) (aCons (eVar 3) aNil))) aNil)) aNil))) [9]) aNil)))) (sRet (eC (.bl false))) sNop)
    (sRet (eAnd (eCall f__law_all_so (aCons (eVar 4) (aCons (eVar 2) (aCons (eVar 3) aNil)))) (eAnd (eCall f__law_all_so (aCons (eVar 5) (aCons (eVar 3) (aCons (eVar 2) aNil)))) (eCall f__law_all_so (aCons (eVar 6) (aCons (eC (.str "")) (aCons (eC (.int 0)) aNil))))))))))))))
def f_law : Fn := runF .fz 1 10 b_law
theorem fd_law (T : Hv fa fn csX ysX cvX gtX dfX tfX xsX K mg) : ∃ fd, FunD (gK K).K "law" "law" (defArgs s_law) (defBody s_law) (defScope s_law) [] [] (He.ga K "law") fd := T.def_ 46
theorem fb_law (T : Hv fa fn csX ysX cvX gtX dfX tfX xsX K mg) (cdv : Value) (A : Around) (outer : List Env) (s : Shared) (H : Hp) (E : XK) (hr : Room 7 (A.deeper (envOfC "law" (defScope s_law) s.heap.objs.size (He.ga K "law") cdv))) : GSs (gK K) (WF E) (cxOf (L2.CX P w) P w (gK K).K mg base ["script", "box", "x", "y", "first", "second", "third", "handed", "late", "e"] "law" (defScope s_law) (He.ga K "law") cdv A outer s H E) (defBody s_law) b_law := by
  have nd := sc_law.nd
  have tk := tk_of (P := P) (w := w) (K := (gK K).K) (mg := mg) (base := base) (N := ["script", "box", "x", "y", "first", "second", "third", "handed", "late", "e"]) (qual := "law") (scope := defScope s_law) (f := He.ga K "law") (cdv := cdv) (A := A) (outer := outer) (s := s) (H := H) (E := E)
  have hu := hu64 hr
  have hu5 := hu65 hr
  exact (gss_cons (gs_asg (ge_call (fg__law_box T) rfl ar__law_box (hr.mono (by decide)) rfl tk (ga_cons (ge_var (pv 0)) (ga_cons (ge_c pe_int) ga_nil)) rfl (fun _ _ _ _ _ _ us hl => match us, hl with | [_, _], _ => rfl)) (gg_name (pg_name (i := 1) nd rfl (Or.inl rfl))))
    (gss_cons (gs_asg (ge_tup (ga_cons (ge_call (fg__law_odd T) rfl ar__law_odd (hr.mono (by decide)) rfl tk (ga_cons (ge_var (pv 1)) ga_nil) rfl (fun _ _ _ _ _ _ us hl => match us, hl with | [_], _ => rfl)) (ga_cons (ge_call (fg__law_pick T) rfl ar__law_pick (hr.mono (by decide)) rfl tk (ga_cons (ge_var (pv 1)) (ga_cons (ge_lst (ga_cons (ge_call (fg__law_odd T) rfl ar__law_odd (hr.mono (by decide)) rfl tk (ga_cons (ge_var (pv 1)) ga_nil) rfl (fun _ _ _ _ _ _ us hl => match us, hl with | [_], _ => rfl)) (ga_cons (ge_call (fg__law_take T) rfl ar__law_take (hr.mono (by decide)) rfl tk (ga_cons (ge_var (pv 1)) (ga_cons (ge_bin opPow (ge_c pe_int) (ge_c pe_int)) ga_nil)) rfl (fun _ _ _ _ _ _ us hl => match us, hl with | [_, _], _ => rfl)) (ga_cons (ge_call (fg__law_word T) rfl ar__law_word (hr.mono (by decide)) rfl tk (ga_cons (ge_var (pv 1)) (ga_cons (ge_c pe_int) ga_nil)) rfl (fun _ _ _ _ _ _ us hl => match us, hl with | [_, _], _ => rfl)) ga_nil)))) ga_nil)) rfl (fun _ _ _ _ _ _ us hl => match us, hl with | [_, _], _ => rfl)) ga_nil))) (gg_tup ⟨rfl⟩ rfl (ggs_cons (gg_name (pg_name (i := 2) nd rfl (Or.inr rfl))) (ggs_cons (gg_name (pg_name (i := 3) nd rfl (Or.inr rfl))) ggs_nil))))
    (gss_cons (gs_par3 (i := 4) (j := 5) (l := 6) rfl nd rfl rfl rfl (by decide) (by decide) (by decide) rfl rfl rfl (ga_cons (ge_call (fg__law_by_place T) rfl ar__law_by_place (hr.mono (by decide)) rfl tk (ga_cons (ge_var (pv 2)) (ga_cons (ge_var (pv 3)) ga_nil)) rfl (fun _ _ _ _ _ _ us hl => match us, hl with | [_, _], _ => rfl)) (ga_cons (ge_call (fg__law_by_name T) rfl ar__law_by_name (hr.mono (by decide)) rfl tk (ga_cons (ge_var (pv 3)) (ga_cons (ge_var (pv 2)) ga_nil)) rfl (fun _ _ _ _ _ _ us hl => match us, hl with | [_, _], _ => rfl)) (ga_cons (ge_call (fg__law_by_place T) rfl ar__law_by_place (hr.mono (by decide)) rfl tk (ga_cons (ge_c pe_str) (ga_cons (ge_c pe_int) ga_nil)) rfl (fun _ _ _ _ _ _ us hl => match us, hl with | [_, _], _ => rfl)) ga_nil))))
    (gss_cons (gs_asg (ge_lstC (ga_cons (ge_var (pv 2)) ga_nil)) (gg_name (pg_name (i := 7) nd rfl (Or.inl rfl))))
    (gss_cons (gs_asg (ge_lst (ga_cons (ge_mkV (xc_InvalidName T) ⟨rfl⟩ (hr.mono (by decide)) rfl tk (ga_cons (ge_var (pv 7)) ga_nil)) (ga_cons (ge_mkVK (ix := [0]) (ks := ["peg"]) (xc_Held T) (T.xc 22) rfl (fd_Held T) ⟨rfl⟩ (hr.mono (by decide)) rfl tk (gk_cons (ge_var (pv 7)) gk_nil) (fun _ _ _ _ _ _ _ ws hl => match ws, hl with | [_], _ => rfl)) (ga_cons (ge_mkV (xc_UnknownName T) ⟨rfl⟩ (hr.mono (by decide)) rfl tk (ga_cons (ge_var (pv 7)) ga_nil)) ga_nil)))) (gg_name (pg_name (i := 8) nd rfl (Or.inl rfl))))
    (gss_cons (gs_expr (ge_bm (name' := "") ⟨rfl⟩ PySem.F.plainAttrs_list PySem.F.slot_list_append PySem.F.type_list_append mtAppend (ge_var (pv 7)) (ga_cons (ge_var (pv 3)) ga_nil)))
    (gss_cons (gs_if (gt_not (gt_val (ge_callB (cAll ⟨rfl⟩ rfl) rfl (T.free 41) (by decide +kernel) (ga_cons (ge_lc (own := [("e", 9)]) (N := ["script", "box", "x", "y", "first", "second", "third", "handed", "late", "e"]) (sc := defScope s_law) rfl nd (gi_seq ⟨rfl⟩ (ge_var (pv 8))) rfl rfl (by decide +kernel) (fun _ _ _ _ _ => (gg_name (pg_name (i := 9) nd rfl (Or.inl rfl)))) (fun _ _ _ _ _ => gts_nil) (fun _ _ _ _ _ => (ge_call (fg__law_same T 6) rfl (ar__law_same 6) (hr.mono (by decide)) rfl takes0 (ga_cons (ge_call (fg__law_fields T) rfl ar__law_fields (hr.mono (by decide)) rfl takes0 (ga_cons (ge_var (pv 9)) ga_nil) rfl (fun _ _ _ _ _ _ us hl => match us, hl with | [_], _ => rfl)) (ga_cons (ge_tup (ga_cons (ge_lst (ga_cons (ge_var (pv 2)) (ga_cons (ge_var (pv 3)) ga_nil))) ga_nil)) ga_nil)) rfl (fun _ _ _ _ _ _ us hl => match us, hl with | [_, _], _ => rfl)))) ga_nil)))) (gss_one (gs_ret (ge_c pe_bl))) gss_nil)
    (gss_one (gs_ret (ge_and (ge_call (fg__law_all_so T) rfl ar__law_all_so (hr.mono (by decide)) rfl tk (ga_cons (ge_var (pv 4)) (ga_cons (ge_var (pv 2)) (ga_cons (ge_var (pv 3)) ga_nil))) rfl (fun _ _ _ _ _ _ us hl => match us, hl with | [_, _, _], _ => rfl)) (ge_and (ge_call (fg__law_all_so T) rfl ar__law_all_so (hr.mono (by decide)) rfl tk (ga_cons (ge_var (pv 5)) (ga_cons (ge_var (pv 3)) (ga_cons (ge_var (pv 2)) ga_nil))) rfl (fun _ _ _ _ _ _ us hl => match us, hl with | [_, _, _], _ => rfl)) (ge_one (ge_call (fg__law_all_so T) rfl ar__law_all_so (hr.mono (by decide)) rfl tk (ga_cons (ge_var (pv 6)) (ga_cons (ge_c pe_str) (ga_cons (ge_c pe_int) ga_nil))) rfl (fun _ _ _ _ _ _ us hl => match us, hl with | [_, _, _], _ => rfl))))))))))))))
end
end Lw

set_option Elab.async false
set_option linter.all false
set_option maxRecDepth 100000
set_option maxHeartbeats 4000000
namespace SD
open PySem PySem.Spec PyProof.Rows L2

section
variable {α β : Type} {ρ : En} {μ μ1 : Sto} {d : DV}
@[simp] theorem of_some {a : α} : R.of (some a) μ = .ok a μ := rfl
@[simp] theorem of_none : (R.of none μ : R α) = .stuck := rfl
@[simp] theorem ofS_some {a : α} : R.ofS (some (a, μ)) = .ok a μ := rfl
@[simp] theorem ofS_none : (R.ofS none : R α) = .stuck := rfl
@[simp] theorem eC_ap : eC d ρ μ = .ok d μ := rfl
@[simp] theorem eVar_ap {i : Nat} : eVar i ρ μ = match ρ[i]? with
  | some (some d) => .ok d μ
  | _ => .stuck := rfl
def R.un (f : V1) (r : R DV) : R DV := match r with
  | .ok x μ => R.of (f x μ) μ
  | .ex c ns xs μ => .ex c ns xs μ
  | .stuck => .stuck
def R.bin1 (f : V2) (r : R DV) (b : DE) (ρ : En) : R DV := r.bind fun x μ1 => (b ρ μ1).bind fun y μ2 => R.of (f x y μ2) μ2
def R.bin2 (f : V2) (x : DV) (r : R DV) : R DV := r.bind fun y μ2 => R.of (f x y μ2) μ2
@[simp] theorem eUn_ap {f : V1} {a : DE} : eUn f a ρ μ = R.un f (a ρ μ) := by unfold eUn R.un R.bind; cases a ρ μ <;> rfl
@[simp] theorem un_ok {f : V1} {x : DV} : R.un f (.ok x μ) = R.of (f x μ) μ := rfl
@[simp] theorem eBin_ap {f : V2} {a b : DE} : eBin f a b ρ μ = R.bin1 f (a ρ μ) b ρ := rfl
@[simp] theorem bin1_ok {f : V2} {x : DV} {b : DE} : R.bin1 f (.ok x μ) b ρ = R.bin2 f x (b ρ μ) := rfl
@[simp] theorem bin2_ok {f : V2} {x y : DV} : R.bin2 f x (.ok y μ) = R.of (f x y μ) μ := rfl
def R.tb (r : R DV) : R Bool := r.bind fun d μ1 => R.of (asB d) μ1
@[simp] theorem tB_ap {f : DE} : tB' f ρ μ = (f ρ μ).tb := rfl
@[simp] theorem tb_ok {b : Bool} : (R.ok (.bl b) μ).tb = .ok b μ := rfl
def R.ch1 (f f' : V2) (r : R DV) (b c : DE) (ρ : En) : R DV := r.bind fun x μ1 => (b ρ μ1).bind fun y μ2 => (R.of ((f x y μ2).bind asB) μ2).bind fun k μ3 =>
  if k = true then (c ρ μ3).bind fun z μ4 => R.of (f' y z μ4) μ4 else .ok (.bl false) μ3
def R.ch2 (f f' : V2) (x : DV) (r : R DV) (c : DE) (ρ : En) : R DV := r.bind fun y μ2 => (R.of ((f x y μ2).bind asB) μ2).bind fun k μ3 =>
  if k = true then (c ρ μ3).bind fun z μ4 => R.of (f' y z μ4) μ4 else .ok (.bl false) μ3
def R.ch3 (f' : V2) (y : DV) (r : R Bool) (c : DE) (ρ : En) : R DV := r.bind fun k μ3 => if k = true then (c ρ μ3).bind fun z μ4 => R.of (f' y z μ4) μ4 else .ok (.bl false) μ3
@[simp] theorem eChain_ap {f f' : V2} {a b c : DE} : eChain f f' a b c ρ μ = R.ch1 f f' (a ρ μ) b c ρ := rfl
@[simp] theorem ch1_ok {f f' : V2} {x : DV} {b c : DE} : R.ch1 f f' (.ok x μ) b c ρ = R.ch2 f f' x (b ρ μ) c ρ := rfl
@[simp] theorem ch2_ok {f f' : V2} {x y : DV} {c : DE} : R.ch2 f f' x (.ok y μ) c ρ = R.ch3 f' y (R.of ((f x y μ).bind asB) μ) c ρ := rfl
@[simp] theorem ch3_t {f' : V2} {y : DV} {c : DE} : R.ch3 f' y (.ok true μ) c ρ = R.bin2 f' y (c ρ μ) := rfl
@[simp] theorem ch3_f {f' : V2} {y : DV} {c : DE} : R.ch3 f' y (.ok false μ) c ρ = .ok (.bl false) μ := rfl
@[simp] theorem asB_bl {b : Bool} : asB (.bl b) = some b := rfl
def R.tand (r : R Bool) (u : DT) (ρ : En) : R Bool := r.bind fun b μ1 => if b = true then u ρ μ1 else .ok false μ1
def R.tor (r : R Bool) (u : DT) (ρ : En) : R Bool := r.bind fun b μ1 => if b = true then .ok true μ1 else u ρ μ1
def R.tnot (r : R Bool) : R Bool := r.bind fun b μ1 => .ok (!b) μ1
@[simp] theorem tAnd_ap {t u : DT} : tAnd' t u ρ μ = R.tand (t ρ μ) u ρ := rfl
@[simp] theorem tOr_ap {t u : DT} : tOr' t u ρ μ = R.tor (t ρ μ) u ρ := rfl
@[simp] theorem tNot_ap {t : DT} : tNot' t ρ μ = R.tnot (t ρ μ) := rfl
@[simp] theorem tand_t {u : DT} : R.tand (.ok true μ) u ρ = u ρ μ := rfl
@[simp] theorem tand_f {u : DT} : R.tand (.ok false μ) u ρ = .ok false μ := rfl
@[simp] theorem tor_t {u : DT} : R.tor (.ok true μ) u ρ = .ok true μ := rfl
@[simp] theorem tor_f {u : DT} : R.tor (.ok false μ) u ρ = u ρ μ := rfl
@[simp] theorem tnot_ok {b : Bool} : R.tnot (.ok b μ) = .ok (!b) μ := rfl
def R.eand (r : R DV) (b : DE) (ρ : En) : R DV := r.bind fun x μ1 => (R.of (asB x) μ1).bind fun k μ2 => if k = true then b ρ μ2 else .ok (.bl false) μ2
def R.eor (r : R DV) (b : DE) (ρ : En) : R DV := r.bind fun x μ1 => (R.of (asB x) μ1).bind fun k μ2 => if k = true then .ok (.bl true) μ2 else b ρ μ2
def R.enot (r : R DV) : R DV := r.bind fun x μ1 => (R.of (asB x) μ1).bind fun k μ2 => .ok (.bl (!k)) μ2
@[simp] theorem eAnd_ap {a b : DE} : eAnd a b ρ μ = R.eand (a ρ μ) b ρ := rfl
@[simp] theorem eOr_ap {a b : DE} : eOr a b ρ μ = R.eor (a ρ μ) b ρ := rfl
@[simp] theorem eNot_ap {a : DE} : eNot a ρ μ = R.enot (a ρ μ) := rfl
@[simp] theorem eand_t {b : DE} : R.eand (.ok (.bl true) μ) b ρ = b ρ μ := rfl
@[simp] theorem eand_f {b : DE} : R.eand (.ok (.bl false) μ) b ρ = .ok (.bl false) μ := rfl
@[simp] theorem eor_t {b : DE} : R.eor (.ok (.bl true) μ) b ρ = .ok (.bl true) μ := rfl
@[simp] theorem eor_f {b : DE} : R.eor (.ok (.bl false) μ) b ρ = b ρ μ := rfl
@[simp] theorem enot_ok {b : Bool} : R.enot (.ok (.bl b) μ) = .ok (.bl (!b)) μ := rfl
def R.eif (r : R Bool) (a b : DE) (ρ : En) : R DV := r.bind fun k μ1 => if k = true then a ρ μ1 else b ρ μ1
@[simp] theorem eIf_ap {t : DT} {a b : DE} : eIf t a b ρ μ = R.eif (t ρ μ) a b ρ := rfl
@[simp] theorem eif_t {a b : DE} : R.eif (.ok true μ) a b ρ = a ρ μ := rfl
@[simp] theorem eif_f {a b : DE} : R.eif (.ok false μ) a b ρ = b ρ μ := rfl
def R.ac1 (r : R DV) (q : DA) (ρ : En) : R (List DV) := r.bind fun x μ1 => (q ρ μ1).bind fun xs μ2 => .ok (x :: xs) μ2
def R.ac2 (x : DV) (r : R (List DV)) : R (List DV) := r.bind fun xs μ2 => .ok (x :: xs) μ2
@[simp] theorem aNil_ap : aNil ρ μ = .ok [] μ := rfl
@[simp] theorem aCons_ap {a : DE} {r : DA} : aCons a r ρ μ = R.ac1 (a ρ μ) r ρ := rfl
@[simp] theorem ac1_ok {x : DV} {r : DA} : R.ac1 (.ok x μ) r ρ = R.ac2 x (r ρ μ) := rfl
@[simp] theorem ac2_ok {x : DV} {xs : List DV} : R.ac2 x (.ok xs μ) = .ok (x :: xs) μ := rfl
def R.mk (f : List DV → Sto → R DV) (r : R (List DV)) : R DV := r.bind f
@[simp] theorem mk_ok {f : List DV → Sto → R DV} {xs : List DV} : R.mk f (.ok xs μ) = f xs μ := rfl
def mkT : List DV → Sto → R DV := fun xs μ1 => if okLen xs.length = true then .ok (.tup xs) μ1 else .stuck
def mkL : List DV → Sto → R DV := fun xs μ1 => if okLen xs.length = true then .ok (.lst xs) μ1 else .stuck
def mkC : List DV → Sto → R DV := fun xs μ1 => if okLen xs.length = true then .ok (.cell μ1.length) (μ1 ++ [.lst xs]) else .stuck
@[simp] theorem eTup_ap {r : DA} : eTup r ρ μ = R.mk mkT (r ρ μ) := rfl
@[simp] theorem eLst_ap {r : DA} : eLst r ρ μ = R.mk mkL (r ρ μ) := rfl
@[simp] theorem eLstC_ap {r : DA} : eLstC r ρ μ = R.mk mkC (r ρ μ) := rfl
theorem okLen_small {n : Nat} (h : n ≤ 16777216) : okLen n = true := okLen_iff.mpr (by rw [sizeLine_eq]; exact h)
theorem mkT_small {xs : List DV} (h : xs.length ≤ 16777216) : mkT xs μ = .ok (.tup xs) μ := if_pos (okLen_small h)
theorem mkL_small {xs : List DV} (h : xs.length ≤ 16777216) : mkL xs μ = .ok (.lst xs) μ := if_pos (okLen_small h)
theorem mkC_small {xs : List DV} (h : xs.length ≤ 16777216) : mkC xs μ = .ok (.cell μ.length) (μ ++ [.lst xs]) := if_pos (okLen_small h)
@[simp] theorem mkT0 : mkT [] μ = .ok (.tup []) μ := mkT_small (by decide)
@[simp] theorem mkL0 : mkL [] μ = .ok (.lst []) μ := mkL_small (by decide)
@[simp] theorem mkC0 : mkC [] μ = .ok (.cell μ.length) (μ ++ [.lst []]) := mkC_small (by decide)
@[simp] theorem mkT1 {a : DV} : mkT [a] μ = .ok (.tup [a]) μ := mkT_small (by show 1 ≤ _; decide)
@[simp] theorem mkT2 {a b : DV} : mkT [a, b] μ = .ok (.tup [a, b]) μ := mkT_small (by show 2 ≤ _; decide)
@[simp] theorem mkT3 {a b c : DV} : mkT [a, b, c] μ = .ok (.tup [a, b, c]) μ := mkT_small (by show 3 ≤ _; decide)
@[simp] theorem mkL1 {a : DV} : mkL [a] μ = .ok (.lst [a]) μ := mkL_small (by show 1 ≤ _; decide)
@[simp] theorem mkL2 {a b : DV} : mkL [a, b] μ = .ok (.lst [a, b]) μ := mkL_small (by show 2 ≤ _; decide)
@[simp] theorem mkL3 {a b c : DV} : mkL [a, b, c] μ = .ok (.lst [a, b, c]) μ := mkL_small (by show 3 ≤ _; decide)
@[simp] theorem eFn_ap {f : VN} {r : DA} : eFn f r ρ μ = R.mk (fun xs μ1 => R.of (f xs μ1) μ1) (r ρ μ) := rfl
@[simp] theorem eCall_ap {F : Fn} {r : DA} : eCall F r ρ μ = R.mk F (r ρ μ) := rfl
@[simp] theorem eCallD_ap {F : Fn} {ds : List DV} {r : DA} : eCallD F ds r ρ μ = R.mk (fun xs μ1 => F (xs ++ ds) μ1) (r ρ μ) := rfl
def R.ck1 (F : Fn) (ix : List Nat) (n m : Nat) (r : R (List DV)) (k : DA) (ρ : En) : R DV := r.bind fun xs μ1 => (k ρ μ1).bind fun ys μ2 => if xs.length = n ∧ ys.length = m then F (permL ix (xs ++ ys)) μ2 else .stuck
def R.ck2 (F : Fn) (ix : List Nat) (n m : Nat) (xs : List DV) (r : R (List DV)) : R DV := r.bind fun ys μ2 => if xs.length = n ∧ ys.length = m then F (permL ix (xs ++ ys)) μ2 else .stuck
@[simp] theorem eCallK_ap {F : Fn} {ix : List Nat} {n m : Nat} {r k : DA} : eCallK F ix n m r k ρ μ = R.ck1 F ix n m (r ρ μ) k ρ := rfl
@[simp] theorem ck1_ok {F : Fn} {ix : List Nat} {n m : Nat} {xs : List DV} {k : DA} : R.ck1 F ix n m (.ok xs μ) k ρ = R.ck2 F ix n m xs (k ρ μ) := rfl
@[simp] theorem ck2_ok {F : Fn} {ix : List Nat} {n m : Nat} {xs ys : List DV} : R.ck2 F ix n m xs (.ok ys μ) = if xs.length = n ∧ ys.length = m then F (permL ix (xs ++ ys)) μ else .stuck := rfl
def R.o1 (r : R DV) : R (Option Int) := r.bind fun x μ1 => (R.of (asI x) μ1).bind fun i μ2 => .ok (some i) μ2
@[simp] theorem oNone_ap : oNone ρ μ = .ok none μ := rfl
@[simp] theorem oSome_ap {a : DE} : oSome a ρ μ = R.o1 (a ρ μ) := rfl
@[simp] theorem o1_ok {i : Int} : R.o1 (.ok (.int i) μ) = .ok (some i) μ := rfl
def R.sl1 (f : VSl) (r : R DV) (lo hi : DO) (ρ : En) : R DV := r.bind fun x μ1 => (lo ρ μ1).bind fun l μ2 => (hi ρ μ2).bind fun u μ3 => R.of (f x l u μ3) μ3
def R.sl2 (f : VSl) (x : DV) (r : R (Option Int)) (hi : DO) (ρ : En) : R DV := r.bind fun l μ2 => (hi ρ μ2).bind fun u μ3 => R.of (f x l u μ3) μ3
def R.sl3 (f : VSl) (x : DV) (l : Option Int) (r : R (Option Int)) : R DV := r.bind fun u μ3 => R.of (f x l u μ3) μ3
@[simp] theorem eSl_ap {f : VSl} {a : DE} {lo hi : DO} : eSl f a lo hi ρ μ = R.sl1 f (a ρ μ) lo hi ρ := rfl
@[simp] theorem sl1_ok {f : VSl} {x : DV} {lo hi : DO} : R.sl1 f (.ok x μ) lo hi ρ = R.sl2 f x (lo ρ μ) hi ρ := rfl
@[simp] theorem sl2_ok {f : VSl} {x : DV} {l : Option Int} {hi : DO} : R.sl2 f x (.ok l μ) hi ρ = R.sl3 f x l (hi ρ μ) := rfl
@[simp] theorem sl3_ok {f : VSl} {x : DV} {l u : Option Int} : R.sl3 f x l (.ok u μ) = R.of (f x l u μ) μ := rfl
def R.bm1 (T : String) (f : VM) (r : R DV) (q : DA) (ρ : En) : R DV := r.bind fun x μ1 => if recv T x μ1 = true then (q ρ μ1).bind fun xs μ2 => R.ofS (f x xs μ2) else .stuck
def R.bm2 (f : VM) (x : DV) (r : R (List DV)) : R DV := r.bind fun xs μ2 => R.ofS (f x xs μ2)
@[simp] theorem eBm_ap {T : String} {f : VM} {o : DE} {r : DA} : eBm T f o r ρ μ = R.bm1 T f (o ρ μ) r ρ := rfl
@[simp] theorem bm1_ok {T : String} {f : VM} {x : DV} {q : DA} : R.bm1 T f (.ok x μ) q ρ = if recv T x μ = true then R.bm2 f x (q ρ μ) else .stuck := rfl
@[simp] theorem bm2_ok {f : VM} {x : DV} {xs : List DV} : R.bm2 f x (.ok xs μ) = R.ofS (f x xs μ) := rfl
def R.bm0 (T : String) (f : VM) (r : R DV) : R DV := r.bind fun x μ1 => if recv T x μ1 = true then R.ofS (f x [] μ1) else .stuck
@[simp] theorem eBm0_ap {T : String} {f : VM} {o : DE} : eBm0 T f o ρ μ = R.bm0 T f (o ρ μ) := rfl
@[simp] theorem bm0_ok {T : String} {f : VM} {x : DV} : R.bm0 T f (.ok x μ) = if recv T x μ = true then R.ofS (f x [] μ) else .stuck := rfl
@[simp] theorem recv_str {x : Str} : recv "str" (.str x) μ = true := rfl
@[simp] theorem recv_cell {i : Nat} {xs : List DV} (h : μ[i]? = some (.lst xs)) : recv "list" (.cell i) μ = true := by simp only [recv, h]; rfl

@[simp] theorem sNop_ap : sNop ρ μ = .nx ρ μ := rfl
@[simp] theorem sBrk_ap : sBrk ρ μ = .bk ρ μ := rfl
@[simp] theorem sCnt_ap : sCnt ρ μ = .ct ρ μ := rfl
@[simp] theorem sRetN_ap : sRetN ρ μ = .rt .non μ := rfl
def SR.seq (r : SR) (h : DS) : SR := match r with
  | .nx ρ' μ' => h ρ' μ'
  | r => r
@[simp] theorem sSeq_ap {f h : DS} : sSeq f h ρ μ = SR.seq (f ρ μ) h := rfl
@[simp] theorem seq_nx {h : DS} : SR.seq (.nx ρ μ) h = h ρ μ := rfl
@[simp] theorem seq_rt {h : DS} : SR.seq (.rt d μ) h = .rt d μ := rfl
@[simp] theorem seq_bk {h : DS} : SR.seq (.bk ρ μ) h = .bk ρ μ := rfl
@[simp] theorem seq_ct {h : DS} : SR.seq (.ct ρ μ) h = .ct ρ μ := rfl
@[simp] theorem seq_ex {h : DS} {c : Nat} {ns : List Str} {xs : List DV} : SR.seq (.ex c ns xs ρ μ) h = .ex c ns xs ρ μ := rfl
def R.ret (r : R DV) (ρ : En) : SR := r.toS ρ fun d μ1 => .rt d μ1
def R.xpr (r : R DV) (ρ : En) : SR := r.toS ρ fun _ μ1 => .nx ρ μ1
def R.sif (r : R Bool) (f h : DS) (ρ : En) : SR := r.toS ρ fun k μ1 => if k = true then f ρ μ1 else h ρ μ1
def R.asg (r : R DV) (t : DG) (ρ : En) : SR := r.toS ρ fun d μ1 => match t d ρ μ1 with
  | some ρ' => .nx ρ' μ1
  | none => .stuck
def R.par (i j : Nat) (r : R (List DV)) (ρ : En) : SR := r.toS ρ fun ds μ1 => match ds with
  | [d, e] => .nx ((ρ.set i (some d)).set j (some e)) μ1
  | _ => .stuck
@[simp] theorem sRet_ap {a : DE} : sRet a ρ μ = R.ret (a ρ μ) ρ := rfl
@[simp] theorem ret_ok : R.ret (.ok d μ) ρ = .rt d μ := rfl
@[simp] theorem ret_ex {c : Nat} {ns : List Str} {xs : List DV} : R.ret (.ex c ns xs μ) ρ = .ex c ns xs ρ μ := rfl
@[simp] theorem sExpr_ap {a : DE} : sExpr a ρ μ = R.xpr (a ρ μ) ρ := rfl
@[simp] theorem xpr_ok : R.xpr (.ok d μ) ρ = .nx ρ μ := rfl
@[simp] theorem sIf_ap {t : DT} {f h : DS} : sIf t f h ρ μ = R.sif (t ρ μ) f h ρ := rfl
@[simp] theorem sif_t {f h : DS} : R.sif (.ok true μ) f h ρ = f ρ μ := rfl
@[simp] theorem sif_f {f h : DS} : R.sif (.ok false μ) f h ρ = h ρ μ := rfl
@[simp] theorem sAsg_ap {a : DE} {t : DG} : sAsg a t ρ μ = R.asg (a ρ μ) t ρ := rfl
@[simp] theorem asg_ok {t : DG} : R.asg (.ok d μ) t ρ = match t d ρ μ with
  | some ρ' => .nx ρ' μ
  | none => .stuck := rfl
@[simp] theorem sPar_ap {i j : Nat} {r : DA} : sPar i j r ρ μ = R.par i j (r ρ μ) ρ := rfl
@[simp] theorem par_ok {i j : Nat} {d e : DV} : R.par i j (.ok [d, e] μ) ρ = .nx ((ρ.set i (some d)).set j (some e)) μ := rfl
def R.par3 (i j l : Nat) (r : R (List DV)) (ρ : En) : SR := r.toS ρ fun ds μ1 => match ds with
  | [d, e, f] => .nx (((ρ.set i (some d)).set j (some e)).set l (some f)) μ1
  | _ => .stuck
@[simp] theorem sPar3_ap {i j l : Nat} {r : DA} : sPar3 i j l r ρ μ = R.par3 i j l (r ρ μ) ρ := rfl
@[simp] theorem par3_ok {i j l : Nat} {d e f : DV} : R.par3 i j l (.ok [d, e, f] μ) ρ = .nx (((ρ.set i (some d)).set j (some e)).set l (some f)) μ := rfl
@[simp] theorem gUnl_ap {f : DGs} {n : Nat} {xs : List DV} : gUnl' f n (.lst xs) ρ μ = if xs.length = n then f xs ρ μ else none := rfl
@[simp] theorem gN_ap {i : Nat} : gN i d ρ μ = some (ρ.set i (some d)) := rfl
@[simp] theorem gNil_ap : gNil' [] ρ μ = some ρ := rfl
@[simp] theorem gCons_ap {f : DG} {fs : DGs} {ds : List DV} : gCons' f fs (d :: ds) ρ μ = (f d ρ μ).bind fun ρ' => fs ds ρ' μ := rfl
@[simp] theorem gTup_ap {f : DGs} {n : Nat} {xs : List DV} : gTup' f n (.tup xs) ρ μ = if xs.length = n then f xs ρ μ else none := rfl
def R.st1 (r : R DV) (o i : DE) (ρ : En) : SR := r.toS ρ fun y μ1 => (o ρ μ1).toS ρ fun d μ2 => (i ρ μ2).toS ρ fun k μ3 => match d, k with
  | .cell c, .int k => match μ3[c]? with
    | some (.lst xs) => match ixN xs.length k with
      | some j => .nx ρ (μ3.set c (.lst (xs.set j y)))
      | none => .stuck
    | _ => .stuck
  | _, _ => .stuck
def R.st2 (y : DV) (r : R DV) (i : DE) (ρ : En) : SR := r.toS ρ fun d μ2 => (i ρ μ2).toS ρ fun k μ3 => match d, k with
  | .cell c, .int k => match μ3[c]? with
    | some (.lst xs) => match ixN xs.length k with
      | some j => .nx ρ (μ3.set c (.lst (xs.set j y)))
      | none => .stuck
    | _ => .stuck
  | _, _ => .stuck
def setAt (c : Nat) (k : Int) (y : DV) (ρ : En) (μ3 : Sto) : SR := match μ3[c]? with
    | some (.lst xs) => match ixN xs.length k with
      | some j => .nx ρ (μ3.set c (.lst (xs.set j y)))
      | none => .stuck
    | _ => .stuck
def R.st3 (y d : DV) (r : R DV) (ρ : En) : SR := r.toS ρ fun k μ3 => match d, k with
  | .cell c, .int k => setAt c k y ρ μ3
  | _, _ => .stuck
@[simp] theorem sSetIx_ap {e o i : DE} : sSetIx e o i ρ μ = R.st1 (e ρ μ) o i ρ := rfl
@[simp] theorem st1_ok {y : DV} {o i : DE} : R.st1 (.ok y μ) o i ρ = R.st2 y (o ρ μ) i ρ := rfl
@[simp] theorem st2_ok {y : DV} {i : DE} : R.st2 y (.ok d μ) i ρ = R.st3 y d (i ρ μ) ρ := rfl
@[simp] theorem st3_ok {y : DV} {c : Nat} {k : Int} : R.st3 y (.cell c) (.ok (.int k) μ) ρ = setAt c k y ρ μ := rfl

theorem finF_same : finF μ.length d μ = .ok d μ := if_pos rfl
@[simp] theorem fin_same : fin .fz μ.length d μ = .ok d μ := finF_same
def SR.fin (md : Md) (n : Nat) (r : SR) : R DV := match r with
  | .nx _ μ' => SD.fin md n .non μ'
  | .rt d μ' => SD.fin md n d μ'
  | .ex c ns xs _ μ' => finX n c ns xs μ'
  | _ => .stuck
theorem runF_ap {md : Md} {np n : Nat} {b : DS} {ds : List DV} (h : ds.length = np) : runF md np n b ds μ = SR.fin md μ.length (b (ds.map some ++ List.replicate (n - ds.length) none) μ) := by
  unfold runF SR.fin
  rw [if_pos h]
  try (cases b (ds.map some ++ List.replicate (n - ds.length) none) μ <;> rfl)
@[simp] theorem sfin_rt {md : Md} {n : Nat} : SR.fin md n (.rt d μ) = fin md n d μ := rfl
@[simp] theorem sfin_nx {md : Md} {n : Nat} : SR.fin md n (.nx ρ μ) = fin md n .non μ := rfl
theorem fin_len {n : Nat} (h : μ.length = n) : fin .fz n d μ = .ok d μ := by subst h; exact finF_same

def loopD (t : DG) (f : DS) : List DV → DS
  | [] => fun ρ μ => .nx ρ μ
  | d :: ds => fun ρ μ => match t d ρ μ with
    | none => .stuck
    | some ρ1 => match f ρ1 μ with
      | .nx ρ' μ' => loopD t f ds ρ' μ'
      | .ct ρ' μ' => loopD t f ds ρ' μ'
      | .bk ρ' μ' => .nx ρ' μ'
      | r => r
theorem loopF_fix {t : DG} {f : DS} : ∀ (n k : Nat) (ds : List DV) (ρ : En) (μ : Sto), ds.length + 1 = n + k → k ≤ ds.length → loopF (.fix ds) t f n k ρ μ = loopD t f (ds.drop k) ρ μ
  | 0, k, ds, ρ, μ, h, hk => by omega
  | n + 1, k, ds, ρ, μ, h, hk => by
    unfold loopF
    show (match (some ds[k]? : Option (Option DV)) with
      | none => SR.stuck
      | some none => .nx ρ μ
      | some (some d) => match t d ρ μ with
        | none => .stuck
        | some ρ1 => match f ρ1 μ with
          | .nx ρ' μ' => loopF (.fix ds) t f n (k + 1) ρ' μ'
          | .ct ρ' μ' => loopF (.fix ds) t f n (k + 1) ρ' μ'
          | .bk ρ' μ' => .nx ρ' μ'
          | r => r) = _
    by_cases hl : k < ds.length
    · have e : ds[k]? = some ds[k] := List.getElem?_eq_getElem hl
      rw [List.drop_eq_getElem_cons hl, e]
      unfold loopD
      simp only
      cases t ds[k] ρ μ with
      | none => rfl
      | some ρ1 =>
        simp only
        cases f ρ1 μ with
        | nx ρ' μ' => exact loopF_fix n (k + 1) ds ρ' μ' (by omega) hl
        | ct ρ' μ' => exact loopF_fix n (k + 1) ds ρ' μ' (by omega) hl
        | _ => rfl
    · have e : ds[k]? = none := List.getElem?_eq_none_iff.mpr (by omega)
      rw [e, List.drop_eq_nil_of_le (by omega)]
      rfl
def R.for1 (r : R Wk) (t : DG) (f : DS) (ρ : En) : SR := r.toS ρ fun w μ1 => loopF w t f (wkLen w μ1 + 1) 0 ρ μ1
@[simp] theorem sFor_ap {it : DI} {t : DG} {f : DS} : sFor it t f ρ μ = R.for1 (it ρ μ) t f ρ := rfl
@[simp] theorem for1_fix {t : DG} {f : DS} {ds : List DV} : R.for1 (.ok (.fix ds) μ) t f ρ = loopD t f ds ρ μ := by
  show loopF (.fix ds) t f (ds.length + 1) 0 ρ μ = _
  rw [loopF_fix (ds.length + 1) 0 ds ρ μ rfl (Nat.zero_le _), List.drop_zero]
def R.seqi (r : R DV) : R Wk := r.bind fun d μ1 => R.of (wkOf d μ1) μ1
@[simp] theorem iSeq_ap {a : DE} : iSeq a ρ μ = R.seqi (a ρ μ) := rfl
@[simp] theorem seqi_ok : R.seqi (.ok d μ) = R.of (wkOf d μ) μ := rfl
def R.rg1 (r : R (List DV)) : R Wk := r.bind fun ds μ1 => R.of (rngOf1 ds) μ1
def R.rg2 (r : R (List DV)) : R Wk := r.bind fun ds μ1 => R.of (rngOf2 ds) μ1
@[simp] theorem iRng1_ap {r : DA} : iRng1' r ρ μ = R.rg1 (r ρ μ) := rfl
@[simp] theorem iRng2_ap {r : DA} : iRng2' r ρ μ = R.rg2 (r ρ μ) := rfl
@[simp] theorem rg1_ok {ds : List DV} : R.rg1 (.ok ds μ) = R.of (rngOf1 ds) μ := rfl
@[simp] theorem rg2_ok {ds : List DV} : R.rg2 (.ok ds μ) = R.of (rngOf2 ds) μ := rfl
/-- turn by turn, an invariant -/
theorem loopD_inv {t : DG} {f : DS} (I : En → Sto → Prop) : ∀ (ds : List DV) (ρ : En) (μ : Sto), I ρ μ → (∀ d ∈ ds, ∀ ρ μ, I ρ μ → ∃ ρ1, t d ρ μ = some ρ1 ∧ ∃ ρ' μ', (f ρ1 μ = .nx ρ' μ' ∨ f ρ1 μ = .ct ρ' μ') ∧ I ρ' μ') →
    ∃ ρ' μ', loopD t f ds ρ μ = .nx ρ' μ' ∧ I ρ' μ'
  | [], ρ, μ, h, _ => ⟨ρ, μ, rfl, h⟩
  | d :: ds, ρ, μ, h, ht => by
    obtain ⟨ρ1, e1, ρ', μ', e2, h2⟩ := ht d (by simp) ρ μ h
    obtain ⟨ρ2, μ2, e3, h3⟩ := loopD_inv I ds ρ' μ' h2 fun d hd => ht d (List.mem_cons_of_mem _ hd)
    refine ⟨ρ2, μ2, ?_, h3⟩
    unfold loopD
    rw [e1]
    simp only
    rcases e2 with e2 | e2 <;> rw [e2] <;> exact e3

def compD (t : DG) (tt : DT) (te : DE) (ρ : En) : List DV → Sto → R (List DV)
  | [], μ => .ok [] μ
  | d :: ds, μ => match t d ρ μ with
    | none => .stuck
    | some ρ1 => (tt ρ1 μ).nox.bind fun b μ1 => if b = true then (te ρ1 μ1).nox.bind fun y μ2 => (compD t tt te ρ ds μ2).bind fun ys μ3 => .ok (y :: ys) μ3 else compD t tt te ρ ds μ1
theorem loopL_fix {t : DG} {tt : DT} {te : DE} {ρ : En} : ∀ (n k : Nat) (ds : List DV) (μ : Sto), ds.length + 1 = n + k → k ≤ ds.length → loopL (.fix ds) t tt te ρ n k μ = compD t tt te ρ (ds.drop k) μ
  | 0, k, ds, μ, h, hk => by omega
  | n + 1, k, ds, μ, h, hk => by
    unfold loopL
    show (match (some ds[k]? : Option (Option DV)) with
      | none => R.stuck
      | some none => .ok [] μ
      | some (some d) => match t d ρ μ with
        | none => .stuck
        | some ρ1 => (tt ρ1 μ).nox.bind fun b μ1 => if b = true then (te ρ1 μ1).nox.bind fun y μ2 => (loopL (.fix ds) t tt te ρ n (k + 1) μ2).bind fun ys μ3 => .ok (y :: ys) μ3 else loopL (.fix ds) t tt te ρ n (k + 1) μ1) = _
    by_cases hl : k < ds.length
    · have e : ds[k]? = some ds[k] := List.getElem?_eq_getElem hl
      rw [List.drop_eq_getElem_cons hl, e]
      unfold compD
      simp only
      have ih : ∀ μ, loopL (.fix ds) t tt te ρ n (k + 1) μ = compD t tt te ρ (ds.drop (k + 1)) μ := fun μ => loopL_fix n (k + 1) ds μ (by omega) hl
      simp only [ih]
    · have e : ds[k]? = none := List.getElem?_eq_none_iff.mpr (by omega)
      rw [e, List.drop_eq_nil_of_le (by omega)]
      rfl
def R.lc1 (r : R Wk) (t : DG) (tt : DT) (te : DE) (ρ : En) : R (List DV) := r.bind fun w μ1 => if okLen (wkLen w μ1 + 1) = true then loopL w t tt te ρ (wkLen w μ1 + 1) 0 μ1 else .stuck
@[simp] theorem eLc_ap {it : DI} {t : DG} {tt : DT} {te : DE} {vs : List Nat} : eLc it t tt te vs ρ μ = R.mk (fun ys μ1 => .ok (.lst ys) μ1) (R.lc1 (it ρ μ) t tt te (wipeE ρ vs)) := rfl
@[simp] theorem eLcC_ap {it : DI} {t : DG} {tt : DT} {te : DE} {vs : List Nat} : eLcC it t tt te vs ρ μ = R.mk (fun ys μ1 => .ok (.cell μ1.length) (μ1 ++ [.lst ys])) (R.lc1 (it ρ μ) t tt te (wipeE ρ vs)) := rfl
theorem lc1_fix {t : DG} {tt : DT} {te : DE} {ds : List DV} (h : ds.length < 16777216) : R.lc1 (.ok (.fix ds) μ) t tt te ρ = compD t tt te ρ ds μ := by
  show (if okLen (ds.length + 1) = true then loopL (.fix ds) t tt te ρ (ds.length + 1) 0 μ else .stuck) = _
  rw [if_pos (okLen_small h), loopL_fix (ds.length + 1) 0 ds μ rfl (Nat.zero_le _), List.drop_zero]
/-- elements that leave the store as it is -/
theorem compD_map {t : DG} {te : DE} (g : DV → DV) : ∀ (ds : List DV), (∀ d ∈ ds, ∃ ρ1, t d ρ μ = some ρ1 ∧ te ρ1 μ = .ok (g d) μ) → compD t tYes' te ρ ds μ = .ok (ds.map g) μ
  | [], _ => rfl
  | d :: ds, h => by
    obtain ⟨ρ1, e1, e2⟩ := h d (by simp)
    unfold compD
    rw [e1]
    show (te ρ1 μ).nox.bind _ = _
    rw [e2]
    show (compD t tYes' te ρ ds μ).bind _ = _
    rw [compD_map g ds fun d hd => h d (List.mem_cons_of_mem _ hd)]
    rfl
/-- elements that turn the store: an invariant -/
theorem compD_inv {t : DG} {te : DE} (I : Sto → Prop) (p : DV → Prop) : ∀ (ds : List DV) (μ : Sto), I μ → (∀ d ∈ ds, ∀ μ, I μ → ∃ ρ1, t d ρ μ = some ρ1 ∧ ∃ y μ', te ρ1 μ = .ok y μ' ∧ I μ' ∧ p y) →
    ∃ ys μ', compD t tYes' te ρ ds μ = .ok ys μ' ∧ I μ' ∧ ys.length = ds.length ∧ ∀ y ∈ ys, p y
  | [], μ, hI, _ => ⟨[], μ, rfl, hI, rfl, fun _ h => nomatch h⟩
  | d :: ds, μ, hI, h => by
    obtain ⟨ρ1, e1, y, μ1, e2, h2, hp⟩ := h d (by simp) μ hI
    obtain ⟨ys, μ2, e3, h3, hl, hq⟩ := compD_inv I p ds μ1 h2 fun d hd => h d (List.mem_cons_of_mem _ hd)
    refine ⟨y :: ys, μ2, ?_, h3, by simp [hl], fun z hz => ?_⟩
    · unfold compD
      rw [e1]
      show (te ρ1 μ).nox.bind _ = _
      rw [e2]
      show (compD t tYes' te ρ ds μ1).bind _ = _
      rw [e3]
      rfl
    · rcases List.mem_cons.mp hz with rfl | hz
      · exact hp
      · exact hq z hz
@[simp] theorem tYes_ap : tYes' ρ μ = .ok true μ := rfl
end
end SD

set_option Elab.async false
set_option linter.all false
set_option maxRecDepth 100000
set_option maxHeartbeats 4000000
namespace Lw
open PySem PySem.Spec PyProof.Rows L2 SD
section
variable {μ : Sto} {a b : Int}
@[simp] theorem vAdd_i : vAdd (.int a) (.int b) μ = some (.int (a + b)) := rfl
@[simp] theorem vSub_i : vSub (.int a) (.int b) μ = some (.int (a - b)) := rfl
@[simp] theorem vNeg_i : vNeg (.int a) μ = some (.int (-a)) := rfl
theorem vMul_r (h : b.natAbs < 18446744073709551616) : vMul (.int a) (.int b) μ = some (.int (a * b)) := by
  have : mulOk a b = true := by unfold mulOk; simp [h]
  show (if mulOk a b = true then some (DV.int (a * b)) else none) = _
  rw [if_pos this]
theorem vMul_l (h : a.natAbs < 18446744073709551616) : vMul (.int a) (.int b) μ = some (.int (a * b)) := by
  have : mulOk a b = true := by unfold mulOk; simp [h]
  show (if mulOk a b = true then some (DV.int (a * b)) else none) = _
  rw [if_pos this]
theorem vMod_i (h : 0 < b) : vMod (.int a) (.int b) μ = some (.int (a % b)) := by
  show (if decide (0 < b) = true then some (DV.int (a % b)) else none) = _
  rw [if_pos (decide_eq_true h)]
theorem vDiv_i (h : 0 < b) (h' : b < 1073741824) : vDiv (.int a) (.int b) μ = some (.int (a / b)) := by
  unfold vDiv
  simp [h, h']
theorem vPow_i {n : Nat} (h : n ≤ 1000000) (h' : a.natAbs < 18446744073709551616) : vPow (.int a) (.int (n : Int)) μ = some (.int (a ^ n)) := by
  show (if (decide ((0 : Int) ≤ n) && decide ((n : Int) ≤ 1000000) && decide (a.natAbs < 2 ^ 64)) = true then some (DV.int (a ^ (n : Int).toNat)) else none) = _
  rw [if_pos (by simp [h']; omega)]
  rfl
@[simp] theorem vEq_i : vEq (.int a) (.int b) μ = some (.bl (decide (a = b))) := by
  show some (DV.bl (PyData.eqv (.int a) (.int b))) = _
  simp [PyData.eqv]; rfl
@[simp] theorem vNe_i : vNe (.int a) (.int b) μ = some (.bl (!decide (a = b))) := by
  show some (DV.bl (!PyData.eqv (.int a) (.int b))) = _
  simp [PyData.eqv]; rfl
@[simp] theorem vLt_i : vLt (.int a) (.int b) μ = some (.bl (decide (a < b))) := rfl
@[simp] theorem vLe_i : vLe (.int a) (.int b) μ = some (.bl (decide (a ≤ b))) := rfl
@[simp] theorem vGt_i : vGt (.int a) (.int b) μ = some (.bl (decide (b < a))) := rfl
@[simp] theorem vGe_i : vGe (.int a) (.int b) μ = some (.bl (decide (b ≤ a))) := rfl
@[simp] theorem vInt_i : vInt [.int a] μ = some (.int a) := rfl
@[simp] theorem vAbs_i : vAbs [.int a] μ = some (.int (if a < 0 then -a else a)) := rfl
@[simp] theorem vLen_l {xs : List DV} : vLen [.lst xs] μ = some (.int xs.length) := rfl
@[simp] theorem vLen_t {xs : List DV} : vLen [.tup xs] μ = some (.int xs.length) := rfl
@[simp] theorem runF0 {md : Md} {n : Nat} {b : DS} : runF md 0 n b [] μ = SR.fin md μ.length (b ([] ++ List.replicate n none) μ) := runF_ap rfl
@[simp] theorem runF1 {md : Md} {n : Nat} {b : DS} {x : DV} : runF md 1 n b [x] μ = SR.fin md μ.length (b ([some x] ++ List.replicate (n - 1) none) μ) := runF_ap rfl
@[simp] theorem runF2 {md : Md} {n : Nat} {b : DS} {x y : DV} : runF md 2 n b [x, y] μ = SR.fin md μ.length (b ([some x, some y] ++ List.replicate (n - 2) none) μ) := runF_ap rfl
@[simp] theorem runF3 {md : Md} {n : Nat} {b : DS} {x y z : DV} : runF md 3 n b [x, y, z] μ = SR.fin md μ.length (b ([some x, some y, some z] ++ List.replicate (n - 3) none) μ) := runF_ap rfl
@[simp] theorem fin_cons {d : DV} {x : CO} : fin .fz (μ.length + 1) d (x :: μ) = .ok d (x :: μ) := fin_len rfl
@[simp] theorem fin_cons1 {d : DV} {x : CO} : fin .fz 1 d [x] = .ok d [x] := fin_len rfl
theorem atI_nat {α : Type} {xs : List α} {k : Nat} (h : k < xs.length) : atI xs (k : Int) = xs[k]? := by
  unfold atI ixN
  rw [if_pos (by omega), if_pos (by omega)]
  rfl
end
structure Bx where
  cs : List Int
  i : Nat
  r : Int
  m : Int
  c : Int
def enc (b : Bx) : CO := .lst [.lst (b.cs.map .int), .int b.i, .int b.r, .int b.m, .int b.c]
section
variable {μ : Sto} {b : Bx} {ρ : En}
@[simp] theorem bx0 : vIx (.cell 0) (.int 0) (enc b :: μ) = some (.lst (b.cs.map .int)) := rfl
@[simp] theorem bx1 : vIx (.cell 0) (.int 1) (enc b :: μ) = some (.int b.i) := rfl
@[simp] theorem bx2 : vIx (.cell 0) (.int 2) (enc b :: μ) = some (.int b.r) := rfl
@[simp] theorem bx3 : vIx (.cell 0) (.int 3) (enc b :: μ) = some (.int b.m) := rfl
@[simp] theorem bx4 : vIx (.cell 0) (.int 4) (enc b :: μ) = some (.int b.c) := rfl
@[simp] theorem sb1 {k : Nat} : setAt 0 1 (.int ((k : Int) + 1)) ρ (enc b :: μ) = .nx ρ (enc { b with i := k + 1 } :: μ) := rfl
@[simp] theorem sb2 {k : Int} : setAt 0 2 (.int k) ρ (enc b :: μ) = .nx ρ (enc { b with r := k } :: μ) := rfl
@[simp] theorem sb3 {k : Int} : setAt 0 3 (.int k) ρ (enc b :: μ) = .nx ρ (enc { b with m := k } :: μ) := rfl
@[simp] theorem sb4 {k : Int} : setAt 0 4 (.int k) ρ (enc b :: μ) = .nx ρ (enc { b with c := k } :: μ) := rfl
theorem bxAt {k : Nat} (h : k < b.cs.length) : vIx (.lst (b.cs.map .int)) (.int (k : Int)) μ = some (.int b.cs[k]) := by
  show atI (b.cs.map DV.int) (k : Int) = _
  rw [atI_nat (by simpa using h)]
  simp [h]
theorem step_pos (x : Int) : (x % 2147483587).natAbs < 18446744073709551616 := by
  have h1 := Int.emod_nonneg x (b := 2147483587) (by decide)
  have h2 := Int.emod_lt_of_pos x (b := 2147483587) (by decide)
  omega
theorem take_ok (many : Int) (h0 : 0 < many) (h1 : many < 1073741824) : ∃ n b', f__law_take [.cell 0, .int many] (enc b :: μ) = .ok (.int n) (enc b' :: μ) ∧ 0 ≤ n ∧ n < many := by
  have pw3 : ∀ (a : Int) (μ : Sto), a.natAbs < 18446744073709551616 → vPow (.int a) (.int 3) μ = some (.int (a ^ 3)) := fun a μ h => vPow_i (n := 3) (by decide) h
  have pw18 : ∀ (μ : Sto), vPow (.int 10) (.int 18) μ = some (.int 1000000000000000000) := fun μ => vPow_i (n := 18) (by decide) (by decide)
  have m1 : ∀ x : Int, 0 ≤ x % many := fun x => Int.emod_nonneg x (by omega)
  have m2 : ∀ x : Int, x % many < many := fun x => Int.emod_lt_of_pos x h0
  have cut : ∃ t1 t2, b__law_take = sSeq t1 t2 ∧ (∀ b : Bx, ∃ ρ' b', t1 [some (.cell 0), some (.int many), none, none, none] (enc b :: μ) = .nx ρ' (enc b' :: μ) ∧ ∃ x y z, ρ' = [some (.cell 0), some (.int many), x, y, z]) ∧
      ∀ (b : Bx) (x y z : Option DV), ∃ n b', SR.fin .fz (μ.length + 1) (t2 [some (.cell 0), some (.int many), x, y, z] (enc b :: μ)) = .ok (.int n) (enc b' :: μ) ∧ 0 ≤ n ∧ n < many := by
    refine ⟨_, _, rfl, ?_, ?_⟩
    · intro b
      by_cases h1 : b.r = 0
      · by_cases h2 : b.i < b.cs.length
        · by_cases h3 : 1000000000000000000 ≤ (if b.cs[b.i] < 0 then -b.cs[b.i] else b.cs[b.i])
          · exact ⟨[some (.cell 0), some (.int many), some (.int b.cs[b.i]), none, none], ⟨b.cs, b.i + 1, if b.cs[b.i] < 0 then -b.cs[b.i] else b.cs[b.i], (b.m * 48271 + b.cs[b.i] % 2147483399 * 7 + 13) % 2147483587, b.c⟩, by simp [h1, h2, h3, bxAt, vMod_i, vMul_r, pw18], _, _, _, rfl⟩
          · exact ⟨[some (.cell 0), some (.int many), some (.int b.cs[b.i]), none, none], ⟨b.cs, b.i + 1, b.r, (b.m * 48271 + b.cs[b.i] % 2147483399 * 7 + 13) % 2147483587, b.c⟩, by simp [h1, h2, h3, bxAt, vMod_i, vMul_r, pw18], _, _, _, rfl⟩
        · exact ⟨[some (.cell 0), some (.int many), none, none, none], b, by simp [h1, h2], _, _, _, rfl⟩
      · exact ⟨[some (.cell 0), some (.int many), none, none, none], b, by simp [h1], _, _, _, rfl⟩
    · intro b x y z
      by_cases hr : 0 < b.r
      · refine ⟨b.r % many, { b with r := b.r / many }, ?_, m1 _, m2 _⟩
        simp [hr, vMod_i h0, vDiv_i h0 h1]
      · refine ⟨((((b.m + (b.c + 1) * 6007) % 2147483587) ^ 3 + 30011 * ((b.m + (b.c + 1) * 6007) % 2147483587) + 977) % 2147483587 / 59 + (((b.m + (b.c + 1) * 6007) % 2147483587) ^ 3 + 30011 * ((b.m + (b.c + 1) * 6007) % 2147483587) + 977) % 2147483587 % 7919 * 37) % many,
          ⟨b.cs, b.i, b.r, (((b.m + (b.c + 1) * 6007) % 2147483587) ^ 3 + 30011 * ((b.m + (b.c + 1) * 6007) % 2147483587) + 977) % 2147483587, b.c + 1⟩, ?_, m1 _, m2 _⟩
        simp [hr, vMod_i, vDiv_i, vMul_r, vMul_l, pw3, step_pos, h0, h1]
  obtain ⟨t1, t2, e, p1, p2⟩ := cut
  obtain ⟨ρ', b1, q1, x, y, z, q2⟩ := p1 b
  subst q2
  obtain ⟨n, b', q5, q6⟩ := p2 b1 x y z
  refine ⟨n, b', ?_, q6⟩
  unfold f__law_take
  rw [runF2, e, sSeq_ap]
  show SR.fin .fz (μ.length + 1) (SR.seq (t1 [some (.cell 0), some (.int many), none, none, none] (enc b :: μ)) t2) = _
  rw [q1]
  exact q5
end
end Lw

set_option Elab.async false
set_option linter.all false
set_option maxRecDepth 100000
set_option maxHeartbeats 4000000
namespace Lw
open PySem PySem.Spec PyProof.Rows L2 SD
section
variable {μ : Sto} {b : Bx}
theorem low_ints : ∀ (ns : List Int), lowL 0 (ns.map .int) = true
  | [] => rfl
  | n :: ns => by simp [lowL, DV.low, low_ints ns]
theorem cut_ints {ns : List Int} {lo hi : Option Int} : ∃ ms : List Int, SD.cutD (ns.map .int) lo hi = ms.map .int := by
  unfold SD.cutD
  rw [← List.map_drop, ← List.map_take]
  exact ⟨_, rfl⟩
theorem box_ok (ns : List Int) (own : Int) : ∃ b, f__law_box [.scr (ns.map .int), .int own] [] = .ok (.cell 0) [enc b] := by
  obtain ⟨ms, hm⟩ := cut_ints (ns := ns) (lo := none) (hi := some 63)
  have hs : vSlc (.scr (ns.map .int)) none (some 63) [] = some (.lst (ms.map .int)) := by
    show some (DV.lst (SD.cutD (ns.map .int) none (some 63))) = _
    rw [hm]
  have hlen : (ms.map DV.int).length < 16777216 := by
    rw [← hm]
    unfold SD.cutD
    refine Nat.lt_of_le_of_lt (List.length_take_le _ _) ?_
    have : HT.sIx (ns.map DV.int).length (ns.map DV.int).length (some 63) ≤ 63 := by
      show (if (63 : Int) < 0 then ((63 : Int) + ((ns.map DV.int).length : Int)).toNat else min (63 : Int).toNat (ns.map DV.int).length) ≤ 63
      rw [if_neg (by decide)]
      exact Nat.min_le_left _ _
    omega
  have lp : ∃ m x, loopD (gN 3) (sAsg (eBin vMod (eFn vInt (aCons (eBin vAdd (eBin vAdd (eBin vMul (eVar 2) (eC (.int 40503))) (eBin vMod (eFn vInt (aCons (eVar 3) aNil)) (eC (.int 2147483423)))) (eC (.int 11))) aNil)) (eC (.int 2147483587))) (gN 2)) (ms.map .int) [some (.scr (ns.map .int)), some (.int own), some (.int own), none] [] = .nx [some (.scr (ns.map .int)), some (.int own), some (.int m), x] [] := by
    obtain ⟨ρ', μ', e, ⟨m, x, h1⟩, h2⟩ := loopD_inv (t := gN 3) (f := sAsg (eBin vMod (eFn vInt (aCons (eBin vAdd (eBin vAdd (eBin vMul (eVar 2) (eC (.int 40503))) (eBin vMod (eFn vInt (aCons (eVar 3) aNil)) (eC (.int 2147483423)))) (eC (.int 11))) aNil)) (eC (.int 2147483587))) (gN 2))
      (fun ρ μ => (∃ m x, ρ = [some (.scr (ns.map .int)), some (.int own), some (.int m), x]) ∧ μ = []) (ms.map .int) [some (.scr (ns.map .int)), some (.int own), some (.int own), none] [] ⟨⟨own, none, rfl⟩, rfl⟩ (by
        rintro d hd ρ μ ⟨⟨m, x, rfl⟩, rfl⟩
        obtain ⟨n, hn, rfl⟩ := List.mem_map.mp hd
        exact ⟨[some (.scr (ns.map .int)), some (.int own), some (.int m), some (.int n)], rfl, [some (.scr (ns.map .int)), some (.int own), some (.int ((m * 40503 + n % 2147483423 + 11) % 2147483587)), some (.int n)], [], .inl (by simp [vMod_i, vMul_r]), ⟨_, _, rfl⟩, rfl⟩)
    subst h1 h2
    exact ⟨m, x, e⟩
  obtain ⟨m, x, e⟩ := lp
  refine ⟨⟨ms, 0, 0, m, 0⟩, ?_⟩
  have ec : compD (gN 3) tYes' (eFn vInt (aCons (eVar 3) aNil)) [some (.scr (ns.map .int)), some (.int own), some (.int m), none] (ms.map .int) [] = .ok (ms.map .int) [] := by

    have := compD_map (μ := []) (ρ := [some (.scr (ns.map .int)), some (.int own), some (.int m), none]) (t := gN 3) (te := eFn vInt (aCons (eVar 3) aNil)) id (ms.map .int) (by
      intro d hd
      obtain ⟨n, hn, rfl⟩ := List.mem_map.mp hd
      exact ⟨_, rfl, by simp⟩)
    rw [List.map_id] at this
    exact this
  unfold f__law_box
  rw [runF2]
  unfold b__law_box
  have hk : ∀ (ρ : En) (t : DG) (tt : DT) (te : DE), R.lc1 (.ok (.fix (ms.map DV.int)) []) t tt te ρ = compD t tt te ρ (ms.map .int) [] := fun ρ t tt te => lc1_fix hlen
  have hw : wkOf (.lst (ms.map DV.int)) [] = some (.fix (ms.map DV.int)) := rfl
  have wp : wipeE [some (.scr (ns.map .int)), some (.int own), some (.int m), x] [3] = [some (.scr (ns.map .int)), some (.int own), some (.int m), none] := rfl
  have h5 : ∀ (x1 x2 x3 x4 x5 : DV), mkC [x1, x2, x3, x4, x5] [] = .ok (.cell 0) [.lst [x1, x2, x3, x4, x5]] := fun _ _ _ _ _ => mkC_small (by show 5 ≤ _; decide)
  have hf : fin .cl 0 (.cell 0) [CO.lst [.lst (ms.map .int), .int 0, .int 0, .int m, .int 0]] = .ok (.cell 0) [CO.lst [.lst (ms.map .int), .int 0, .int 0, .int m, .int 0]] := by
    unfold fin finC
    simp [lowL, DV.low, low_ints]
  simp [hs, hw, e, wp, hk, ec, h5]
  exact hf
theorem pick_ok (xs : List DV) (h0 : 0 < xs.length) (h1 : xs.length < 1073741824) : ∃ d b', f__law_pick [.cell 0, .lst xs] (enc b :: μ) = .ok d (enc b' :: μ) ∧ d ∈ xs := by
  obtain ⟨n, b', e, p0, p1⟩ := take_ok (μ := μ) (b := b) xs.length (by omega) (by omega)
  obtain ⟨k, rfl⟩ := Int.eq_ofNat_of_zero_le p0
  have hk : k < xs.length := by omega
  refine ⟨xs[k], b', ?_, List.getElem_mem hk⟩
  have hx : vIx (.lst xs) (.int (k : Int)) (enc b' :: μ) = some xs[k] := by
    show atI xs (k : Int) = _
    rw [atI_nat hk, List.getElem?_eq_getElem hk]
  unfold f__law_pick
  rw [runF2]
  unfold b__law_pick
  simp [e, hx]
end
end Lw

set_option Elab.async false
set_option linter.all false
set_option maxRecDepth 100000
set_option maxHeartbeats 4000000
namespace Lw
open PySem PySem.Spec PyProof.Rows L2 SD
section
variable {μ : Sto}
@[simp] theorem vIsi_ty {d : DV} {t : T7} : vIsi [d, .ty t] μ = (tyOf μ d).map fun a => .bl (a.sub t) := rfl
@[simp] theorem ty_non : tyOf μ .non = some .non := rfl
@[simp] theorem ty_bl {b : Bool} : tyOf μ (.bl b) = some .bl := rfl
@[simp] theorem ty_int {b : Int} : tyOf μ (.int b) = some .int := rfl
@[simp] theorem ty_str {b : Str} : tyOf μ (.str b) = some .str := rfl
@[simp] theorem ty_tup {b : List DV} : tyOf μ (.tup b) = some .tup := rfl
@[simp] theorem ty_lst {b : List DV} : tyOf μ (.lst b) = some .lst := rfl
@[simp] theorem ty_dct {b : List Key} {c : List DV} : tyOf μ (.dct b c) = some .dct := rfl
@[simp] theorem tup0 {xs : List DV} {x : DV} : vIx (.tup (x :: xs)) (.int 0) μ = some x := by
  show atI (x :: xs) ((0 : Nat) : Int) = _
  rw [atI_nat (by simp)] <;> rfl
@[simp] theorem tup1 {xs : List DV} {x y : DV} : vIx (.tup (x :: y :: xs)) (.int 1) μ = some y := by
  show atI (x :: y :: xs) ((1 : Nat) : Int) = _
  rw [atI_nat (by simp)] <;> rfl
theorem vAll_map {α : Type} (l : List α) (p : α → Bool) : vAll [.lst (l.map fun x => .bl (p x))] μ = some (.bl (l.all p)) := by
  have : ∀ l : List α, asBs (l.map fun x => .bl (p x)) = some (l.map p) := by
    intro l
    induction l with
    | nil => rfl
    | cons a l ih => simp [asBs, ih]
  show (asBs (l.map fun x => .bl (p x))).map (fun bs => DV.bl (bs.all id)) = _
  rw [this]
  simp
theorem lc_two {t : DG} {tt : DT} {te : DE} {ρ : En} {x y : DV} : R.lc1 (.ok (.fix [x, y]) μ) t tt te ρ = compD t tt te ρ [x, y] μ := lc1_fix (by show 2 < _; decide)
theorem wk_two {x y : DV} : wkOf (.tup [x, y]) μ = some (.fix [x, y]) := rfl
def leaf : DV → Bool
  | .non | .bl _ | .int _ => true
  | _ => false
@[simp] theorem vIsi_lt {d : DV} : vIsi [d, .tup [.ty .lst, .ty .tup]] μ = (tyOf μ d).map fun a => .bl (a.sub .lst || a.sub .tup) := by
  show (match tyOf μ d, asTys [.ty .lst, .ty .tup] with
    | some a, some ts => some (DV.bl (ts.any fun t => a.sub t))
    | _, _ => none) = _
  have : asTys [.ty .lst, .ty .tup] = some [.lst, .tup] := rfl
  rw [this]
  cases tyOf μ d with
  | none => rfl
  | some a => simp
@[simp] theorem vEq_b {a b : Bool} : vEq (.bl a) (.bl b) μ = some (.bl (a == b)) := rfl
@[simp] theorem vNe_b {a b : Bool} : vNe (.bl a) (.bl b) μ = some (.bl (!(a == b))) := rfl
theorem vEq_n : vEq .non .non μ = some (.bl true) := rfl
theorem eq5 {a b c d e : Bool} : vEq (.lst [.bl a, .bl b, .bl c, .bl d, .bl e]) (.lst [.bl a, .bl b, .bl c, .bl d, .bl e]) μ = some (.bl true) := by
  cases a <;> cases b <;> cases c <;> cases d <;> cases e <;> rfl
@[simp] theorem lst0 {xs : List DV} {x : DV} : vIx (.lst (x :: xs)) (.int 0) μ = some x := by
  show atI (x :: xs) ((0 : Nat) : Int) = _
  rw [atI_nat (by simp)] <;> rfl
@[simp] theorem lst1 {xs : List DV} {x y : DV} : vIx (.lst (x :: y :: xs)) (.int 1) μ = some y := by
  show atI (x :: y :: xs) ((1 : Nat) : Int) = _
  rw [atI_nat (by simp)] <;> rfl
theorem mkL5 {a b c d e : DV} : mkL [a, b, c, d, e] μ = .ok (.lst [a, b, c, d, e]) μ := mkL_small (by show 5 ≤ _; decide)
theorem vIs_n {d : DV} (h : leaf d = true) : vIs d .non μ = some (.bl (isNon d)) := by
  cases d <;> first | (simp [leaf] at h; done) | rfl
def kindD (d : DV) : DV := .lst [.bl (match d with | .bl _ => true | _ => false), .bl (match d with | .bl _ => true | .int _ => true | _ => false), .bl false, .bl false, .bl (isNon d)]
theorem kinds {d : DV} (h : leaf d = true) (ρ : En) (hρ : 4 < ρ.length) : compD (gN 4) tYes' (eLst (aCons (eFn vIsi (aCons (eVar 4) (aCons (eC (.ty .bl)) aNil))) (aCons (eFn vIsi (aCons (eVar 4) (aCons (eC (.ty .int)) aNil))) (aCons (eFn vIsi (aCons (eVar 4) (aCons (eC (.ty .str)) aNil))) (aCons (eFn vIsi (aCons (eVar 4) (aCons (eC (.ty .dct)) aNil))) (aCons (eBin vIs (eVar 4) (eC .non)) aNil)))))) ρ [d, d] μ = .ok [kindD d, kindD d] μ := by
  have := compD_map (μ := μ) (ρ := ρ) (t := gN 4) (te := eLst (aCons (eFn vIsi (aCons (eVar 4) (aCons (eC (.ty .bl)) aNil))) (aCons (eFn vIsi (aCons (eVar 4) (aCons (eC (.ty .int)) aNil))) (aCons (eFn vIsi (aCons (eVar 4) (aCons (eC (.ty .str)) aNil))) (aCons (eFn vIsi (aCons (eVar 4) (aCons (eC (.ty .dct)) aNil))) (aCons (eBin vIs (eVar 4) (eC .non)) aNil)))))) kindD [d, d] (fun z hz => ⟨ρ.set 4 (some z), rfl, by
    have e : z = d := by simpa using hz
    subst e
    have hg : (ρ.set 4 (some z))[4]? = some (some z) := by rw [List.getElem?_set_self hρ]
    cases z <;> first | (simp [leaf] at h; done) | simp [hρ, T7.sub, vIs_n h, mkL5, kindD]⟩)
  simpa using this
theorem kind_eq {d : DV} : vEq (kindD d) (kindD d) μ = some (.bl true) := eq5
theorem leaf_eq {d : DV} (h : leaf d = true) : vEq d d μ = some (.bl true) := by
  cases d <;> first | (simp [leaf] at h; done) | simp [vEq_n]
theorem same_leaf (k : Nat) {d : DV} (h : leaf d = true) : f__law_same (k + 1) [d, d] μ = .ok (.bl true) μ := by
  unfold f__law_same
  rw [runF2]
  unfold b__law_same
  have wp : wipeE [some d, some d, none, none, none] [4] = [some d, some d, none, none, none] := rfl
  have hk := kinds (μ := μ) h [some d, some d, none, none, none] (by show 4 < 5; decide)
  cases d <;> first | (simp [leaf] at h; done) | simp [T7.sub, wk_two, lc_two, wp, hk, kind_eq, leaf_eq h]
theorem same_succ (k : Nat) : f__law_same (k + 1) = runF .fz 2 5 (b__law_same (f__law_same k)) := rfl
theorem rng_n {n : Nat} (h : n ≤ 1000) : rngOf1 [.int (n : Int)] = some (.fix ((List.range n).map fun (i : Nat) => DV.int (i : Int))) := by
  have hb : inB (n : Int) = true := by
    exact Nat.ble_eq_true_of_le (by show n ≤ _; omega)
  simp only [rngOf1, hb, if_true, Int.toNat_natCast, Int.zero_add]
theorem lc_rng {n : Nat} (h : n ≤ 1000) {t : DG} {tt : DT} {te : DE} {ρ : En} : R.lc1 (.ok (.fix ((List.range n).map fun (i : Nat) => DV.int (i : Int))) μ) t tt te ρ = compD t tt te ρ ((List.range n).map fun (i : Nat) => DV.int (i : Int)) μ := lc1_fix (by rw [List.length_map, List.length_range]; omega)
end
theorem tk_ex (b : Bx) (many : Int) : ∃ r : Int × Bx, 0 < many → many < 1073741824 → f__law_take [.cell 0, .int many] [enc b] = .ok (.int r.1) [enc r.2] ∧ 0 ≤ r.1 ∧ r.1 < many := by
  by_cases h0 : 0 < many
  · by_cases h1 : many < 1073741824
    · obtain ⟨n, b', h⟩ := take_ok (μ := []) (b := b) many h0 h1
      exact ⟨(n, b'), fun _ _ => h⟩
    · exact ⟨(0, b), fun _ h => absurd h h1⟩
  · exact ⟨(0, b), fun h _ => absurd h h0⟩
noncomputable def tkN (b : Bx) (many : Int) : Int := (Classical.choose (tk_ex b many)).1
noncomputable def tkB (b : Bx) (many : Int) : Bx := (Classical.choose (tk_ex b many)).2
theorem take_s {b : Bx} {many : Int} (h0 : 0 < many) (h1 : many < 1073741824) : f__law_take [.cell 0, .int many] [enc b] = .ok (.int (tkN b many)) [enc (tkB b many)] := (Classical.choose_spec (tk_ex b many) h0 h1).1
theorem tk_lo {b : Bx} {many : Int} (h0 : 0 < many) (h1 : many < 1073741824) : 0 ≤ tkN b many := (Classical.choose_spec (tk_ex b many) h0 h1).2.1
theorem tk_hi {b : Bx} {many : Int} (h0 : 0 < many) (h1 : many < 1073741824) : tkN b many < many := (Classical.choose_spec (tk_ex b many) h0 h1).2.2
def Ex (p : DV → Bool) (r : R DV) : Prop := ∃ d b', r = .ok d [enc b'] ∧ p d = true
theorem Ex_ok {p : DV → Bool} {d : DV} {b : Bx} : Ex p (.ok d [enc b]) ↔ p d = true := by
  constructor
  · rintro ⟨d', b', e, h⟩
    injection e with e1 e2
    rw [e1]; exact h
  · exact fun h => ⟨d, b, rfl, h⟩
end Lw

set_option Elab.async false
set_option linter.all false
set_option maxRecDepth 100000
set_option maxHeartbeats 4000000
namespace Lw
abbrev Pt := Int × Int
def turn (p q r : Pt) : Int := (q.1 - p.1) * (r.2 - p.2) - (q.2 - p.2) * (r.1 - p.1)
def dot (p q : Pt) (r : Pt) : Int := (q.1 - p.1) * (r.1 - p.1) + (q.2 - p.2) * (r.2 - p.2)
theorem turn_a {a b : Pt} : turn a b a = 0 := by unfold turn; simp
def cor (P : List Pt) (k : Nat) : Pt := P.getD k (0, 0)
def nx (n k : Nat) : Nat := if k + 1 = n then 0 else k + 1
theorem nx_lt {n k : Nat} (h : k < n) : nx n k < n := by unfold nx; split <;> omega
def eL (P : List Pt) : List (Pt × Pt) := (List.range P.length).map fun k => (cor P k, cor P (nx P.length k))
theorem mem_eL {P : List Pt} {e : Pt × Pt} : e ∈ eL P ↔ ∃ k, k < P.length ∧ (cor P k, cor P (nx P.length k)) = e := by simp [eL]
theorem cor_get {P : List Pt} {k : Nat} (h : k < P.length) : cor P k = P[k] := by
  unfold cor
  rw [List.getD_eq_getElem?_getD, List.getElem?_eq_getElem h]; rfl
theorem map_cor {P : List Pt} {f : Pt → Pt} {i : Nat} (h : i < P.length) : cor (P.map f) i = f (cor P i) := by
  rw [cor_get (by simpa using h), cor_get h, List.getElem_map]
theorem map_eL {P : List Pt} {f : Pt → Pt} {e : Pt × Pt} : e ∈ eL (P.map f) ↔ ∃ a b, (a, b) ∈ eL P ∧ (f a, f b) = e := by
  rw [mem_eL]
  constructor
  · rintro ⟨k, hk, rfl⟩
    rw [List.length_map] at hk ⊢
    exact ⟨_, _, mem_eL.mpr ⟨k, hk, rfl⟩, by rw [map_cor hk, map_cor (nx_lt hk)]⟩
  · rintro ⟨a, b, h, rfl⟩
    obtain ⟨k, hk, e⟩ := mem_eL.mp h
    cases e
    exact ⟨k, by simpa using hk, by rw [List.length_map, map_cor hk, map_cor (nx_lt hk)]⟩
/-- no corner of Q is left of the edge -/
def noL (a b : Pt) (Q : List Pt) : Bool := Q.all fun c => decide (turn a b c ≤ 0)
def sep (P Q : List Pt) : Bool := (eL P).any fun e => noL e.1 e.2 Q
def over (P Q : List Pt) : Bool := !sep P Q && !sep Q P
theorem sep_iff {P Q : List Pt} : sep P Q = true ↔ ∃ a b, (a, b) ∈ eL P ∧ ∀ c ∈ Q, turn a b c ≤ 0 := by
  unfold sep noL
  simp only [List.any_eq_true, List.all_eq_true, decide_eq_true_eq]
  constructor
  · rintro ⟨⟨a, b⟩, h1, h2⟩; exact ⟨a, b, h1, h2⟩
  · rintro ⟨a, b, h1, h2⟩; exact ⟨(a, b), h1, h2⟩
/-- what is used of parts: no corner right of an edge; of every edge some corner left -/
structure Rnd (P : List Pt) : Prop where
  lft : ∀ a b, (a, b) ∈ eL P → ∀ c ∈ P, 0 ≤ turn a b c
  som : ∀ a b, (a, b) ∈ eL P → ∃ c ∈ P, 0 < turn a b c
theorem Rnd.ne {P : List Pt} (h : Rnd P) {a b : Pt} (e : (a, b) ∈ eL P) : a ≠ b := by
  rintro rfl
  obtain ⟨c, _, hc⟩ := h.som _ _ e
  unfold turn at hc
  simp at hc
theorem Rnd.self {P : List Pt} (h : Rnd P) : over P P = true := by
  have : sep P P = false := by
    cases q : sep P P with
    | false => rfl
    | true =>
      obtain ⟨a, b, h1, h2⟩ := sep_iff.mp q
      obtain ⟨c, hc, h3⟩ := h.som a b h1
      have := h2 c hc
      omega
  unfold over
  rw [this]; rfl
theorem dot_pos {a b : Pt} (h : a ≠ b) : 0 < dot a b b := by
  unfold dot
  have h1 : 0 ≤ (b.1 - a.1) * (b.1 - a.1) := by
    rcases Int.le_total 0 (b.1 - a.1) with h | h
    · exact Int.mul_nonneg h h
    · exact Int.mul_nonneg_of_nonpos_of_nonpos h h
  have h2 : 0 ≤ (b.2 - a.2) * (b.2 - a.2) := by
    rcases Int.le_total 0 (b.2 - a.2) with h | h
    · exact Int.mul_nonneg h h
    · exact Int.mul_nonneg_of_nonpos_of_nonpos h h
  rcases Int.lt_or_eq_of_le h1 with h3 | h3
  · omega
  · rcases Int.lt_or_eq_of_le h2 with h4 | h4
    · omega
    · have e1 : b.1 - a.1 = 0 := by rcases Int.mul_eq_zero.mp h3.symm with h | h <;> exact h
      have e2 : b.2 - a.2 = 0 := by rcases Int.mul_eq_zero.mp h4.symm with h | h <;> exact h
      exact absurd (Prod.ext (by omega) (by omega)) h
/-- every edge has a length -/
def Nd (P : List Pt) : Prop := ∀ a b, (a, b) ∈ eL P → a ≠ b
theorem Rnd.nd {P : List Pt} (h : Rnd P) : Nd P := fun _ _ e => h.ne e
structure Rig (f : Pt → Pt) : Prop where
  turn : ∀ a b c, turn (f a) (f b) (f c) = turn a b c
  dot : ∀ a b c, dot (f a) (f b) (f c) = dot a b c
theorem Rig.sep {f : Pt → Pt} (h : Rig f) {P Q : List Pt} : sep (P.map f) (Q.map f) = sep P Q := by
  rw [Bool.eq_iff_iff, sep_iff, sep_iff]
  constructor
  · rintro ⟨a, b, h1, h2⟩
    obtain ⟨a', b', h3, e⟩ := map_eL.mp h1
    cases e
    exact ⟨a', b', h3, fun c hc => by have := h2 (f c) (List.mem_map_of_mem hc); rwa [h.turn] at this⟩
  · rintro ⟨a, b, h1, h2⟩
    refine ⟨f a, f b, map_eL.mpr ⟨a, b, h1, rfl⟩, fun c hc => ?_⟩
    obtain ⟨c', hc', rfl⟩ := List.mem_map.mp hc
    rw [h.turn]; exact h2 c' hc'
theorem Rig.over {f : Pt → Pt} (h : Rig f) {P Q : List Pt} : over (P.map f) (Q.map f) = over P Q := by unfold Lw.over; rw [h.sep, h.sep]
theorem Rig.nd {f : Pt → Pt} (h : Rig f) {P : List Pt} (hp : Nd P) : Nd (P.map f) := fun a b e he => by
  obtain ⟨a', b', h3, e'⟩ := map_eL.mp e
  cases e'
  have h0 := dot_pos (hp _ _ h3)
  rw [← h.dot, he] at h0
  unfold Lw.dot at h0
  simp at h0
end Lw

set_option Elab.async false
set_option linter.all false
set_option maxRecDepth 100000
set_option maxHeartbeats 4000000
namespace Lw
def okP (P : List Pt) (k : Nat) : Prop := ∀ j, j < P.length → j ≠ k → j ≠ nx P.length k → 0 < turn (cor P k) (cor P (nx P.length k)) (cor P j)
structure Cv (P : List Pt) : Prop where
  len : 3 ≤ P.length
  ok : ∀ k, k < P.length → okP P k
theorem nx_nx {n k : Nat} (h : 3 ≤ n) (hk : k < n) : nx n (nx n k) ≠ k := by unfold nx; (repeat' split) <;> omega
theorem Cv.inj {P : List Pt} (h : Cv P) {i j : Nat} (hi : i < P.length) (hj : j < P.length) (e : cor P i = cor P j) : i = j := by
  by_cases hij : i = j
  · exact hij
  · exfalso
    by_cases hn : j = nx P.length i
    · have h1 := h.ok j hj i hi (by omega) (by rw [hn]; exact fun z => nx_nx h.len hi z.symm)
      rw [← e, turn_a] at h1
      omega
    · have h1 := h.ok i hi j hj (by omega) hn
      rw [← e, turn_a] at h1
      omega
def wr (n i : Nat) : Nat := if i < n then i else i - n
theorem few {P : List Pt} (h3 : 3 ≤ P.length) (h6 : P.length ≤ 6) : (∃ a b c, P = [a, b, c]) ∨ (∃ a b c d, P = [a, b, c, d]) ∨ (∃ a b c d e, P = [a, b, c, d, e]) ∨ (∃ a b c d e f, P = [a, b, c, d, e, f]) := by
  match P, h3, h6 with
  | [a, b, c], _, _ => exact .inl ⟨a, b, c, rfl⟩
  | [a, b, c, d], _, _ => exact .inr (.inl ⟨a, b, c, d, rfl⟩)
  | [a, b, c, d, e], _, _ => exact .inr (.inr (.inl ⟨a, b, c, d, e, rfl⟩))
  | [a, b, c, d, e, f], _, _ => exact .inr (.inr (.inr ⟨a, b, c, d, e, f, rfl⟩))
end Lw

set_option Elab.async false
set_option linter.all false
set_option maxRecDepth 100000
set_option maxHeartbeats 4000000
namespace Lw
open PySem PySem.Spec PyProof.Rows L2 SD
def ptD (p : Pt) : DV := .tup [.int p.1, .int p.2]
def polyD (P : List Pt) : DV := .tup (P.map ptD)
def edD (e : Pt × Pt) : DV := .tup [ptD e.1, ptD e.2]
section
variable {μ : Sto} {ρ : En} {α : Type}
@[simp] theorem pt0 {p : Pt} : vIx (ptD p) (.int 0) μ = some (.int p.1) := tup0
@[simp] theorem pt1 {p : Pt} : vIx (ptD p) (.int 1) μ = some (.int p.2) := tup1
@[simp] theorem len_poly {P : List Pt} : vLen [polyD P] μ = some (.int P.length) := by
  show some (DV.int ((P.map ptD).length : Nat)) = _
  rw [List.length_map]
theorem wk_tup {xs : List DV} : wkOf (.tup xs) μ = some (.fix xs) := rfl
@[simp] theorem g2_pt {i j : Nat} {p : Pt} : gTup' (gCons' (gN i) (gCons' (gN j) gNil')) 2 (ptD p) ρ μ = some ((ρ.set i (some (.int p.1))).set j (some (.int p.2))) := rfl
@[simp] theorem g2_ed {i j : Nat} {e : Pt × Pt} : gTup' (gCons' (gN i) (gCons' (gN j) gNil')) 2 (edD e) ρ μ = some ((ρ.set i (some (ptD e.1))).set j (some (ptD e.2))) := rfl
@[simp] theorem g2_tup {i j : Nat} {x y : DV} : gTup' (gCons' (gN i) (gCons' (gN j) gNil')) 2 (.tup [x, y]) ρ μ = some ((ρ.set i (some x)).set j (some y)) := rfl
end
end Lw

set_option Elab.async false
set_option linter.all false
set_option maxRecDepth 100000
set_option maxHeartbeats 4000000
namespace Lw
open PySem PySem.Spec PyProof.Rows L2 SD
section
variable {μ : Sto} {ρ : En} {α : Type}
def p0 : DV → Bool
  | .str _ | .non | .bl _ | .int _ | .tup _ | .lst _ | .dct _ _ => true
  | _ => false
def p1 : DV → Bool
  | .tup xs => xs.all p0
  | d => p0 d
def p2 : DV → Bool
  | .tup xs => xs.all p1
  | d => p0 d
def in2 (i : Int) : Bool := decide (-200 ≤ i) && decide (i ≤ 200)
def sp (p : Pt) : Bool := in2 p.1 && in2 p.2
end
end Lw

set_option Elab.async false
set_option linter.all false
set_option maxRecDepth 100000
set_option maxHeartbeats 4000000
namespace Lw
open PySem PySem.Spec PyProof.Rows L2 SD
section
variable {μ : Sto} {ρ : En} {α : Type}
theorem same_tup (k : Nat) {ds : List DV} (h : ∀ d ∈ ds, f__law_same (k + 1) [d, d] μ = .ok (.bl true) μ) (hl : ds.length ≤ 1000) : f__law_same (k + 2) [.tup ds, .tup ds] μ = .ok (.bl true) μ := by
  rw [same_succ, runF2]
  unfold b__law_same
  have wp : wipeE [some (.tup ds), some (.tup ds), none, none, none] [3] = [some (.tup ds), some (.tup ds), none, none, none] := rfl
  have hc : compD (gN 3) tYes' (eCall (f__law_same (k + 1)) (aCons (eBin vIx (eVar 0) (eVar 3)) (aCons (eBin vIx (eVar 1) (eVar 3)) aNil))) [some (.tup ds), some (.tup ds), none, none, none] ((List.range ds.length).map fun (i : Nat) => DV.int (i : Int)) μ = .ok ((List.range ds.length).map fun i => .bl true) μ := by
    have := compD_map (μ := μ) (ρ := [some (.tup ds), some (.tup ds), none, none, none]) (t := gN 3) (te := eCall (f__law_same (k + 1)) (aCons (eBin vIx (eVar 0) (eVar 3)) (aCons (eBin vIx (eVar 1) (eVar 3)) aNil))) (fun _ => .bl true) ((List.range ds.length).map fun (i : Nat) => DV.int (i : Int)) (fun z hz => by
      obtain ⟨i, hi, rfl⟩ := List.mem_map.mp hz
      have hi' : i < ds.length := List.mem_range.mp hi
      have hx : vIx (.tup ds) (.int (i : Int)) μ = some ds[i] := by
        show atI ds (i : Int) = _
        rw [atI_nat hi', List.getElem?_eq_getElem hi']
      have hlf := h _ (List.getElem_mem hi')
      exact ⟨_, rfl, by simp [hx, hlf]⟩)
    rw [this, List.map_map]
    rfl
  have hv : vAll [.lst ((List.range ds.length).map fun _ => DV.bl true)] μ = some (.bl true) := by
    rw [vAll_map (μ := μ) (List.range ds.length) fun _ => true]
    simp
  have hrg : ∀ ρ : En, ρ[1]? = some (some (.tup ds)) → iRng1' (aCons (eFn vLen (aCons (eVar 1) aNil)) aNil) ρ μ = .ok (.fix ((List.range ds.length).map fun (i : Nat) => DV.int (i : Int))) μ := by
    intro ρ hρ
    rw [iRng1_ap]
    simp only [eFn_ap, aCons_ap, aNil_ap, eVar_ap, hρ, ac1_ok, ac2_ok, mk_ok, vLen_t, of_some, rg1_ok]
    rw [rng_n hl, of_some]
  have hlc : eLc (iRng1' (aCons (eFn vLen (aCons (eVar 1) aNil)) aNil)) (gN 3) tYes' (eCall (f__law_same (k + 1)) (aCons (eBin vIx (eVar 0) (eVar 3)) (aCons (eBin vIx (eVar 1) (eVar 3)) aNil))) [3] [some (.tup ds), some (.tup ds), none, none, none] μ = .ok (.lst ((List.range ds.length).map fun _ => DV.bl true)) μ := by
    rw [eLc_ap, wp, hrg _ rfl, lc_rng hl, hc, mk_ok]
  have hall : eFn vAll (aCons (eLc (iRng1' (aCons (eFn vLen (aCons (eVar 1) aNil)) aNil)) (gN 3) tYes' (eCall (f__law_same (k + 1)) (aCons (eBin vIx (eVar 0) (eVar 3)) (aCons (eBin vIx (eVar 1) (eVar 3)) aNil))) [3]) aNil) [some (.tup ds), some (.tup ds), none, none, none] μ = .ok (.bl true) μ := by
    rw [eFn_ap, aCons_ap, hlc, ac1_ok, aNil_ap, ac2_ok, mk_ok, hv, of_some]
  show SR.fin .fz μ.length (_ : SR) = _
  generalize eFn vAll (aCons (eLc (iRng1' (aCons (eFn vLen (aCons (eVar 1) aNil)) aNil)) (gN 3) tYes' (eCall (f__law_same (k + 1)) (aCons (eBin vIx (eVar 0) (eVar 3)) (aCons (eBin vIx (eVar 1) (eVar 3)) aNil))) [3]) aNil) = E at hall ⊢
  simp [T7.sub, hall]
end
section
variable {μ : Sto}
end
end Lw

set_option Elab.async false
set_option linter.all false
set_option maxRecDepth 100000
set_option maxHeartbeats 4000000
namespace Lw
open PySem PySem.Spec PyProof.Rows L2 SD
section
variable {μ : Sto}
end
end Lw

namespace Lw
open PySem PySem.Spec PyProof.Rows L2 SD
section
variable {μ : Sto}
theorem letters : f__law_letters [] μ = .ok (.str "abcdefghijklmnopqrstuvwxyz") μ := by
  unfold f__law_letters
  rw [runF0]
  unfold b__law_letters
  simp
end
end Lw

namespace Lw
open PySem PySem.Spec PyProof.Rows L2 SD
section
variable {μ : Sto}
theorem len_l {z : Str} : z.length = z.cps.toList.length := by simp [Str.length]
theorem vEq_s {a b : Str} (ha : PyData.strOk a = true) (hb : PyData.strOk b = true) : vEq (.str a) (.str b) μ = some (.bl (decide (a = b))) := by
  have h1 : ∀ z : Str, PyData.strOk z = true → SeqAt.shaped (.str z) = true := fun z h => by
    unfold SeqAt.shaped
    simp [PyData.canLay0, PyData.depth, h]
  show (if (SeqAt.shaped (.str a) && SeqAt.shaped (.str b)) = true then some (PyData.eqv (.str a) (.str b)) else none).map DV.bl = _
  rw [h1 a ha, h1 b hb]
  simp [PyData.eqv]
  rfl
theorem nil_eq : ("" : Str) = ⟨#[]⟩ := by decide +kernel
end
end Lw

namespace Lw
open PySem PySem.Spec PyProof.Rows L2 SD
def sn (n : Nat) (z : Str) : Bool := decide (z.length ≤ n) && PyData.strOk z
theorem sn_iff {n : Nat} {l : List Nat} : sn n ⟨l.toArray⟩ = true ↔ l.length ≤ n ∧ ∀ c ∈ l, c < 0x110000 := by
  unfold sn PyData.strOk Str.length
  simp
theorem signs_of {P : Nat → Prop} : ∀ (ys : List DV), (∀ y ∈ ys, ∃ c, y = .str ⟨#[c]⟩ ∧ P c) → ∃ l : List Nat, ys = (l.map fun c => DV.str ⟨#[c]⟩) ∧ ∀ c ∈ l, P c
  | [], _ => ⟨[], rfl, fun _ h => nomatch h⟩
  | y :: ys, h => by
    obtain ⟨c, rfl, hc⟩ := h y (by simp)
    obtain ⟨l, rfl, hl⟩ := signs_of ys fun z hz => h z (List.mem_cons_of_mem _ hz)
    refine ⟨c :: l, rfl, fun d hd => ?_⟩
    rcases List.mem_cons.mp hd with rfl | hd
    · exact hc
    · exact hl d hd
theorem asSs_signs : ∀ (l : List Nat), asSs (l.map fun c => DV.str ⟨#[c]⟩) = some (l.map fun c => (⟨#[c]⟩ : Str))
  | [] => rfl
  | c :: l => by simp [asSs, asSs_signs l]
theorem join_signs : ∀ (l : List Nat), Str.join ⟨#[]⟩ (l.map fun c => (⟨#[c]⟩ : Str)) = ⟨l.toArray⟩
  | [] => rfl
  | [c] => rfl
  | c :: d :: l => by
    show (⟨#[c]⟩ : Str) ++ ⟨#[]⟩ ++ Str.join ⟨#[]⟩ ((d :: l).map fun c => (⟨#[c]⟩ : Str)) = _
    rw [join_signs (d :: l)]
    show Str.append (Str.append ⟨#[c]⟩ ⟨#[]⟩) ⟨(d :: l).toArray⟩ = _
    unfold Str.append
    simp
theorem sum_signs (l : List Nat) : ((l.map fun c => (⟨#[c]⟩ : Str)).map (·.length)).sum = l.length := by
  induction l with
  | nil => rfl
  | cons c l ih =>
    rw [List.map_cons, List.map_cons, List.sum_cons, ih, List.length_cons]
    show 1 + _ = _
    omega
theorem join_ok {μ : Sto} {P : Nat → Prop} {ys : List DV} (h : ∀ y ∈ ys, ∃ c, y = .str ⟨#[c]⟩ ∧ P c) (hl : ys.length ≤ 1000) : ∃ l : List Nat, mJoin (.str "") [.lst ys] μ = some (.str ⟨l.toArray⟩, μ) ∧ l.length = ys.length ∧ ∀ c ∈ l, P c := by
  obtain ⟨l, rfl, hp⟩ := signs_of ys h
  rw [List.length_map] at hl
  refine ⟨l, ?_, by rw [List.length_map], hp⟩
  have e0 : ("" : Str).length = 0 := by rw [nil_eq]; rfl
  show (asSs (l.map fun c => DV.str ⟨#[c]⟩)).bind (fun ys => if decide ((ys.map (·.length)).sum + ys.length * ("" : Str).length ≤ 16777216) = true then some (DV.str (Txt.join "" ys), μ) else none) = _
  rw [asSs_signs, Option.bind_some, sum_signs, e0, if_pos (by simp; omega), _root_.TL.join_eq, nil_eq, join_signs]
end Lw

namespace Lw
open PySem PySem.Spec PyProof.Rows L2 SD
theorem letters_lo : ∀ c ∈ ("abcdefghijklmnopqrstuvwxyz" : Str).cps.toList, 97 ≤ c ∧ c ≤ 122 := by
  have : ("abcdefghijklmnopqrstuvwxyz" : Str).cps.toList = [97, 98, 99, 100, 101, 102, 103, 104, 105, 106, 107, 108, 109, 110, 111, 112, 113, 114, 115, 116, 117, 118, 119, 120, 121, 122] := by decide +kernel
  rw [this]
  decide
theorem letters_n : ("abcdefghijklmnopqrstuvwxyz" : Str).length = 26 := by decide +kernel
def wd : DV → Bool
  | .str z => sn 6 z && z.cps.toList.all fun c => decide (97 ≤ c) && decide (c ≤ 122)
  | _ => false
theorem wipe2' {x y z : Option DV} : wipeE [x, y, z] [2] = [x, y, none] := rfl
theorem word_ok (b : Bx) : Ex wd (f__law_word [.cell 0, .int 6] [enc b]) := by
  have lo := tk_lo (b := b) (many := 6) (by decide) (by decide)
  have hi := tk_hi (b := b) (many := 6) (by decide) (by decide)
  obtain ⟨k, hk⟩ := Int.eq_ofNat_of_zero_le lo
  have hk6 : k + 1 ≤ 6 := by omega
  have e1 : 1 + tkN b 6 = ((k + 1 : Nat) : Int) := by omega
  have hc : ∃ ys b', compD (gN 2) tYes' (eBin vIx (eCall f__law_letters aNil) (eCall f__law_take (aCons (eVar 0) (aCons (eC (.int 26)) aNil)))) [some (.cell 0), some (.int 6), none] ((List.range (k + 1)).map fun (i : Nat) => DV.int (i : Int)) [enc (tkB b 6)] = .ok ys [enc b'] ∧ ys.length = k + 1 ∧ ∀ y ∈ ys, ∃ c, y = .str ⟨#[c]⟩ ∧ c ∈ ("abcdefghijklmnopqrstuvwxyz" : Str).cps.toList := by
    obtain ⟨ys, μ', e, ⟨b', rfl⟩, hl, hp⟩ := compD_inv (ρ := [some (.cell 0), some (.int 6), none]) (t := gN 2) (te := eBin vIx (eCall f__law_letters aNil) (eCall f__law_take (aCons (eVar 0) (aCons (eC (.int 26)) aNil)))) (fun μ => ∃ b, μ = [enc b]) (fun y => ∃ c, y = .str ⟨#[c]⟩ ∧ c ∈ ("abcdefghijklmnopqrstuvwxyz" : Str).cps.toList) ((List.range (k + 1)).map fun (i : Nat) => DV.int (i : Int)) [enc (tkB b 6)] ⟨_, rfl⟩ (by
      rintro d hd μ ⟨b1, rfl⟩
      have l1 := tk_lo (b := b1) (many := 26) (by decide) (by decide)
      have h1 := tk_hi (b := b1) (many := 26) (by decide) (by decide)
      obtain ⟨j, hj⟩ := Int.eq_ofNat_of_zero_le l1
      have hj26 : j < ("abcdefghijklmnopqrstuvwxyz" : Str).cps.toList.length := by rw [← len_l, letters_n]; omega
      refine ⟨_, rfl, .str ⟨#[("abcdefghijklmnopqrstuvwxyz" : Str).cps.toList[j]]⟩, [enc (tkB b1 26)], ?_, ⟨_, rfl⟩, _, rfl, List.getElem_mem hj26⟩
      have hx : vIx (.str "abcdefghijklmnopqrstuvwxyz") (.int (j : Int)) [enc (tkB b1 26)] = some (.str ⟨#[("abcdefghijklmnopqrstuvwxyz" : Str).cps.toList[j]]⟩) := by
        show (if okLen ("abcdefghijklmnopqrstuvwxyz" : Str).length = true then (atI ("abcdefghijklmnopqrstuvwxyz" : Str).cps.toList (j : Int)).map (fun c => DV.str ⟨#[c]⟩) else none) = _
        rw [if_pos (okLen_small (by rw [letters_n]; decide)), atI_nat hj26, List.getElem?_eq_getElem hj26]
        rfl
      simp only [eBin_ap, eCall_ap, aNil_ap, mk_ok, letters, bin1_ok, aCons_ap, eVar_ap, gN_ap, List.set_cons_succ, List.set_cons_zero, List.getElem?_cons_zero, ac1_ok, eC_ap, ac2_ok, take_s (by decide : (0 : Int) < 26) (by decide : (26 : Int) < 1073741824), bin2_ok, hj, hx, of_some])
    exact ⟨ys, b', e, by rw [hl, List.length_map, List.length_range], hp⟩
  obtain ⟨ys, b', e, hl, hp⟩ := hc
  obtain ⟨l, hj, hll, hlp⟩ := join_ok (μ := [enc b']) hp (by omega)
  unfold f__law_word
  rw [runF2]
  unfold b__law_word
  have hrg : R.of (rngOf1 [.int (1 + tkN b 6)]) [enc (tkB b 6)] = .ok (.fix ((List.range (k + 1)).map fun (i : Nat) => DV.int (i : Int))) [enc (tkB b 6)] := by
    rw [e1, rng_n (by omega)]
    rfl
  have hrcv : ∀ μ, recv "str" (.str (("" : Str))) μ = true := fun _ => rfl
  simp only [sRet_ap, eBm_ap, eC_ap, bm1_ok, hrcv, if_true, aCons_ap, eLc_ap, iRng1_ap, eBin_ap, bin1_ok, eCall_ap, eVar_ap, List.cons_append, List.nil_append, List.replicate, List.getElem?_cons_zero, List.getElem?_cons_succ, ac1_ok, aNil_ap, ac2_ok, mk_ok, take_s (by decide : (0 : Int) < 6) (by decide : (6 : Int) < 1073741824), bin2_ok, vAdd_i, of_some, rg1_ok, hrg, wipe2', lc_rng (show k + 1 ≤ 1000 by omega), e, bm2_ok, hj, ofS_some, ret_ok, sfin_rt, List.length_singleton, fin_cons1]
  rw [Ex_ok]
  show (sn 6 ⟨l.toArray⟩ && _) = true
  rw [Bool.and_eq_true]
  refine ⟨sn_iff.mpr ⟨by omega, fun c hc => by have := letters_lo c (hlp c hc); omega⟩, ?_⟩
  rw [List.all_eq_true]
  intro c hc
  have := letters_lo c (hlp c (by simpa using hc))
  simp [this]
end Lw


set_option Elab.async false
set_option linter.all false
set_option maxRecDepth 100000
set_option maxHeartbeats 4000000
namespace Lw
open PySem PySem.Spec PyProof.Rows L2 SD
section
variable {μ : Sto} {ρ : En} {α : Type}
end
section
variable {μ : Sto}
end
section
variable {μ : Sto}
structure LL (μ : Sto) (a : DV) (xs : List DV) : Prop where
  ty : tyOf μ a = some .lst
  ln : vLen [a] μ = some (.int xs.length)
  ix : ∀ (i : Nat) (h : i < xs.length), vIx a (.int (i : Int)) μ = some xs[i]
theorem LL.lst {xs : List DV} : LL μ (.lst xs) xs := ⟨rfl, rfl, fun i h => by
  show atI xs (i : Int) = _
  rw [atI_nat h, List.getElem?_eq_getElem h]⟩
theorem LL.cell {i : Nat} {xs : List DV} (h : μ[i]? = some (.lst xs)) : LL μ (.cell i) xs := by
  have e : seqOf μ (.cell i) = some xs := by
    show lstOf μ (.cell i) = _
    simp only [lstOf, h]
  refine ⟨by simp only [tyOf, h], ?_, fun j hj => ?_⟩
  · show (match seqOf μ (.cell i) with
      | some xs => some (DV.int xs.length)
      | none => none) = _
    rw [e]
  · show (match seqOf μ (.cell i) with
      | some xs => atI xs (j : Int)
      | none => none) = _
    rw [e]
    show atI xs (j : Int) = _
    rw [atI_nat hj, List.getElem?_eq_getElem hj]
theorem same_ll (k : Nat) {a : DV} {xs ys : List DV} (L : LL μ a xs) (hn : xs.length = ys.length) (h : ∀ (i : Nat) (h1 : i < xs.length) (h2 : i < ys.length), f__law_same (k + 1) [xs[i], ys[i]] μ = .ok (.bl true) μ) (hl : ys.length ≤ 1000) : f__law_same (k + 2) [a, .lst ys] μ = .ok (.bl true) μ := by
  rw [same_succ, runF2]
  unfold b__law_same
  have ty := L.ty
  have ln := L.ln
  rw [hn] at ln
  have wp : wipeE [some a, some (.lst ys), none, none, none] [3] = [some a, some (.lst ys), none, none, none] := rfl
  have hc : compD (gN 3) tYes' (eCall (f__law_same (k + 1)) (aCons (eBin vIx (eVar 0) (eVar 3)) (aCons (eBin vIx (eVar 1) (eVar 3)) aNil))) [some a, some (.lst ys), none, none, none] ((List.range ys.length).map fun (i : Nat) => DV.int (i : Int)) μ = .ok ((List.range ys.length).map fun i => .bl true) μ := by
    have := compD_map (μ := μ) (ρ := [some a, some (.lst ys), none, none, none]) (t := gN 3) (te := eCall (f__law_same (k + 1)) (aCons (eBin vIx (eVar 0) (eVar 3)) (aCons (eBin vIx (eVar 1) (eVar 3)) aNil))) (fun _ => .bl true) ((List.range ys.length).map fun (i : Nat) => DV.int (i : Int)) (fun z hz => by
      obtain ⟨i, hi, rfl⟩ := List.mem_map.mp hz
      have hi' : i < ys.length := List.mem_range.mp hi
      have hx := L.ix i (by omega)
      have hy := (LL.lst (μ := μ) (xs := ys)).ix i hi'
      have hlf := h i (by omega) hi'
      exact ⟨_, rfl, by simp [hx, hy, hlf]⟩)
    rw [this, List.map_map]
    rfl
  have hv : vAll [.lst ((List.range ys.length).map fun _ => DV.bl true)] μ = some (.bl true) := by
    rw [vAll_map (μ := μ) (List.range ys.length) fun _ => true]
    simp
  have hrg : ∀ ρ : En, ρ[1]? = some (some (.lst ys)) → iRng1' (aCons (eFn vLen (aCons (eVar 1) aNil)) aNil) ρ μ = .ok (.fix ((List.range ys.length).map fun (i : Nat) => DV.int (i : Int))) μ := by
    intro ρ hρ
    rw [iRng1_ap]
    simp only [eFn_ap, aCons_ap, aNil_ap, eVar_ap, hρ, ac1_ok, ac2_ok, mk_ok, vLen_l, of_some, rg1_ok]
    rw [rng_n hl, of_some]
  have hlc : eLc (iRng1' (aCons (eFn vLen (aCons (eVar 1) aNil)) aNil)) (gN 3) tYes' (eCall (f__law_same (k + 1)) (aCons (eBin vIx (eVar 0) (eVar 3)) (aCons (eBin vIx (eVar 1) (eVar 3)) aNil))) [3] [some a, some (.lst ys), none, none, none] μ = .ok (.lst ((List.range ys.length).map fun _ => DV.bl true)) μ := by
    rw [eLc_ap, wp, hrg _ rfl, lc_rng hl, hc, mk_ok]
  have hall : eFn vAll (aCons (eLc (iRng1' (aCons (eFn vLen (aCons (eVar 1) aNil)) aNil)) (gN 3) tYes' (eCall (f__law_same (k + 1)) (aCons (eBin vIx (eVar 0) (eVar 3)) (aCons (eBin vIx (eVar 1) (eVar 3)) aNil))) [3]) aNil) [some a, some (.lst ys), none, none, none] μ = .ok (.bl true) μ := by
    rw [eFn_ap, aCons_ap, hlc, ac1_ok, aNil_ap, ac2_ok, mk_ok, hv, of_some]
  show SR.fin .fz μ.length (_ : SR) = _
  generalize eFn vAll (aCons (eLc (iRng1' (aCons (eFn vLen (aCons (eVar 1) aNil)) aNil)) (gN 3) tYes' (eCall (f__law_same (k + 1)) (aCons (eBin vIx (eVar 0) (eVar 3)) (aCons (eBin vIx (eVar 1) (eVar 3)) aNil))) [3]) aNil) = E at hall ⊢
  simp [T7.sub, hall, ty, ln]
theorem same_s {x : Str} (k : Nat) (hs : vEq (.str x) (.str x) μ = some (.bl true)) : f__law_same (k + 1) [.str x, .str x] μ = .ok (.bl true) μ := by
  have wp : wipeE [some (.str x), some (.str x), none, none, none] [4] = [some (.str x), some (.str x), none, none, none] := rfl
  have hk : compD (gN 4) tYes' (eLst (aCons (eFn vIsi (aCons (eVar 4) (aCons (eC (.ty .bl)) aNil))) (aCons (eFn vIsi (aCons (eVar 4) (aCons (eC (.ty .int)) aNil))) (aCons (eFn vIsi (aCons (eVar 4) (aCons (eC (.ty .str)) aNil))) (aCons (eFn vIsi (aCons (eVar 4) (aCons (eC (.ty .dct)) aNil))) (aCons (eBin vIs (eVar 4) (eC .non)) aNil)))))) [some (.str x), some (.str x), none, none, none] [.str x, .str x] μ = .ok [.lst [.bl false, .bl false, .bl true, .bl false, .bl false], .lst [.bl false, .bl false, .bl true, .bl false, .bl false]] μ := by
    have hi : vIs (.str x) .non μ = some (.bl false) := rfl
    have := compD_map (μ := μ) (ρ := [some (.str x), some (.str x), none, none, none]) (t := gN 4) (te := eLst (aCons (eFn vIsi (aCons (eVar 4) (aCons (eC (.ty .bl)) aNil))) (aCons (eFn vIsi (aCons (eVar 4) (aCons (eC (.ty .int)) aNil))) (aCons (eFn vIsi (aCons (eVar 4) (aCons (eC (.ty .str)) aNil))) (aCons (eFn vIsi (aCons (eVar 4) (aCons (eC (.ty .dct)) aNil))) (aCons (eBin vIs (eVar 4) (eC .non)) aNil)))))) (fun _ => .lst [.bl false, .bl false, .bl true, .bl false, .bl false]) [.str x, .str x] (fun z hz => ⟨_, rfl, by
      have e : z = .str x := by simpa using hz
      subst e
      simp [T7.sub, hi, mkL5]⟩)
    simpa using this
  unfold f__law_same
  rw [runF2]
  unfold b__law_same
  simp [T7.sub, wk_two, lc_two, wp, hk, eq5, hs]
end
end Lw

set_option Elab.async false
set_option linter.all false
set_option maxRecDepth 100000
set_option maxHeartbeats 4000000
namespace Lw
open PySem PySem.Spec PyProof.Rows L2 SD
section
variable {μ : Sto}
end
section
variable {μ : Sto}
end
section
variable {μ : Sto} {ρ : En} {α : Type}
end
section
variable {μ : Sto}
end
section
variable {μ : Sto}
theorem same_pt (k : Nat) {p : Pt} : f__law_same (k + 2) [ptD p, ptD p] μ = .ok (.bl true) μ := by
  refine same_tup k (fun d hd => ?_) (by show 2 ≤ _; decide)
  simp only [List.mem_cons, List.not_mem_nil, or_false] at hd
  rcases hd with rfl | rfl <;> exact same_leaf k rfl
end
section
variable {μ : Sto}
end
section
variable {μ : Sto}
theorem same_d (k : Nat) {ks : List Key} {xs : List DV} (hs : vEq (.dct ks xs) (.dct ks xs) μ = some (.bl true)) : f__law_same (k + 1) [.dct ks xs, .dct ks xs] μ = .ok (.bl true) μ := by
  have wp : wipeE [some (.dct ks xs), some (.dct ks xs), none, none, none] [4] = [some (.dct ks xs), some (.dct ks xs), none, none, none] := rfl
  have hk : compD (gN 4) tYes' (eLst (aCons (eFn vIsi (aCons (eVar 4) (aCons (eC (.ty .bl)) aNil))) (aCons (eFn vIsi (aCons (eVar 4) (aCons (eC (.ty .int)) aNil))) (aCons (eFn vIsi (aCons (eVar 4) (aCons (eC (.ty .str)) aNil))) (aCons (eFn vIsi (aCons (eVar 4) (aCons (eC (.ty .dct)) aNil))) (aCons (eBin vIs (eVar 4) (eC .non)) aNil)))))) [some (.dct ks xs), some (.dct ks xs), none, none, none] [.dct ks xs, .dct ks xs] μ = .ok [.lst [.bl false, .bl false, .bl false, .bl true, .bl false], .lst [.bl false, .bl false, .bl false, .bl true, .bl false]] μ := by
    have hi : vIs (.dct ks xs) .non μ = some (.bl false) := rfl
    have := compD_map (μ := μ) (ρ := [some (.dct ks xs), some (.dct ks xs), none, none, none]) (t := gN 4) (te := eLst (aCons (eFn vIsi (aCons (eVar 4) (aCons (eC (.ty .bl)) aNil))) (aCons (eFn vIsi (aCons (eVar 4) (aCons (eC (.ty .int)) aNil))) (aCons (eFn vIsi (aCons (eVar 4) (aCons (eC (.ty .str)) aNil))) (aCons (eFn vIsi (aCons (eVar 4) (aCons (eC (.ty .dct)) aNil))) (aCons (eBin vIs (eVar 4) (eC .non)) aNil)))))) (fun _ => .lst [.bl false, .bl false, .bl false, .bl true, .bl false]) [.dct ks xs, .dct ks xs] (fun z hz => ⟨_, rfl, by
      have e : z = .dct ks xs := by simpa using hz
      subst e
      simp [T7.sub, hi, mkL5]⟩)
    simpa using this
  unfold f__law_same
  rw [runF2]
  unfold b__law_same
  simp [T7.sub, wk_two, lc_two, wp, hk, eq5, hs]
structure Val (d : DV) : Prop where
  p : p1 d = true
  e : d.noE = true
  l : d.low 0 = true
  s : ∀ (μ : Sto) (k : Nat), f__law_same (k + 3) [d, d] μ = .ok (.bl true) μ
theorem Val.leaf {d : DV} (h : leaf d = true) : Val d := ⟨by cases d <;> first | rfl | (cases h), by cases d <;> first | rfl | (cases h), by cases d <;> first | rfl | (cases h), fun μ k => same_leaf _ h⟩
theorem Val.str {z : Str} (h : PyData.strOk z = true) : Val (.str z) := ⟨rfl, rfl, rfl, fun μ k => same_s _ (by rw [vEq_s h h]; simp)⟩
theorem Val.pt {p : Pt} : Val (ptD p) := ⟨rfl, rfl, rfl, fun μ k => same_pt _⟩
theorem same_str (k : Nat) {z : Str} (h : PyData.strOk z = true) : f__law_same (k + 1) [.str z, .str z] μ = .ok (.bl true) μ := same_s _ (by rw [vEq_s h h]; simp)
def lf (d : DV) : Bool := match d with
  | .str z => PyData.strOk z
  | d => leaf d
theorem lf_same (k : Nat) {d : DV} (h : lf d = true) : f__law_same (k + 1) [d, d] μ = .ok (.bl true) μ := by
  cases d with
  | str z => exact same_str k h
  | _ => exact same_leaf k h
theorem lf_p0 {d : DV} (h : lf d = true) : p0 d = true := by cases d <;> first | rfl | (cases h)
theorem lf_e {d : DV} (h : lf d = true) : d.noE = true := by cases d <;> first | rfl | (cases h)
theorem lf_l {d : DV} (h : lf d = true) : d.low 0 = true := by cases d <;> first | rfl | (cases h)
theorem lfs_e : ∀ {ds : List DV}, ds.all lf = true → noEL ds = true
  | [], _ => rfl
  | d :: ds, h => by
    rw [List.all_cons, Bool.and_eq_true] at h
    show (d.noE && noEL ds) = true
    rw [lf_e h.1, lfs_e h.2]; rfl
theorem lfs_l : ∀ {ds : List DV}, ds.all lf = true → lowL 0 ds = true
  | [], _ => rfl
  | d :: ds, h => by
    rw [List.all_cons, Bool.and_eq_true] at h
    show (d.low 0 && lowL 0 ds) = true
    rw [lf_l h.1, lfs_l h.2]; rfl
theorem Val.tup {ds : List DV} (h : ds.all lf = true) (hl : ds.length ≤ 1000) : Val (.tup ds) := ⟨List.all_eq_true.mpr fun d hd => lf_p0 (List.all_eq_true.mp h d hd), lfs_e h, lfs_l h, fun μ k => same_tup (k + 1) (fun d hd => lf_same _ (List.all_eq_true.mp h d hd)) hl⟩
theorem Val.lst {ds : List DV} (h : ds.all lf = true) (hl : ds.length ≤ 1000) : Val (.lst ds) := ⟨rfl, lfs_e h, lfs_l h, fun μ k => same_ll (k + 1) LL.lst rfl (fun i h1 h2 => lf_same _ (List.all_eq_true.mp h _ (List.getElem_mem h1))) hl⟩
theorem Val.two {p q : Pt} : Val (.tup [ptD p, ptD q]) := ⟨rfl, rfl, rfl, fun μ k => same_tup (k + 1) (fun d hd => by
  simp only [List.mem_cons, List.not_mem_nil, or_false] at hd
  rcases hd with rfl | rfl <;> exact same_pt _) (by show 2 ≤ _; decide)⟩
theorem Val.d0 : Val (.dct [] []) := ⟨rfl, rfl, rfl, fun μ k => same_d _ (by rfl)⟩
theorem Val.d1 : Val (.dct [.inr ("a" : Str)] [.int 1]) := ⟨rfl, rfl, rfl, fun μ k => same_d _ (by rfl)⟩
end
end Lw

set_option Elab.async false
set_option linter.all false
set_option maxRecDepth 100000
set_option maxHeartbeats 4000000
namespace Lw
open PySem PySem.Spec PyProof.Rows L2 SD
section
variable {μ : Sto}
def oddL : List DV := [.non, .bl true, .bl false, .int 0, .int (-1), .int 5, .str "", .str "A", .str "ab1", .str "abcdefg", .str "a b", .str "a\n", .tup [], .lst [], .dct [] [], .tup [.str "a"], .lst [.str "a"], .dct [.inr ("a" : Str)] [.int 1], .tup [.int 1, .int 2], .lst [.int 0], .tup [.non], .tup [.tup [.int 0, .int 0], .tup [.int 1, .int 0]]]
theorem oddL_val : ∀ d ∈ oddL, Val d := by
  intro d hd
  unfold oddL at hd
  simp only [List.mem_cons, List.not_mem_nil, or_false] at hd
  rcases hd with h | h | h | h | h | h | h | h | h | h | h | h | h | h | h | h | h | h | h | h | h | h <;> subst h
  · exact Val.leaf rfl
  · exact Val.leaf rfl
  · exact Val.leaf rfl
  · exact Val.leaf rfl
  · exact Val.leaf rfl
  · exact Val.leaf rfl
  · exact Val.str (by decide +kernel)
  · exact Val.str (by decide +kernel)
  · exact Val.str (by decide +kernel)
  · exact Val.str (by decide +kernel)
  · exact Val.str (by decide +kernel)
  · exact Val.str (by decide +kernel)
  · exact Val.tup rfl (by decide)
  · exact Val.lst rfl (by decide)
  · exact Val.d0
  · exact Val.tup (by decide +kernel) (by show 1 ≤ _; decide)
  · exact Val.lst (by decide +kernel) (by show 1 ≤ _; decide)
  · exact Val.d1
  · exact Val.pt (p := (1, 2))
  · exact Val.lst rfl (by show 1 ≤ _; decide)
  · exact Val.tup rfl (by show 1 ≤ _; decide)
  · exact Val.two (p := (0, 0)) (q := (1, 0))
theorem odd_ok (b : Bx) : ∃ d b', f__law_odd [.cell 0] (enc b :: μ) = .ok d (enc b' :: μ) ∧ Val d := by
  obtain ⟨d, b1, e1, hd⟩ := pick_ok (μ := μ) (b := b) oddL (by show 0 < 22; decide) (by show 22 < _; decide)
  refine ⟨d, b1, ?_, oddL_val d hd⟩
  have e1' : f__law_pick [.cell 0, .lst [.non, .bl true, .bl false, .int 0, .int (-1), .int 5, .str "", .str "A", .str "ab1", .str "abcdefg", .str "a b", .str "a\n", .tup [], .lst [], .dct [] [], .tup [.str "a"], .lst [.str "a"], .dct [.inr ("a" : Str)] [.int 1], .tup [.int 1, .int 2], .lst [.int 0], .tup [.non], .tup [.tup [.int 0, .int 0], .tup [.int 1, .int 0]]]] (enc b :: μ) = .ok d (enc b1 :: μ) := e1
  unfold f__law_odd
  rw [runF1]
  unfold b__law_odd
  have hd0 : ∀ (ρ : En) (μ : Sto), eDct0 ρ μ = .ok (.dct [] []) μ := fun _ _ => rfl
  have hd1 : ∀ (ρ : En) (μ : Sto), eDct [((eC (.str "a")), (eC (.int 1)))] ρ μ = .ok (.dct [.inr ("a" : Str)] [.int 1]) μ := fun ρ μ => by
    show (match asKeys [((DV.str "a"), (DV.int 1))] with
      | some ks => if (decide (1 ≤ 15) && nodupB ks) = true then (R.ok (DV.dct ks [DV.int 1]) μ : R DV) else R.stuck
      | none => R.stuck) = _
    rfl
  have k22 : ∀ (a1 a2 a3 a4 a5 a6 a7 a8 a9 b1 b2 b3 b4 b5 b6 b7 b8 b9 c1 c2 c3 c4 : DV) μ, mkL [a1, a2, a3, a4, a5, a6, a7, a8, a9, b1, b2, b3, b4, b5, b6, b7, b8, b9, c1, c2, c3, c4] μ = .ok (.lst [a1, a2, a3, a4, a5, a6, a7, a8, a9, b1, b2, b3, b4, b5, b6, b7, b8, b9, c1, c2, c3, c4]) μ := by
    intros
    exact mkL_small (by show 22 ≤ _; decide)
  simp [hd0, hd1, k22, e1']
end
end Lw

set_option Elab.async false
set_option linter.all false
set_option maxRecDepth 100000
set_option maxHeartbeats 1000000
namespace Lw
open PySem PySem.Spec PyProof.Rows L2 SD
theorem toPyL_S : ∀ l : List Str, toPyL (l.map DV.str) = some (l.map PyData.str)
  | [] => rfl
  | a :: l => by
    show (match toPy (DV.str a), toPyL (l.map DV.str) with
      | some p, some ps => some (p :: ps)
      | _, _ => none) = _
    rw [toPyL_S l]; rfl
theorem lay_S : ∀ {l : List Str}, (∀ s ∈ l, PyData.strOk s = true) → PyData.canLayAll0 (l.map PyData.str) = true ∧ PyData.depthAll (l.map PyData.str) = 0
  | [], _ => ⟨rfl, rfl⟩
  | a :: l, h => by
    obtain ⟨h1, h2⟩ := lay_S fun s hs => h s (List.mem_cons_of_mem _ hs)
    rw [List.map_cons]
    constructor
    · unfold PyData.canLayAll0
      rw [h1]
      show (PyData.strOk a && true) = true
      rw [h a List.mem_cons_self]; rfl
    · unfold PyData.depthAll
      rw [h2]; rfl
theorem shaped_st {a : Str} (h : PyData.strOk a = true) : SeqAt.shaped (.str a) = true := by
  unfold SeqAt.shaped
  simp [PyData.canLay0, PyData.depth, h]
theorem shaped_S {l : List Str} (h : ∀ s ∈ l, PyData.strOk s = true) : SeqAt.shaped (.list (l.map PyData.str)) = true := by
  obtain ⟨h1, h2⟩ := lay_S h
  unfold SeqAt.shaped
  simp [PyData.canLay0, PyData.depth, h1, h2]
theorem any_S {a : Str} : ∀ l : List Str, ((l.map PyData.str).any fun z => PyData.eqv z (.str a)) = decide (a ∈ l)
  | [] => rfl
  | b :: l => by
    rw [List.map_cons, List.any_cons, any_S l]
    have e : PyData.eqv (.str b) (.str a) = decide (b = a) := by simp [PyData.eqv]; rfl
    rw [e]
    by_cases h : b = a
    · subst h; simp
    · simp [h, show ¬ a = b from fun z => h z.symm]
theorem inL_S {a : Str} {l : List Str} (ha : PyData.strOk a = true) (h : ∀ s ∈ l, PyData.strOk s = true) : inL (.str a) (l.map .str) = some (decide (a ∈ l)) := by
  unfold inL
  rw [toPyL_S]
  show (if (SeqAt.shaped (.str a) && SeqAt.shaped (.list (l.map PyData.str))) = true then some ((l.map PyData.str).any fun z => PyData.eqv z (.str a)) else none) = _
  rw [shaped_st ha, shaped_S h, any_S]
  rfl
section
variable {μ ν : Sto} {b : Bx}
theorem vIn_tS {a : Str} {l : List Str} (ha : PyData.strOk a = true) (h : ∀ s ∈ l, PyData.strOk s = true) : vIn (.str a) (.tup (l.map .str)) μ = some (.bl (decide (a ∈ l))) ∧ vNotIn (.str a) (.tup (l.map .str)) μ = some (.bl (!decide (a ∈ l))) := by
  constructor
  · show (inL (.str a) (l.map .str)).map DV.bl = _
    rw [inL_S ha h]; rfl
  · show (inL (.str a) (l.map .str)).map (fun b => DV.bl (!b)) = _
    rw [inL_S ha h]; rfl
end
end Lw

set_option Elab.async false
set_option linter.all false
set_option maxRecDepth 100000
set_option maxHeartbeats 4000000
namespace Lw
open PySem PySem.Spec PyProof.Rows L2 SD
section
theorem fin_of {md : Md} {np n : Nat} {b : DS} {ρ : En} {d : DV} {μ : Sto} (h : b ρ μ = .rt d μ) : SR.fin .fz μ.length (b ρ μ) = .ok d μ := by
  rw [h]; exact finF_same
def entL (x y : DV) : List DV := [(.exv 0 ["code", "value"] [.str "InvalidName", x]), (.exv 1 ["code", "value"] [.str "InvalidNumber", x]), (.exv 2 ["code", "value"] [.str "InvalidDirection", x]), (.exv 3 ["code", "at"] [.str "InvalidPart", x]), (.exv 4 ["code", "other", "one"] [.str "PartsOverlap", y, x]), (.exv 5 ["code", "at"] [.str "Loose", x]), (.exv 6 ["code", "at"] [.str "InvalidWay", x]), (.exv 7 ["code", "at"] [.str "InvalidPiece", x]), (.exv 8 ["code", "at"] [.str "InvalidPeg", x]), (.exv 9 ["code", "other", "one"] [.str "PiecesOverlap", y, x]), (.exv 10 ["code", "name"] [.str "DuplicateName", x]), (.exv 11 ["code", "most"] [.str "TooMany", x]), (.exv 12 ["code"] [.str "OutOfBounds"]), (.exv 13 ["code", "why", "line"] [.str "InvalidText", y, x]), (.exv 14 ["code", "at"] [.str "InvalidLot", x]), (.exv 15 ["code"] [.str "OtherThing"]), (.exv 16 ["code"] [.str "InvalidStep"]), (.exv 17 ["code"] [.str "NoParting"]), (.exv 18 ["code"] [.str "NoJoining"]), (.exv 19 ["code", "other", "one"] [.str "Barred", y, x]), (.exv 20 ["code", "peg"] [.str "Pegged", x]), (.exv 21 ["code", "peg"] [.str "NotFast", x]), (.exv 22 ["code", "peg"] [.str "Held", x]), (.exv 23 ["code", "step"] [.str "NotStuck", x]), (.exv 24 ["code", "at"] [.str "InvalidRow", x]), (.exv 25 ["code", "name"] [.str "NeverLeaves", x]), (.exv 26 ["code", "why", "line"] [.str "Refused", y, x]), (.exv 27 ["code"] [.str "InvalidPrices"]), (.exv 28 ["code", "at"] [.str "InvalidDeed", x]), (.exv 29 ["code", "name"] [.str "UnknownName", x]), (.exv 30 ["code"] [.str "NothingLeft"])]
def codL : List DV := [.str "InvalidName", .str "InvalidNumber", .str "InvalidDirection", .str "InvalidPart", .str "PartsOverlap", .str "Loose", .str "InvalidWay", .str "InvalidPiece", .str "InvalidPeg", .str "PiecesOverlap", .str "DuplicateName", .str "TooMany", .str "OutOfBounds", .str "InvalidText", .str "InvalidLot", .str "OtherThing", .str "InvalidStep", .str "NoParting", .str "NoJoining", .str "Barred", .str "Pegged", .str "NotFast", .str "Held", .str "NotStuck", .str "InvalidRow", .str "NeverLeaves", .str "Refused", .str "InvalidPrices", .str "InvalidDeed", .str "UnknownName", .str "NothingLeft"]
def kdB (k : Nat) : DV := .lst ((List.range 31).map fun (j : Nat) => DV.bl (decide ((j : Int) = (k : Int))))
def bd1 (k : Nat) : DV := if k < 29 then .lst [.bl true, .bl true, .bl false, .bl false, .bl false, .bl false] else .lst [.bl false, .bl false, .bl true, .bl true, .bl false, .bl false]
def bdB (k : Nat) : DV := if k < 30 then bd1 k else .lst [.bl false, .bl false, .bl false, .bl true, .bl true, .bl false]
structure Tn (x y : DV) (k : Nat) (e : DV) (c : Str) (ts : List DV) : Prop where
  at_ : ∀ μ, vIx (.lst (entL x y)) (.int (k : Int)) μ = some e
  cd : ∀ μ, vXv csL "code" e μ = some (.str c)
  ca : ∀ μ, vIx (.lst codL) (.int (k : Int)) μ = some (.str c)
  ne : ∀ μ, vNe (.str c) (.str c) μ = some (.bl false)
  fl : ∀ μ, f__law_fields [e] μ = .ok (.tup ts) μ
  du : ∀ μ, f__law_due [.str c, x, y] μ = .ok (.tup ts) μ
  ki : ∀ μ, f__law_kinds [e] μ = .ok (kdB k) μ
  kn : ∀ μ, vNe (kdB k) (kdB k) μ = some (.bl false)
  ba : ∀ μ, f__law_bases [e] μ = .ok (bdB k) μ
  bn : ∀ μ, vNe (bdB k) (bdB k) μ = some (.bl false)
theorem codes_ok {μ : Sto} : f__law_codes [] μ = .ok (.lst codL) μ := by
  unfold f__law_codes; rw [runF0]
  exact fin_of (n := 0) (np := 0) (md := .fz) (by rfl)
theorem place_ok {x y : DV} {μ : Sto} : f__law_by_place [x, y] μ = .ok (.lst (entL x y)) μ := by
  unfold f__law_by_place; rw [runF2]
  exact fin_of (n := 0) (np := 0) (md := .fz) (by rfl)
theorem name_ok {x y : DV} {μ : Sto} : f__law_by_name [x, y] μ = .ok (.lst (entL x y)) μ := by
  unfold f__law_by_name; rw [runF2]
  exact fin_of (n := 0) (np := 0) (md := .fz) (by rfl)
theorem inS {a : Str} {l : List Str} {b : Bool} {μ : Sto} (h : (PyData.strOk a && (l.all PyData.strOk && decide (decide (a ∈ l) = b))) = true) : vIn (.str a) (.tup (l.map .str)) μ = some (.bl b) := by
  simp only [Bool.and_eq_true] at h
  rw [(vIn_tS (μ := μ) h.1 (List.all_eq_true.mp h.2.1)).1, of_decide_eq_true h.2.2]
theorem eqS {a c : Str} {b : Bool} {μ : Sto} (h : (PyData.strOk a && (PyData.strOk c && decide (decide (a = c) = b))) = true) : vEq (.str a) (.str c) μ = some (.bl b) := by
  simp only [Bool.and_eq_true] at h
  rw [vEq_s h.1 h.2.1, of_decide_eq_true h.2.2]
theorem neS {a : Str} {μ : Sto} (h : PyData.strOk a = true) : vNe (.str a) (.str a) μ = some (.bl false) := by
  have e := vEq_s (μ := μ) h h
  unfold vEq at e
  unfold vNe
  cases q : eqD (.str a) (.str a) μ with
  | none => rw [q] at e; cases e
  | some b =>
    rw [q] at e
    simp at e
    subst e
    rfl
theorem mkT5 {a b c d e : DV} {μ : Sto} : mkT [a, b, c, d, e] μ = .ok (.tup [a, b, c, d, e]) μ := mkT_small (by show 5 ≤ _; decide)
theorem mkT7 {a b c d e f g : DV} {μ : Sto} : mkT [a, b, c, d, e, f, g] μ = .ok (.tup [a, b, c, d, e, f, g]) μ := mkT_small (by show 7 ≤ _; decide)
theorem mkT8 {a b c d e f g h : DV} {μ : Sto} : mkT [a, b, c, d, e, f, g, h] μ = .ok (.tup [a, b, c, d, e, f, g, h]) μ := mkT_small (by show 8 ≤ _; decide)
theorem fl_0 {x y : DV} (μ : Sto) : f__law_fields [.exv 0 ["code", "value"] [.str "InvalidName", x]] μ = .ok (.tup [x]) μ := by
  have c : vXv csL "code" (.exv 0 ["code", "value"] [.str "InvalidName", x]) μ = some (.str "InvalidName") := by rfl
  have i0 : vIn (.str "InvalidName") (.tup [.str "InvalidName", .str "InvalidNumber", .str "InvalidDirection"]) μ = some (.bl true) := inS (l := ["InvalidName", "InvalidNumber", "InvalidDirection"]) (by decide +kernel)
  have x0 : vXv csL "value" (.exv 0 ["code", "value"] [.str "InvalidName", x]) μ = some x := by rfl
  unfold f__law_fields; rw [runF1]; unfold b__law_fields
  generalize (DV.exv 0 ["code", "value"] [.str "InvalidName", x]) = e at *
  simp [mkT8, c, i0, x0]
theorem du_0 {x y : DV} (μ : Sto) : f__law_due [.str "InvalidName", x, y] μ = .ok (.tup [x]) μ := by
  have i0 : vIn (.str "InvalidName") (.tup [.str "PartsOverlap", .str "PiecesOverlap", .str "InvalidText", .str "Barred", .str "Refused"]) μ = some (.bl false) := inS (l := ["PartsOverlap", "PiecesOverlap", "InvalidText", "Barred", "Refused"]) (by decide +kernel)
  have i1 : vIn (.str "InvalidName") (.tup [.str "OutOfBounds", .str "OtherThing", .str "InvalidStep", .str "NoParting", .str "NoJoining", .str "InvalidPrices", .str "NothingLeft"]) μ = some (.bl false) := inS (l := ["OutOfBounds", "OtherThing", "InvalidStep", "NoParting", "NoJoining", "InvalidPrices", "NothingLeft"]) (by decide +kernel)
  unfold f__law_due; rw [runF3]; unfold b__law_due
  simp [mkT5, mkT7, i0, i1]
theorem ki_0 {x y : DV} (μ : Sto) : f__law_kinds [.exv 0 ["code", "value"] [.str "InvalidName", x]] μ = .ok (kdB 0) μ := by
  unfold f__law_kinds; rw [runF1]
  exact fin_of (n := 0) (np := 0) (md := .fz) (by rfl)
theorem ba_0 {x y : DV} (μ : Sto) : f__law_bases [.exv 0 ["code", "value"] [.str "InvalidName", x]] μ = .ok (bdB 0) μ := by
  unfold f__law_bases; rw [runF1]
  exact fin_of (n := 0) (np := 0) (md := .fz) (by rfl)
theorem tn_0 {x y : DV} : Tn x y 0 (.exv 0 ["code", "value"] [.str "InvalidName", x]) "InvalidName" [x] := ⟨fun _ => rfl, fun _ => rfl, fun _ => rfl, fun _ => neS (by decide +kernel), fl_0 (x := x) (y := y), du_0, ki_0 (x := x) (y := y), fun _ => rfl, ba_0 (x := x) (y := y), fun _ => rfl⟩
theorem fl_1 {x y : DV} (μ : Sto) : f__law_fields [.exv 1 ["code", "value"] [.str "InvalidNumber", x]] μ = .ok (.tup [x]) μ := by
  have c : vXv csL "code" (.exv 1 ["code", "value"] [.str "InvalidNumber", x]) μ = some (.str "InvalidNumber") := by rfl
  have i0 : vIn (.str "InvalidNumber") (.tup [.str "InvalidName", .str "InvalidNumber", .str "InvalidDirection"]) μ = some (.bl true) := inS (l := ["InvalidName", "InvalidNumber", "InvalidDirection"]) (by decide +kernel)
  have x0 : vXv csL "value" (.exv 1 ["code", "value"] [.str "InvalidNumber", x]) μ = some x := by rfl
  unfold f__law_fields; rw [runF1]; unfold b__law_fields
  generalize (DV.exv 1 ["code", "value"] [.str "InvalidNumber", x]) = e at *
  simp [mkT8, c, i0, x0]
theorem du_1 {x y : DV} (μ : Sto) : f__law_due [.str "InvalidNumber", x, y] μ = .ok (.tup [x]) μ := by
  have i0 : vIn (.str "InvalidNumber") (.tup [.str "PartsOverlap", .str "PiecesOverlap", .str "InvalidText", .str "Barred", .str "Refused"]) μ = some (.bl false) := inS (l := ["PartsOverlap", "PiecesOverlap", "InvalidText", "Barred", "Refused"]) (by decide +kernel)
  have i1 : vIn (.str "InvalidNumber") (.tup [.str "OutOfBounds", .str "OtherThing", .str "InvalidStep", .str "NoParting", .str "NoJoining", .str "InvalidPrices", .str "NothingLeft"]) μ = some (.bl false) := inS (l := ["OutOfBounds", "OtherThing", "InvalidStep", "NoParting", "NoJoining", "InvalidPrices", "NothingLeft"]) (by decide +kernel)
  unfold f__law_due; rw [runF3]; unfold b__law_due
  simp [mkT5, mkT7, i0, i1]
theorem ki_1 {x y : DV} (μ : Sto) : f__law_kinds [.exv 1 ["code", "value"] [.str "InvalidNumber", x]] μ = .ok (kdB 1) μ := by
  unfold f__law_kinds; rw [runF1]
  exact fin_of (n := 0) (np := 0) (md := .fz) (by rfl)
theorem ba_1 {x y : DV} (μ : Sto) : f__law_bases [.exv 1 ["code", "value"] [.str "InvalidNumber", x]] μ = .ok (bdB 1) μ := by
  unfold f__law_bases; rw [runF1]
  exact fin_of (n := 0) (np := 0) (md := .fz) (by rfl)
theorem tn_1 {x y : DV} : Tn x y 1 (.exv 1 ["code", "value"] [.str "InvalidNumber", x]) "InvalidNumber" [x] := ⟨fun _ => rfl, fun _ => rfl, fun _ => rfl, fun _ => neS (by decide +kernel), fl_1 (x := x) (y := y), du_1, ki_1 (x := x) (y := y), fun _ => rfl, ba_1 (x := x) (y := y), fun _ => rfl⟩
theorem fl_2 {x y : DV} (μ : Sto) : f__law_fields [.exv 2 ["code", "value"] [.str "InvalidDirection", x]] μ = .ok (.tup [x]) μ := by
  have c : vXv csL "code" (.exv 2 ["code", "value"] [.str "InvalidDirection", x]) μ = some (.str "InvalidDirection") := by rfl
  have i0 : vIn (.str "InvalidDirection") (.tup [.str "InvalidName", .str "InvalidNumber", .str "InvalidDirection"]) μ = some (.bl true) := inS (l := ["InvalidName", "InvalidNumber", "InvalidDirection"]) (by decide +kernel)
  have x0 : vXv csL "value" (.exv 2 ["code", "value"] [.str "InvalidDirection", x]) μ = some x := by rfl
  unfold f__law_fields; rw [runF1]; unfold b__law_fields
  generalize (DV.exv 2 ["code", "value"] [.str "InvalidDirection", x]) = e at *
  simp [mkT8, c, i0, x0]
theorem du_2 {x y : DV} (μ : Sto) : f__law_due [.str "InvalidDirection", x, y] μ = .ok (.tup [x]) μ := by
  have i0 : vIn (.str "InvalidDirection") (.tup [.str "PartsOverlap", .str "PiecesOverlap", .str "InvalidText", .str "Barred", .str "Refused"]) μ = some (.bl false) := inS (l := ["PartsOverlap", "PiecesOverlap", "InvalidText", "Barred", "Refused"]) (by decide +kernel)
  have i1 : vIn (.str "InvalidDirection") (.tup [.str "OutOfBounds", .str "OtherThing", .str "InvalidStep", .str "NoParting", .str "NoJoining", .str "InvalidPrices", .str "NothingLeft"]) μ = some (.bl false) := inS (l := ["OutOfBounds", "OtherThing", "InvalidStep", "NoParting", "NoJoining", "InvalidPrices", "NothingLeft"]) (by decide +kernel)
  unfold f__law_due; rw [runF3]; unfold b__law_due
  simp [mkT5, mkT7, i0, i1]
theorem ki_2 {x y : DV} (μ : Sto) : f__law_kinds [.exv 2 ["code", "value"] [.str "InvalidDirection", x]] μ = .ok (kdB 2) μ := by
  unfold f__law_kinds; rw [runF1]
  exact fin_of (n := 0) (np := 0) (md := .fz) (by rfl)
theorem ba_2 {x y : DV} (μ : Sto) : f__law_bases [.exv 2 ["code", "value"] [.str "InvalidDirection", x]] μ = .ok (bdB 2) μ := by
  unfold f__law_bases; rw [runF1]
  exact fin_of (n := 0) (np := 0) (md := .fz) (by rfl)
theorem tn_2 {x y : DV} : Tn x y 2 (.exv 2 ["code", "value"] [.str "InvalidDirection", x]) "InvalidDirection" [x] := ⟨fun _ => rfl, fun _ => rfl, fun _ => rfl, fun _ => neS (by decide +kernel), fl_2 (x := x) (y := y), du_2, ki_2 (x := x) (y := y), fun _ => rfl, ba_2 (x := x) (y := y), fun _ => rfl⟩
theorem fl_3 {x y : DV} (μ : Sto) : f__law_fields [.exv 3 ["code", "at"] [.str "InvalidPart", x]] μ = .ok (.tup [x]) μ := by
  have c : vXv csL "code" (.exv 3 ["code", "at"] [.str "InvalidPart", x]) μ = some (.str "InvalidPart") := by rfl
  have i0 : vIn (.str "InvalidPart") (.tup [.str "InvalidName", .str "InvalidNumber", .str "InvalidDirection"]) μ = some (.bl false) := inS (l := ["InvalidName", "InvalidNumber", "InvalidDirection"]) (by decide +kernel)
  have i1 : vIn (.str "InvalidPart") (.tup [.str "InvalidPart", .str "Loose", .str "InvalidWay", .str "InvalidPiece", .str "InvalidPeg", .str "InvalidLot", .str "InvalidRow", .str "InvalidDeed"]) μ = some (.bl true) := inS (l := ["InvalidPart", "Loose", "InvalidWay", "InvalidPiece", "InvalidPeg", "InvalidLot", "InvalidRow", "InvalidDeed"]) (by decide +kernel)
  have x0 : vXv csL "at" (.exv 3 ["code", "at"] [.str "InvalidPart", x]) μ = some x := by rfl
  unfold f__law_fields; rw [runF1]; unfold b__law_fields
  generalize (DV.exv 3 ["code", "at"] [.str "InvalidPart", x]) = e at *
  simp [mkT8, c, i0, i1, x0]
theorem du_3 {x y : DV} (μ : Sto) : f__law_due [.str "InvalidPart", x, y] μ = .ok (.tup [x]) μ := by
  have i0 : vIn (.str "InvalidPart") (.tup [.str "PartsOverlap", .str "PiecesOverlap", .str "InvalidText", .str "Barred", .str "Refused"]) μ = some (.bl false) := inS (l := ["PartsOverlap", "PiecesOverlap", "InvalidText", "Barred", "Refused"]) (by decide +kernel)
  have i1 : vIn (.str "InvalidPart") (.tup [.str "OutOfBounds", .str "OtherThing", .str "InvalidStep", .str "NoParting", .str "NoJoining", .str "InvalidPrices", .str "NothingLeft"]) μ = some (.bl false) := inS (l := ["OutOfBounds", "OtherThing", "InvalidStep", "NoParting", "NoJoining", "InvalidPrices", "NothingLeft"]) (by decide +kernel)
  unfold f__law_due; rw [runF3]; unfold b__law_due
  simp [mkT5, mkT7, i0, i1]
theorem ki_3 {x y : DV} (μ : Sto) : f__law_kinds [.exv 3 ["code", "at"] [.str "InvalidPart", x]] μ = .ok (kdB 3) μ := by
  unfold f__law_kinds; rw [runF1]
  exact fin_of (n := 0) (np := 0) (md := .fz) (by rfl)
theorem ba_3 {x y : DV} (μ : Sto) : f__law_bases [.exv 3 ["code", "at"] [.str "InvalidPart", x]] μ = .ok (bdB 3) μ := by
  unfold f__law_bases; rw [runF1]
  exact fin_of (n := 0) (np := 0) (md := .fz) (by rfl)
theorem tn_3 {x y : DV} : Tn x y 3 (.exv 3 ["code", "at"] [.str "InvalidPart", x]) "InvalidPart" [x] := ⟨fun _ => rfl, fun _ => rfl, fun _ => rfl, fun _ => neS (by decide +kernel), fl_3 (x := x) (y := y), du_3, ki_3 (x := x) (y := y), fun _ => rfl, ba_3 (x := x) (y := y), fun _ => rfl⟩
theorem fl_4 {x y : DV} (μ : Sto) : f__law_fields [.exv 4 ["code", "other", "one"] [.str "PartsOverlap", y, x]] μ = .ok (.tup [x, y]) μ := by
  have c : vXv csL "code" (.exv 4 ["code", "other", "one"] [.str "PartsOverlap", y, x]) μ = some (.str "PartsOverlap") := by rfl
  have i0 : vIn (.str "PartsOverlap") (.tup [.str "InvalidName", .str "InvalidNumber", .str "InvalidDirection"]) μ = some (.bl false) := inS (l := ["InvalidName", "InvalidNumber", "InvalidDirection"]) (by decide +kernel)
  have i1 : vIn (.str "PartsOverlap") (.tup [.str "InvalidPart", .str "Loose", .str "InvalidWay", .str "InvalidPiece", .str "InvalidPeg", .str "InvalidLot", .str "InvalidRow", .str "InvalidDeed"]) μ = some (.bl false) := inS (l := ["InvalidPart", "Loose", "InvalidWay", "InvalidPiece", "InvalidPeg", "InvalidLot", "InvalidRow", "InvalidDeed"]) (by decide +kernel)
  have i2 : vIn (.str "PartsOverlap") (.tup [.str "PartsOverlap", .str "PiecesOverlap", .str "Barred"]) μ = some (.bl true) := inS (l := ["PartsOverlap", "PiecesOverlap", "Barred"]) (by decide +kernel)
  have x0 : vXv csL "one" (.exv 4 ["code", "other", "one"] [.str "PartsOverlap", y, x]) μ = some x := by rfl
  have x1 : vXv csL "other" (.exv 4 ["code", "other", "one"] [.str "PartsOverlap", y, x]) μ = some y := by rfl
  unfold f__law_fields; rw [runF1]; unfold b__law_fields
  generalize (DV.exv 4 ["code", "other", "one"] [.str "PartsOverlap", y, x]) = e at *
  simp [mkT8, c, i0, i1, i2, x0, x1]
theorem du_4 {x y : DV} (μ : Sto) : f__law_due [.str "PartsOverlap", x, y] μ = .ok (.tup [x, y]) μ := by
  have i0 : vIn (.str "PartsOverlap") (.tup [.str "PartsOverlap", .str "PiecesOverlap", .str "InvalidText", .str "Barred", .str "Refused"]) μ = some (.bl true) := inS (l := ["PartsOverlap", "PiecesOverlap", "InvalidText", "Barred", "Refused"]) (by decide +kernel)
  unfold f__law_due; rw [runF3]; unfold b__law_due
  simp [mkT5, mkT7, i0]
theorem ki_4 {x y : DV} (μ : Sto) : f__law_kinds [.exv 4 ["code", "other", "one"] [.str "PartsOverlap", y, x]] μ = .ok (kdB 4) μ := by
  unfold f__law_kinds; rw [runF1]
  exact fin_of (n := 0) (np := 0) (md := .fz) (by rfl)
theorem ba_4 {x y : DV} (μ : Sto) : f__law_bases [.exv 4 ["code", "other", "one"] [.str "PartsOverlap", y, x]] μ = .ok (bdB 4) μ := by
  unfold f__law_bases; rw [runF1]
  exact fin_of (n := 0) (np := 0) (md := .fz) (by rfl)
theorem tn_4 {x y : DV} : Tn x y 4 (.exv 4 ["code", "other", "one"] [.str "PartsOverlap", y, x]) "PartsOverlap" [x, y] := ⟨fun _ => rfl, fun _ => rfl, fun _ => rfl, fun _ => neS (by decide +kernel), fl_4 (x := x) (y := y), du_4, ki_4 (x := x) (y := y), fun _ => rfl, ba_4 (x := x) (y := y), fun _ => rfl⟩
theorem fl_5 {x y : DV} (μ : Sto) : f__law_fields [.exv 5 ["code", "at"] [.str "Loose", x]] μ = .ok (.tup [x]) μ := by
  have c : vXv csL "code" (.exv 5 ["code", "at"] [.str "Loose", x]) μ = some (.str "Loose") := by rfl
  have i0 : vIn (.str "Loose") (.tup [.str "InvalidName", .str "InvalidNumber", .str "InvalidDirection"]) μ = some (.bl false) := inS (l := ["InvalidName", "InvalidNumber", "InvalidDirection"]) (by decide +kernel)
  have i1 : vIn (.str "Loose") (.tup [.str "InvalidPart", .str "Loose", .str "InvalidWay", .str "InvalidPiece", .str "InvalidPeg", .str "InvalidLot", .str "InvalidRow", .str "InvalidDeed"]) μ = some (.bl true) := inS (l := ["InvalidPart", "Loose", "InvalidWay", "InvalidPiece", "InvalidPeg", "InvalidLot", "InvalidRow", "InvalidDeed"]) (by decide +kernel)
  have x0 : vXv csL "at" (.exv 5 ["code", "at"] [.str "Loose", x]) μ = some x := by rfl
  unfold f__law_fields; rw [runF1]; unfold b__law_fields
  generalize (DV.exv 5 ["code", "at"] [.str "Loose", x]) = e at *
  simp [mkT8, c, i0, i1, x0]
theorem du_5 {x y : DV} (μ : Sto) : f__law_due [.str "Loose", x, y] μ = .ok (.tup [x]) μ := by
  have i0 : vIn (.str "Loose") (.tup [.str "PartsOverlap", .str "PiecesOverlap", .str "InvalidText", .str "Barred", .str "Refused"]) μ = some (.bl false) := inS (l := ["PartsOverlap", "PiecesOverlap", "InvalidText", "Barred", "Refused"]) (by decide +kernel)
  have i1 : vIn (.str "Loose") (.tup [.str "OutOfBounds", .str "OtherThing", .str "InvalidStep", .str "NoParting", .str "NoJoining", .str "InvalidPrices", .str "NothingLeft"]) μ = some (.bl false) := inS (l := ["OutOfBounds", "OtherThing", "InvalidStep", "NoParting", "NoJoining", "InvalidPrices", "NothingLeft"]) (by decide +kernel)
  unfold f__law_due; rw [runF3]; unfold b__law_due
  simp [mkT5, mkT7, i0, i1]
theorem ki_5 {x y : DV} (μ : Sto) : f__law_kinds [.exv 5 ["code", "at"] [.str "Loose", x]] μ = .ok (kdB 5) μ := by
  unfold f__law_kinds; rw [runF1]
  exact fin_of (n := 0) (np := 0) (md := .fz) (by rfl)
theorem ba_5 {x y : DV} (μ : Sto) : f__law_bases [.exv 5 ["code", "at"] [.str "Loose", x]] μ = .ok (bdB 5) μ := by
  unfold f__law_bases; rw [runF1]
  exact fin_of (n := 0) (np := 0) (md := .fz) (by rfl)
theorem tn_5 {x y : DV} : Tn x y 5 (.exv 5 ["code", "at"] [.str "Loose", x]) "Loose" [x] := ⟨fun _ => rfl, fun _ => rfl, fun _ => rfl, fun _ => neS (by decide +kernel), fl_5 (x := x) (y := y), du_5, ki_5 (x := x) (y := y), fun _ => rfl, ba_5 (x := x) (y := y), fun _ => rfl⟩
theorem fl_6 {x y : DV} (μ : Sto) : f__law_fields [.exv 6 ["code", "at"] [.str "InvalidWay", x]] μ = .ok (.tup [x]) μ := by
  have c : vXv csL "code" (.exv 6 ["code", "at"] [.str "InvalidWay", x]) μ = some (.str "InvalidWay") := by rfl
  have i0 : vIn (.str "InvalidWay") (.tup [.str "InvalidName", .str "InvalidNumber", .str "InvalidDirection"]) μ = some (.bl false) := inS (l := ["InvalidName", "InvalidNumber", "InvalidDirection"]) (by decide +kernel)
  have i1 : vIn (.str "InvalidWay") (.tup [.str "InvalidPart", .str "Loose", .str "InvalidWay", .str "InvalidPiece", .str "InvalidPeg", .str "InvalidLot", .str "InvalidRow", .str "InvalidDeed"]) μ = some (.bl true) := inS (l := ["InvalidPart", "Loose", "InvalidWay", "InvalidPiece", "InvalidPeg", "InvalidLot", "InvalidRow", "InvalidDeed"]) (by decide +kernel)
  have x0 : vXv csL "at" (.exv 6 ["code", "at"] [.str "InvalidWay", x]) μ = some x := by rfl
  unfold f__law_fields; rw [runF1]; unfold b__law_fields
  generalize (DV.exv 6 ["code", "at"] [.str "InvalidWay", x]) = e at *
  simp [mkT8, c, i0, i1, x0]
theorem du_6 {x y : DV} (μ : Sto) : f__law_due [.str "InvalidWay", x, y] μ = .ok (.tup [x]) μ := by
  have i0 : vIn (.str "InvalidWay") (.tup [.str "PartsOverlap", .str "PiecesOverlap", .str "InvalidText", .str "Barred", .str "Refused"]) μ = some (.bl false) := inS (l := ["PartsOverlap", "PiecesOverlap", "InvalidText", "Barred", "Refused"]) (by decide +kernel)
  have i1 : vIn (.str "InvalidWay") (.tup [.str "OutOfBounds", .str "OtherThing", .str "InvalidStep", .str "NoParting", .str "NoJoining", .str "InvalidPrices", .str "NothingLeft"]) μ = some (.bl false) := inS (l := ["OutOfBounds", "OtherThing", "InvalidStep", "NoParting", "NoJoining", "InvalidPrices", "NothingLeft"]) (by decide +kernel)
  unfold f__law_due; rw [runF3]; unfold b__law_due
  simp [mkT5, mkT7, i0, i1]
theorem ki_6 {x y : DV} (μ : Sto) : f__law_kinds [.exv 6 ["code", "at"] [.str "InvalidWay", x]] μ = .ok (kdB 6) μ := by
  unfold f__law_kinds; rw [runF1]
  exact fin_of (n := 0) (np := 0) (md := .fz) (by rfl)
theorem ba_6 {x y : DV} (μ : Sto) : f__law_bases [.exv 6 ["code", "at"] [.str "InvalidWay", x]] μ = .ok (bdB 6) μ := by
  unfold f__law_bases; rw [runF1]
  exact fin_of (n := 0) (np := 0) (md := .fz) (by rfl)
theorem tn_6 {x y : DV} : Tn x y 6 (.exv 6 ["code", "at"] [.str "InvalidWay", x]) "InvalidWay" [x] := ⟨fun _ => rfl, fun _ => rfl, fun _ => rfl, fun _ => neS (by decide +kernel), fl_6 (x := x) (y := y), du_6, ki_6 (x := x) (y := y), fun _ => rfl, ba_6 (x := x) (y := y), fun _ => rfl⟩
theorem fl_7 {x y : DV} (μ : Sto) : f__law_fields [.exv 7 ["code", "at"] [.str "InvalidPiece", x]] μ = .ok (.tup [x]) μ := by
  have c : vXv csL "code" (.exv 7 ["code", "at"] [.str "InvalidPiece", x]) μ = some (.str "InvalidPiece") := by rfl
  have i0 : vIn (.str "InvalidPiece") (.tup [.str "InvalidName", .str "InvalidNumber", .str "InvalidDirection"]) μ = some (.bl false) := inS (l := ["InvalidName", "InvalidNumber", "InvalidDirection"]) (by decide +kernel)
  have i1 : vIn (.str "InvalidPiece") (.tup [.str "InvalidPart", .str "Loose", .str "InvalidWay", .str "InvalidPiece", .str "InvalidPeg", .str "InvalidLot", .str "InvalidRow", .str "InvalidDeed"]) μ = some (.bl true) := inS (l := ["InvalidPart", "Loose", "InvalidWay", "InvalidPiece", "InvalidPeg", "InvalidLot", "InvalidRow", "InvalidDeed"]) (by decide +kernel)
  have x0 : vXv csL "at" (.exv 7 ["code", "at"] [.str "InvalidPiece", x]) μ = some x := by rfl
  unfold f__law_fields; rw [runF1]; unfold b__law_fields
  generalize (DV.exv 7 ["code", "at"] [.str "InvalidPiece", x]) = e at *
  simp [mkT8, c, i0, i1, x0]
theorem du_7 {x y : DV} (μ : Sto) : f__law_due [.str "InvalidPiece", x, y] μ = .ok (.tup [x]) μ := by
  have i0 : vIn (.str "InvalidPiece") (.tup [.str "PartsOverlap", .str "PiecesOverlap", .str "InvalidText", .str "Barred", .str "Refused"]) μ = some (.bl false) := inS (l := ["PartsOverlap", "PiecesOverlap", "InvalidText", "Barred", "Refused"]) (by decide +kernel)
  have i1 : vIn (.str "InvalidPiece") (.tup [.str "OutOfBounds", .str "OtherThing", .str "InvalidStep", .str "NoParting", .str "NoJoining", .str "InvalidPrices", .str "NothingLeft"]) μ = some (.bl false) := inS (l := ["OutOfBounds", "OtherThing", "InvalidStep", "NoParting", "NoJoining", "InvalidPrices", "NothingLeft"]) (by decide +kernel)
  unfold f__law_due; rw [runF3]; unfold b__law_due
  simp [mkT5, mkT7, i0, i1]
theorem ki_7 {x y : DV} (μ : Sto) : f__law_kinds [.exv 7 ["code", "at"] [.str "InvalidPiece", x]] μ = .ok (kdB 7) μ := by
  unfold f__law_kinds; rw [runF1]
  exact fin_of (n := 0) (np := 0) (md := .fz) (by rfl)
theorem ba_7 {x y : DV} (μ : Sto) : f__law_bases [.exv 7 ["code", "at"] [.str "InvalidPiece", x]] μ = .ok (bdB 7) μ := by
  unfold f__law_bases; rw [runF1]
  exact fin_of (n := 0) (np := 0) (md := .fz) (by rfl)
theorem tn_7 {x y : DV} : Tn x y 7 (.exv 7 ["code", "at"] [.str "InvalidPiece", x]) "InvalidPiece" [x] := ⟨fun _ => rfl, fun _ => rfl, fun _ => rfl, fun _ => neS (by decide +kernel), fl_7 (x := x) (y := y), du_7, ki_7 (x := x) (y := y), fun _ => rfl, ba_7 (x := x) (y := y), fun _ => rfl⟩
theorem fl_8 {x y : DV} (μ : Sto) : f__law_fields [.exv 8 ["code", "at"] [.str "InvalidPeg", x]] μ = .ok (.tup [x]) μ := by
  have c : vXv csL "code" (.exv 8 ["code", "at"] [.str "InvalidPeg", x]) μ = some (.str "InvalidPeg") := by rfl
  have i0 : vIn (.str "InvalidPeg") (.tup [.str "InvalidName", .str "InvalidNumber", .str "InvalidDirection"]) μ = some (.bl false) := inS (l := ["InvalidName", "InvalidNumber", "InvalidDirection"]) (by decide +kernel)
  have i1 : vIn (.str "InvalidPeg") (.tup [.str "InvalidPart", .str "Loose", .str "InvalidWay", .str "InvalidPiece", .str "InvalidPeg", .str "InvalidLot", .str "InvalidRow", .str "InvalidDeed"]) μ = some (.bl true) := inS (l := ["InvalidPart", "Loose", "InvalidWay", "InvalidPiece", "InvalidPeg", "InvalidLot", "InvalidRow", "InvalidDeed"]) (by decide +kernel)
  have x0 : vXv csL "at" (.exv 8 ["code", "at"] [.str "InvalidPeg", x]) μ = some x := by rfl
  unfold f__law_fields; rw [runF1]; unfold b__law_fields
  generalize (DV.exv 8 ["code", "at"] [.str "InvalidPeg", x]) = e at *
  simp [mkT8, c, i0, i1, x0]
theorem du_8 {x y : DV} (μ : Sto) : f__law_due [.str "InvalidPeg", x, y] μ = .ok (.tup [x]) μ := by
  have i0 : vIn (.str "InvalidPeg") (.tup [.str "PartsOverlap", .str "PiecesOverlap", .str "InvalidText", .str "Barred", .str "Refused"]) μ = some (.bl false) := inS (l := ["PartsOverlap", "PiecesOverlap", "InvalidText", "Barred", "Refused"]) (by decide +kernel)
  have i1 : vIn (.str "InvalidPeg") (.tup [.str "OutOfBounds", .str "OtherThing", .str "InvalidStep", .str "NoParting", .str "NoJoining", .str "InvalidPrices", .str "NothingLeft"]) μ = some (.bl false) := inS (l := ["OutOfBounds", "OtherThing", "InvalidStep", "NoParting", "NoJoining", "InvalidPrices", "NothingLeft"]) (by decide +kernel)
  unfold f__law_due; rw [runF3]; unfold b__law_due
  simp [mkT5, mkT7, i0, i1]
theorem ki_8 {x y : DV} (μ : Sto) : f__law_kinds [.exv 8 ["code", "at"] [.str "InvalidPeg", x]] μ = .ok (kdB 8) μ := by
  unfold f__law_kinds; rw [runF1]
  exact fin_of (n := 0) (np := 0) (md := .fz) (by rfl)
theorem ba_8 {x y : DV} (μ : Sto) : f__law_bases [.exv 8 ["code", "at"] [.str "InvalidPeg", x]] μ = .ok (bdB 8) μ := by
  unfold f__law_bases; rw [runF1]
  exact fin_of (n := 0) (np := 0) (md := .fz) (by rfl)
theorem tn_8 {x y : DV} : Tn x y 8 (.exv 8 ["code", "at"] [.str "InvalidPeg", x]) "InvalidPeg" [x] := ⟨fun _ => rfl, fun _ => rfl, fun _ => rfl, fun _ => neS (by decide +kernel), fl_8 (x := x) (y := y), du_8, ki_8 (x := x) (y := y), fun _ => rfl, ba_8 (x := x) (y := y), fun _ => rfl⟩
theorem fl_9 {x y : DV} (μ : Sto) : f__law_fields [.exv 9 ["code", "other", "one"] [.str "PiecesOverlap", y, x]] μ = .ok (.tup [x, y]) μ := by
  have c : vXv csL "code" (.exv 9 ["code", "other", "one"] [.str "PiecesOverlap", y, x]) μ = some (.str "PiecesOverlap") := by rfl
  have i0 : vIn (.str "PiecesOverlap") (.tup [.str "InvalidName", .str "InvalidNumber", .str "InvalidDirection"]) μ = some (.bl false) := inS (l := ["InvalidName", "InvalidNumber", "InvalidDirection"]) (by decide +kernel)
  have i1 : vIn (.str "PiecesOverlap") (.tup [.str "InvalidPart", .str "Loose", .str "InvalidWay", .str "InvalidPiece", .str "InvalidPeg", .str "InvalidLot", .str "InvalidRow", .str "InvalidDeed"]) μ = some (.bl false) := inS (l := ["InvalidPart", "Loose", "InvalidWay", "InvalidPiece", "InvalidPeg", "InvalidLot", "InvalidRow", "InvalidDeed"]) (by decide +kernel)
  have i2 : vIn (.str "PiecesOverlap") (.tup [.str "PartsOverlap", .str "PiecesOverlap", .str "Barred"]) μ = some (.bl true) := inS (l := ["PartsOverlap", "PiecesOverlap", "Barred"]) (by decide +kernel)
  have x0 : vXv csL "one" (.exv 9 ["code", "other", "one"] [.str "PiecesOverlap", y, x]) μ = some x := by rfl
  have x1 : vXv csL "other" (.exv 9 ["code", "other", "one"] [.str "PiecesOverlap", y, x]) μ = some y := by rfl
  unfold f__law_fields; rw [runF1]; unfold b__law_fields
  generalize (DV.exv 9 ["code", "other", "one"] [.str "PiecesOverlap", y, x]) = e at *
  simp [mkT8, c, i0, i1, i2, x0, x1]
theorem du_9 {x y : DV} (μ : Sto) : f__law_due [.str "PiecesOverlap", x, y] μ = .ok (.tup [x, y]) μ := by
  have i0 : vIn (.str "PiecesOverlap") (.tup [.str "PartsOverlap", .str "PiecesOverlap", .str "InvalidText", .str "Barred", .str "Refused"]) μ = some (.bl true) := inS (l := ["PartsOverlap", "PiecesOverlap", "InvalidText", "Barred", "Refused"]) (by decide +kernel)
  unfold f__law_due; rw [runF3]; unfold b__law_due
  simp [mkT5, mkT7, i0]
theorem ki_9 {x y : DV} (μ : Sto) : f__law_kinds [.exv 9 ["code", "other", "one"] [.str "PiecesOverlap", y, x]] μ = .ok (kdB 9) μ := by
  unfold f__law_kinds; rw [runF1]
  exact fin_of (n := 0) (np := 0) (md := .fz) (by rfl)
theorem ba_9 {x y : DV} (μ : Sto) : f__law_bases [.exv 9 ["code", "other", "one"] [.str "PiecesOverlap", y, x]] μ = .ok (bdB 9) μ := by
  unfold f__law_bases; rw [runF1]
  exact fin_of (n := 0) (np := 0) (md := .fz) (by rfl)
theorem tn_9 {x y : DV} : Tn x y 9 (.exv 9 ["code", "other", "one"] [.str "PiecesOverlap", y, x]) "PiecesOverlap" [x, y] := ⟨fun _ => rfl, fun _ => rfl, fun _ => rfl, fun _ => neS (by decide +kernel), fl_9 (x := x) (y := y), du_9, ki_9 (x := x) (y := y), fun _ => rfl, ba_9 (x := x) (y := y), fun _ => rfl⟩
theorem fl_10 {x y : DV} (μ : Sto) : f__law_fields [.exv 10 ["code", "name"] [.str "DuplicateName", x]] μ = .ok (.tup [x]) μ := by
  have c : vXv csL "code" (.exv 10 ["code", "name"] [.str "DuplicateName", x]) μ = some (.str "DuplicateName") := by rfl
  have i0 : vIn (.str "DuplicateName") (.tup [.str "InvalidName", .str "InvalidNumber", .str "InvalidDirection"]) μ = some (.bl false) := inS (l := ["InvalidName", "InvalidNumber", "InvalidDirection"]) (by decide +kernel)
  have i1 : vIn (.str "DuplicateName") (.tup [.str "InvalidPart", .str "Loose", .str "InvalidWay", .str "InvalidPiece", .str "InvalidPeg", .str "InvalidLot", .str "InvalidRow", .str "InvalidDeed"]) μ = some (.bl false) := inS (l := ["InvalidPart", "Loose", "InvalidWay", "InvalidPiece", "InvalidPeg", "InvalidLot", "InvalidRow", "InvalidDeed"]) (by decide +kernel)
  have i2 : vIn (.str "DuplicateName") (.tup [.str "PartsOverlap", .str "PiecesOverlap", .str "Barred"]) μ = some (.bl false) := inS (l := ["PartsOverlap", "PiecesOverlap", "Barred"]) (by decide +kernel)
  have i3 : vIn (.str "DuplicateName") (.tup [.str "DuplicateName", .str "NeverLeaves", .str "UnknownName"]) μ = some (.bl true) := inS (l := ["DuplicateName", "NeverLeaves", "UnknownName"]) (by decide +kernel)
  have x0 : vXv csL "name" (.exv 10 ["code", "name"] [.str "DuplicateName", x]) μ = some x := by rfl
  unfold f__law_fields; rw [runF1]; unfold b__law_fields
  generalize (DV.exv 10 ["code", "name"] [.str "DuplicateName", x]) = e at *
  simp [mkT8, c, i0, i1, i2, i3, x0]
theorem du_10 {x y : DV} (μ : Sto) : f__law_due [.str "DuplicateName", x, y] μ = .ok (.tup [x]) μ := by
  have i0 : vIn (.str "DuplicateName") (.tup [.str "PartsOverlap", .str "PiecesOverlap", .str "InvalidText", .str "Barred", .str "Refused"]) μ = some (.bl false) := inS (l := ["PartsOverlap", "PiecesOverlap", "InvalidText", "Barred", "Refused"]) (by decide +kernel)
  have i1 : vIn (.str "DuplicateName") (.tup [.str "OutOfBounds", .str "OtherThing", .str "InvalidStep", .str "NoParting", .str "NoJoining", .str "InvalidPrices", .str "NothingLeft"]) μ = some (.bl false) := inS (l := ["OutOfBounds", "OtherThing", "InvalidStep", "NoParting", "NoJoining", "InvalidPrices", "NothingLeft"]) (by decide +kernel)
  unfold f__law_due; rw [runF3]; unfold b__law_due
  simp [mkT5, mkT7, i0, i1]
theorem ki_10 {x y : DV} (μ : Sto) : f__law_kinds [.exv 10 ["code", "name"] [.str "DuplicateName", x]] μ = .ok (kdB 10) μ := by
  unfold f__law_kinds; rw [runF1]
  exact fin_of (n := 0) (np := 0) (md := .fz) (by rfl)
theorem ba_10 {x y : DV} (μ : Sto) : f__law_bases [.exv 10 ["code", "name"] [.str "DuplicateName", x]] μ = .ok (bdB 10) μ := by
  unfold f__law_bases; rw [runF1]
  exact fin_of (n := 0) (np := 0) (md := .fz) (by rfl)
theorem tn_10 {x y : DV} : Tn x y 10 (.exv 10 ["code", "name"] [.str "DuplicateName", x]) "DuplicateName" [x] := ⟨fun _ => rfl, fun _ => rfl, fun _ => rfl, fun _ => neS (by decide +kernel), fl_10 (x := x) (y := y), du_10, ki_10 (x := x) (y := y), fun _ => rfl, ba_10 (x := x) (y := y), fun _ => rfl⟩
theorem fl_11 {x y : DV} (μ : Sto) : f__law_fields [.exv 11 ["code", "most"] [.str "TooMany", x]] μ = .ok (.tup [x]) μ := by
  have c : vXv csL "code" (.exv 11 ["code", "most"] [.str "TooMany", x]) μ = some (.str "TooMany") := by rfl
  have i0 : vIn (.str "TooMany") (.tup [.str "InvalidName", .str "InvalidNumber", .str "InvalidDirection"]) μ = some (.bl false) := inS (l := ["InvalidName", "InvalidNumber", "InvalidDirection"]) (by decide +kernel)
  have i1 : vIn (.str "TooMany") (.tup [.str "InvalidPart", .str "Loose", .str "InvalidWay", .str "InvalidPiece", .str "InvalidPeg", .str "InvalidLot", .str "InvalidRow", .str "InvalidDeed"]) μ = some (.bl false) := inS (l := ["InvalidPart", "Loose", "InvalidWay", "InvalidPiece", "InvalidPeg", "InvalidLot", "InvalidRow", "InvalidDeed"]) (by decide +kernel)
  have i2 : vIn (.str "TooMany") (.tup [.str "PartsOverlap", .str "PiecesOverlap", .str "Barred"]) μ = some (.bl false) := inS (l := ["PartsOverlap", "PiecesOverlap", "Barred"]) (by decide +kernel)
  have i3 : vIn (.str "TooMany") (.tup [.str "DuplicateName", .str "NeverLeaves", .str "UnknownName"]) μ = some (.bl false) := inS (l := ["DuplicateName", "NeverLeaves", "UnknownName"]) (by decide +kernel)
  have i4 : vEq (.str "TooMany") (.str "TooMany") μ = some (.bl true) := eqS (by decide +kernel)
  have x0 : vXv csL "most" (.exv 11 ["code", "most"] [.str "TooMany", x]) μ = some x := by rfl
  unfold f__law_fields; rw [runF1]; unfold b__law_fields
  generalize (DV.exv 11 ["code", "most"] [.str "TooMany", x]) = e at *
  simp [mkT8, c, i0, i1, i2, i3, i4, x0]
theorem du_11 {x y : DV} (μ : Sto) : f__law_due [.str "TooMany", x, y] μ = .ok (.tup [x]) μ := by
  have i0 : vIn (.str "TooMany") (.tup [.str "PartsOverlap", .str "PiecesOverlap", .str "InvalidText", .str "Barred", .str "Refused"]) μ = some (.bl false) := inS (l := ["PartsOverlap", "PiecesOverlap", "InvalidText", "Barred", "Refused"]) (by decide +kernel)
  have i1 : vIn (.str "TooMany") (.tup [.str "OutOfBounds", .str "OtherThing", .str "InvalidStep", .str "NoParting", .str "NoJoining", .str "InvalidPrices", .str "NothingLeft"]) μ = some (.bl false) := inS (l := ["OutOfBounds", "OtherThing", "InvalidStep", "NoParting", "NoJoining", "InvalidPrices", "NothingLeft"]) (by decide +kernel)
  unfold f__law_due; rw [runF3]; unfold b__law_due
  simp [mkT5, mkT7, i0, i1]
theorem ki_11 {x y : DV} (μ : Sto) : f__law_kinds [.exv 11 ["code", "most"] [.str "TooMany", x]] μ = .ok (kdB 11) μ := by
  unfold f__law_kinds; rw [runF1]
  exact fin_of (n := 0) (np := 0) (md := .fz) (by rfl)
theorem ba_11 {x y : DV} (μ : Sto) : f__law_bases [.exv 11 ["code", "most"] [.str "TooMany", x]] μ = .ok (bdB 11) μ := by
  unfold f__law_bases; rw [runF1]
  exact fin_of (n := 0) (np := 0) (md := .fz) (by rfl)
theorem tn_11 {x y : DV} : Tn x y 11 (.exv 11 ["code", "most"] [.str "TooMany", x]) "TooMany" [x] := ⟨fun _ => rfl, fun _ => rfl, fun _ => rfl, fun _ => neS (by decide +kernel), fl_11 (x := x) (y := y), du_11, ki_11 (x := x) (y := y), fun _ => rfl, ba_11 (x := x) (y := y), fun _ => rfl⟩
theorem fl_12 {x y : DV} (μ : Sto) : f__law_fields [.exv 12 ["code"] [.str "OutOfBounds"]] μ = .ok (.tup []) μ := by
  have c : vXv csL "code" (.exv 12 ["code"] [.str "OutOfBounds"]) μ = some (.str "OutOfBounds") := by rfl
  have i0 : vIn (.str "OutOfBounds") (.tup [.str "InvalidName", .str "InvalidNumber", .str "InvalidDirection"]) μ = some (.bl false) := inS (l := ["InvalidName", "InvalidNumber", "InvalidDirection"]) (by decide +kernel)
  have i1 : vIn (.str "OutOfBounds") (.tup [.str "InvalidPart", .str "Loose", .str "InvalidWay", .str "InvalidPiece", .str "InvalidPeg", .str "InvalidLot", .str "InvalidRow", .str "InvalidDeed"]) μ = some (.bl false) := inS (l := ["InvalidPart", "Loose", "InvalidWay", "InvalidPiece", "InvalidPeg", "InvalidLot", "InvalidRow", "InvalidDeed"]) (by decide +kernel)
  have i2 : vIn (.str "OutOfBounds") (.tup [.str "PartsOverlap", .str "PiecesOverlap", .str "Barred"]) μ = some (.bl false) := inS (l := ["PartsOverlap", "PiecesOverlap", "Barred"]) (by decide +kernel)
  have i3 : vIn (.str "OutOfBounds") (.tup [.str "DuplicateName", .str "NeverLeaves", .str "UnknownName"]) μ = some (.bl false) := inS (l := ["DuplicateName", "NeverLeaves", "UnknownName"]) (by decide +kernel)
  have i4 : vEq (.str "OutOfBounds") (.str "TooMany") μ = some (.bl false) := eqS (by decide +kernel)
  have i5 : vIn (.str "OutOfBounds") (.tup [.str "InvalidText", .str "Refused"]) μ = some (.bl false) := inS (l := ["InvalidText", "Refused"]) (by decide +kernel)
  have i6 : vIn (.str "OutOfBounds") (.tup [.str "Pegged", .str "NotFast", .str "Held"]) μ = some (.bl false) := inS (l := ["Pegged", "NotFast", "Held"]) (by decide +kernel)
  have i7 : vEq (.str "OutOfBounds") (.str "NotStuck") μ = some (.bl false) := eqS (by decide +kernel)
  unfold f__law_fields; rw [runF1]; unfold b__law_fields
  generalize (DV.exv 12 ["code"] [.str "OutOfBounds"]) = e at *
  simp [mkT8, c, i0, i1, i2, i3, i4, i5, i6, i7]
theorem du_12 {x y : DV} (μ : Sto) : f__law_due [.str "OutOfBounds", x, y] μ = .ok (.tup []) μ := by
  have i0 : vIn (.str "OutOfBounds") (.tup [.str "PartsOverlap", .str "PiecesOverlap", .str "InvalidText", .str "Barred", .str "Refused"]) μ = some (.bl false) := inS (l := ["PartsOverlap", "PiecesOverlap", "InvalidText", "Barred", "Refused"]) (by decide +kernel)
  have i1 : vIn (.str "OutOfBounds") (.tup [.str "OutOfBounds", .str "OtherThing", .str "InvalidStep", .str "NoParting", .str "NoJoining", .str "InvalidPrices", .str "NothingLeft"]) μ = some (.bl true) := inS (l := ["OutOfBounds", "OtherThing", "InvalidStep", "NoParting", "NoJoining", "InvalidPrices", "NothingLeft"]) (by decide +kernel)
  unfold f__law_due; rw [runF3]; unfold b__law_due
  simp [mkT5, mkT7, i0, i1]
theorem ki_12 {x y : DV} (μ : Sto) : f__law_kinds [.exv 12 ["code"] [.str "OutOfBounds"]] μ = .ok (kdB 12) μ := by
  unfold f__law_kinds; rw [runF1]
  exact fin_of (n := 0) (np := 0) (md := .fz) (by rfl)
theorem ba_12 {x y : DV} (μ : Sto) : f__law_bases [.exv 12 ["code"] [.str "OutOfBounds"]] μ = .ok (bdB 12) μ := by
  unfold f__law_bases; rw [runF1]
  exact fin_of (n := 0) (np := 0) (md := .fz) (by rfl)
theorem tn_12 {x y : DV} : Tn x y 12 (.exv 12 ["code"] [.str "OutOfBounds"]) "OutOfBounds" [] := ⟨fun _ => rfl, fun _ => rfl, fun _ => rfl, fun _ => neS (by decide +kernel), fl_12 (x := x) (y := y), du_12, ki_12 (x := x) (y := y), fun _ => rfl, ba_12 (x := x) (y := y), fun _ => rfl⟩
theorem fl_13 {x y : DV} (μ : Sto) : f__law_fields [.exv 13 ["code", "why", "line"] [.str "InvalidText", y, x]] μ = .ok (.tup [x, y]) μ := by
  have c : vXv csL "code" (.exv 13 ["code", "why", "line"] [.str "InvalidText", y, x]) μ = some (.str "InvalidText") := by rfl
  have i0 : vIn (.str "InvalidText") (.tup [.str "InvalidName", .str "InvalidNumber", .str "InvalidDirection"]) μ = some (.bl false) := inS (l := ["InvalidName", "InvalidNumber", "InvalidDirection"]) (by decide +kernel)
  have i1 : vIn (.str "InvalidText") (.tup [.str "InvalidPart", .str "Loose", .str "InvalidWay", .str "InvalidPiece", .str "InvalidPeg", .str "InvalidLot", .str "InvalidRow", .str "InvalidDeed"]) μ = some (.bl false) := inS (l := ["InvalidPart", "Loose", "InvalidWay", "InvalidPiece", "InvalidPeg", "InvalidLot", "InvalidRow", "InvalidDeed"]) (by decide +kernel)
  have i2 : vIn (.str "InvalidText") (.tup [.str "PartsOverlap", .str "PiecesOverlap", .str "Barred"]) μ = some (.bl false) := inS (l := ["PartsOverlap", "PiecesOverlap", "Barred"]) (by decide +kernel)
  have i3 : vIn (.str "InvalidText") (.tup [.str "DuplicateName", .str "NeverLeaves", .str "UnknownName"]) μ = some (.bl false) := inS (l := ["DuplicateName", "NeverLeaves", "UnknownName"]) (by decide +kernel)
  have i4 : vEq (.str "InvalidText") (.str "TooMany") μ = some (.bl false) := eqS (by decide +kernel)
  have i5 : vIn (.str "InvalidText") (.tup [.str "InvalidText", .str "Refused"]) μ = some (.bl true) := inS (l := ["InvalidText", "Refused"]) (by decide +kernel)
  have x0 : vXv csL "line" (.exv 13 ["code", "why", "line"] [.str "InvalidText", y, x]) μ = some x := by rfl
  have x1 : vXv csL "why" (.exv 13 ["code", "why", "line"] [.str "InvalidText", y, x]) μ = some y := by rfl
  unfold f__law_fields; rw [runF1]; unfold b__law_fields
  generalize (DV.exv 13 ["code", "why", "line"] [.str "InvalidText", y, x]) = e at *
  simp [mkT8, c, i0, i1, i2, i3, i4, i5, x0, x1]
theorem du_13 {x y : DV} (μ : Sto) : f__law_due [.str "InvalidText", x, y] μ = .ok (.tup [x, y]) μ := by
  have i0 : vIn (.str "InvalidText") (.tup [.str "PartsOverlap", .str "PiecesOverlap", .str "InvalidText", .str "Barred", .str "Refused"]) μ = some (.bl true) := inS (l := ["PartsOverlap", "PiecesOverlap", "InvalidText", "Barred", "Refused"]) (by decide +kernel)
  unfold f__law_due; rw [runF3]; unfold b__law_due
  simp [mkT5, mkT7, i0]
theorem ki_13 {x y : DV} (μ : Sto) : f__law_kinds [.exv 13 ["code", "why", "line"] [.str "InvalidText", y, x]] μ = .ok (kdB 13) μ := by
  unfold f__law_kinds; rw [runF1]
  exact fin_of (n := 0) (np := 0) (md := .fz) (by rfl)
theorem ba_13 {x y : DV} (μ : Sto) : f__law_bases [.exv 13 ["code", "why", "line"] [.str "InvalidText", y, x]] μ = .ok (bdB 13) μ := by
  unfold f__law_bases; rw [runF1]
  exact fin_of (n := 0) (np := 0) (md := .fz) (by rfl)
theorem tn_13 {x y : DV} : Tn x y 13 (.exv 13 ["code", "why", "line"] [.str "InvalidText", y, x]) "InvalidText" [x, y] := ⟨fun _ => rfl, fun _ => rfl, fun _ => rfl, fun _ => neS (by decide +kernel), fl_13 (x := x) (y := y), du_13, ki_13 (x := x) (y := y), fun _ => rfl, ba_13 (x := x) (y := y), fun _ => rfl⟩
theorem fl_14 {x y : DV} (μ : Sto) : f__law_fields [.exv 14 ["code", "at"] [.str "InvalidLot", x]] μ = .ok (.tup [x]) μ := by
  have c : vXv csL "code" (.exv 14 ["code", "at"] [.str "InvalidLot", x]) μ = some (.str "InvalidLot") := by rfl
  have i0 : vIn (.str "InvalidLot") (.tup [.str "InvalidName", .str "InvalidNumber", .str "InvalidDirection"]) μ = some (.bl false) := inS (l := ["InvalidName", "InvalidNumber", "InvalidDirection"]) (by decide +kernel)
  have i1 : vIn (.str "InvalidLot") (.tup [.str "InvalidPart", .str "Loose", .str "InvalidWay", .str "InvalidPiece", .str "InvalidPeg", .str "InvalidLot", .str "InvalidRow", .str "InvalidDeed"]) μ = some (.bl true) := inS (l := ["InvalidPart", "Loose", "InvalidWay", "InvalidPiece", "InvalidPeg", "InvalidLot", "InvalidRow", "InvalidDeed"]) (by decide +kernel)
  have x0 : vXv csL "at" (.exv 14 ["code", "at"] [.str "InvalidLot", x]) μ = some x := by rfl
  unfold f__law_fields; rw [runF1]; unfold b__law_fields
  generalize (DV.exv 14 ["code", "at"] [.str "InvalidLot", x]) = e at *
  simp [mkT8, c, i0, i1, x0]
theorem du_14 {x y : DV} (μ : Sto) : f__law_due [.str "InvalidLot", x, y] μ = .ok (.tup [x]) μ := by
  have i0 : vIn (.str "InvalidLot") (.tup [.str "PartsOverlap", .str "PiecesOverlap", .str "InvalidText", .str "Barred", .str "Refused"]) μ = some (.bl false) := inS (l := ["PartsOverlap", "PiecesOverlap", "InvalidText", "Barred", "Refused"]) (by decide +kernel)
  have i1 : vIn (.str "InvalidLot") (.tup [.str "OutOfBounds", .str "OtherThing", .str "InvalidStep", .str "NoParting", .str "NoJoining", .str "InvalidPrices", .str "NothingLeft"]) μ = some (.bl false) := inS (l := ["OutOfBounds", "OtherThing", "InvalidStep", "NoParting", "NoJoining", "InvalidPrices", "NothingLeft"]) (by decide +kernel)
  unfold f__law_due; rw [runF3]; unfold b__law_due
  simp [mkT5, mkT7, i0, i1]
theorem ki_14 {x y : DV} (μ : Sto) : f__law_kinds [.exv 14 ["code", "at"] [.str "InvalidLot", x]] μ = .ok (kdB 14) μ := by
  unfold f__law_kinds; rw [runF1]
  exact fin_of (n := 0) (np := 0) (md := .fz) (by rfl)
theorem ba_14 {x y : DV} (μ : Sto) : f__law_bases [.exv 14 ["code", "at"] [.str "InvalidLot", x]] μ = .ok (bdB 14) μ := by
  unfold f__law_bases; rw [runF1]
  exact fin_of (n := 0) (np := 0) (md := .fz) (by rfl)
theorem tn_14 {x y : DV} : Tn x y 14 (.exv 14 ["code", "at"] [.str "InvalidLot", x]) "InvalidLot" [x] := ⟨fun _ => rfl, fun _ => rfl, fun _ => rfl, fun _ => neS (by decide +kernel), fl_14 (x := x) (y := y), du_14, ki_14 (x := x) (y := y), fun _ => rfl, ba_14 (x := x) (y := y), fun _ => rfl⟩
theorem fl_15 {x y : DV} (μ : Sto) : f__law_fields [.exv 15 ["code"] [.str "OtherThing"]] μ = .ok (.tup []) μ := by
  have c : vXv csL "code" (.exv 15 ["code"] [.str "OtherThing"]) μ = some (.str "OtherThing") := by rfl
  have i0 : vIn (.str "OtherThing") (.tup [.str "InvalidName", .str "InvalidNumber", .str "InvalidDirection"]) μ = some (.bl false) := inS (l := ["InvalidName", "InvalidNumber", "InvalidDirection"]) (by decide +kernel)
  have i1 : vIn (.str "OtherThing") (.tup [.str "InvalidPart", .str "Loose", .str "InvalidWay", .str "InvalidPiece", .str "InvalidPeg", .str "InvalidLot", .str "InvalidRow", .str "InvalidDeed"]) μ = some (.bl false) := inS (l := ["InvalidPart", "Loose", "InvalidWay", "InvalidPiece", "InvalidPeg", "InvalidLot", "InvalidRow", "InvalidDeed"]) (by decide +kernel)
  have i2 : vIn (.str "OtherThing") (.tup [.str "PartsOverlap", .str "PiecesOverlap", .str "Barred"]) μ = some (.bl false) := inS (l := ["PartsOverlap", "PiecesOverlap", "Barred"]) (by decide +kernel)
  have i3 : vIn (.str "OtherThing") (.tup [.str "DuplicateName", .str "NeverLeaves", .str "UnknownName"]) μ = some (.bl false) := inS (l := ["DuplicateName", "NeverLeaves", "UnknownName"]) (by decide +kernel)
  have i4 : vEq (.str "OtherThing") (.str "TooMany") μ = some (.bl false) := eqS (by decide +kernel)
  have i5 : vIn (.str "OtherThing") (.tup [.str "InvalidText", .str "Refused"]) μ = some (.bl false) := inS (l := ["InvalidText", "Refused"]) (by decide +kernel)
  have i6 : vIn (.str "OtherThing") (.tup [.str "Pegged", .str "NotFast", .str "Held"]) μ = some (.bl false) := inS (l := ["Pegged", "NotFast", "Held"]) (by decide +kernel)
  have i7 : vEq (.str "OtherThing") (.str "NotStuck") μ = some (.bl false) := eqS (by decide +kernel)
  unfold f__law_fields; rw [runF1]; unfold b__law_fields
  generalize (DV.exv 15 ["code"] [.str "OtherThing"]) = e at *
  simp [mkT8, c, i0, i1, i2, i3, i4, i5, i6, i7]
theorem du_15 {x y : DV} (μ : Sto) : f__law_due [.str "OtherThing", x, y] μ = .ok (.tup []) μ := by
  have i0 : vIn (.str "OtherThing") (.tup [.str "PartsOverlap", .str "PiecesOverlap", .str "InvalidText", .str "Barred", .str "Refused"]) μ = some (.bl false) := inS (l := ["PartsOverlap", "PiecesOverlap", "InvalidText", "Barred", "Refused"]) (by decide +kernel)
  have i1 : vIn (.str "OtherThing") (.tup [.str "OutOfBounds", .str "OtherThing", .str "InvalidStep", .str "NoParting", .str "NoJoining", .str "InvalidPrices", .str "NothingLeft"]) μ = some (.bl true) := inS (l := ["OutOfBounds", "OtherThing", "InvalidStep", "NoParting", "NoJoining", "InvalidPrices", "NothingLeft"]) (by decide +kernel)
  unfold f__law_due; rw [runF3]; unfold b__law_due
  simp [mkT5, mkT7, i0, i1]
theorem ki_15 {x y : DV} (μ : Sto) : f__law_kinds [.exv 15 ["code"] [.str "OtherThing"]] μ = .ok (kdB 15) μ := by
  unfold f__law_kinds; rw [runF1]
  exact fin_of (n := 0) (np := 0) (md := .fz) (by rfl)
theorem ba_15 {x y : DV} (μ : Sto) : f__law_bases [.exv 15 ["code"] [.str "OtherThing"]] μ = .ok (bdB 15) μ := by
  unfold f__law_bases; rw [runF1]
  exact fin_of (n := 0) (np := 0) (md := .fz) (by rfl)
theorem tn_15 {x y : DV} : Tn x y 15 (.exv 15 ["code"] [.str "OtherThing"]) "OtherThing" [] := ⟨fun _ => rfl, fun _ => rfl, fun _ => rfl, fun _ => neS (by decide +kernel), fl_15 (x := x) (y := y), du_15, ki_15 (x := x) (y := y), fun _ => rfl, ba_15 (x := x) (y := y), fun _ => rfl⟩
theorem fl_16 {x y : DV} (μ : Sto) : f__law_fields [.exv 16 ["code"] [.str "InvalidStep"]] μ = .ok (.tup []) μ := by
  have c : vXv csL "code" (.exv 16 ["code"] [.str "InvalidStep"]) μ = some (.str "InvalidStep") := by rfl
  have i0 : vIn (.str "InvalidStep") (.tup [.str "InvalidName", .str "InvalidNumber", .str "InvalidDirection"]) μ = some (.bl false) := inS (l := ["InvalidName", "InvalidNumber", "InvalidDirection"]) (by decide +kernel)
  have i1 : vIn (.str "InvalidStep") (.tup [.str "InvalidPart", .str "Loose", .str "InvalidWay", .str "InvalidPiece", .str "InvalidPeg", .str "InvalidLot", .str "InvalidRow", .str "InvalidDeed"]) μ = some (.bl false) := inS (l := ["InvalidPart", "Loose", "InvalidWay", "InvalidPiece", "InvalidPeg", "InvalidLot", "InvalidRow", "InvalidDeed"]) (by decide +kernel)
  have i2 : vIn (.str "InvalidStep") (.tup [.str "PartsOverlap", .str "PiecesOverlap", .str "Barred"]) μ = some (.bl false) := inS (l := ["PartsOverlap", "PiecesOverlap", "Barred"]) (by decide +kernel)
  have i3 : vIn (.str "InvalidStep") (.tup [.str "DuplicateName", .str "NeverLeaves", .str "UnknownName"]) μ = some (.bl false) := inS (l := ["DuplicateName", "NeverLeaves", "UnknownName"]) (by decide +kernel)
  have i4 : vEq (.str "InvalidStep") (.str "TooMany") μ = some (.bl false) := eqS (by decide +kernel)
  have i5 : vIn (.str "InvalidStep") (.tup [.str "InvalidText", .str "Refused"]) μ = some (.bl false) := inS (l := ["InvalidText", "Refused"]) (by decide +kernel)
  have i6 : vIn (.str "InvalidStep") (.tup [.str "Pegged", .str "NotFast", .str "Held"]) μ = some (.bl false) := inS (l := ["Pegged", "NotFast", "Held"]) (by decide +kernel)
  have i7 : vEq (.str "InvalidStep") (.str "NotStuck") μ = some (.bl false) := eqS (by decide +kernel)
  unfold f__law_fields; rw [runF1]; unfold b__law_fields
  generalize (DV.exv 16 ["code"] [.str "InvalidStep"]) = e at *
  simp [mkT8, c, i0, i1, i2, i3, i4, i5, i6, i7]
theorem du_16 {x y : DV} (μ : Sto) : f__law_due [.str "InvalidStep", x, y] μ = .ok (.tup []) μ := by
  have i0 : vIn (.str "InvalidStep") (.tup [.str "PartsOverlap", .str "PiecesOverlap", .str "InvalidText", .str "Barred", .str "Refused"]) μ = some (.bl false) := inS (l := ["PartsOverlap", "PiecesOverlap", "InvalidText", "Barred", "Refused"]) (by decide +kernel)
  have i1 : vIn (.str "InvalidStep") (.tup [.str "OutOfBounds", .str "OtherThing", .str "InvalidStep", .str "NoParting", .str "NoJoining", .str "InvalidPrices", .str "NothingLeft"]) μ = some (.bl true) := inS (l := ["OutOfBounds", "OtherThing", "InvalidStep", "NoParting", "NoJoining", "InvalidPrices", "NothingLeft"]) (by decide +kernel)
  unfold f__law_due; rw [runF3]; unfold b__law_due
  simp [mkT5, mkT7, i0, i1]
theorem ki_16 {x y : DV} (μ : Sto) : f__law_kinds [.exv 16 ["code"] [.str "InvalidStep"]] μ = .ok (kdB 16) μ := by
  unfold f__law_kinds; rw [runF1]
  exact fin_of (n := 0) (np := 0) (md := .fz) (by rfl)
theorem ba_16 {x y : DV} (μ : Sto) : f__law_bases [.exv 16 ["code"] [.str "InvalidStep"]] μ = .ok (bdB 16) μ := by
  unfold f__law_bases; rw [runF1]
  exact fin_of (n := 0) (np := 0) (md := .fz) (by rfl)
theorem tn_16 {x y : DV} : Tn x y 16 (.exv 16 ["code"] [.str "InvalidStep"]) "InvalidStep" [] := ⟨fun _ => rfl, fun _ => rfl, fun _ => rfl, fun _ => neS (by decide +kernel), fl_16 (x := x) (y := y), du_16, ki_16 (x := x) (y := y), fun _ => rfl, ba_16 (x := x) (y := y), fun _ => rfl⟩
theorem fl_17 {x y : DV} (μ : Sto) : f__law_fields [.exv 17 ["code"] [.str "NoParting"]] μ = .ok (.tup []) μ := by
  have c : vXv csL "code" (.exv 17 ["code"] [.str "NoParting"]) μ = some (.str "NoParting") := by rfl
  have i0 : vIn (.str "NoParting") (.tup [.str "InvalidName", .str "InvalidNumber", .str "InvalidDirection"]) μ = some (.bl false) := inS (l := ["InvalidName", "InvalidNumber", "InvalidDirection"]) (by decide +kernel)
  have i1 : vIn (.str "NoParting") (.tup [.str "InvalidPart", .str "Loose", .str "InvalidWay", .str "InvalidPiece", .str "InvalidPeg", .str "InvalidLot", .str "InvalidRow", .str "InvalidDeed"]) μ = some (.bl false) := inS (l := ["InvalidPart", "Loose", "InvalidWay", "InvalidPiece", "InvalidPeg", "InvalidLot", "InvalidRow", "InvalidDeed"]) (by decide +kernel)
  have i2 : vIn (.str "NoParting") (.tup [.str "PartsOverlap", .str "PiecesOverlap", .str "Barred"]) μ = some (.bl false) := inS (l := ["PartsOverlap", "PiecesOverlap", "Barred"]) (by decide +kernel)
  have i3 : vIn (.str "NoParting") (.tup [.str "DuplicateName", .str "NeverLeaves", .str "UnknownName"]) μ = some (.bl false) := inS (l := ["DuplicateName", "NeverLeaves", "UnknownName"]) (by decide +kernel)
  have i4 : vEq (.str "NoParting") (.str "TooMany") μ = some (.bl false) := eqS (by decide +kernel)
  have i5 : vIn (.str "NoParting") (.tup [.str "InvalidText", .str "Refused"]) μ = some (.bl false) := inS (l := ["InvalidText", "Refused"]) (by decide +kernel)
  have i6 : vIn (.str "NoParting") (.tup [.str "Pegged", .str "NotFast", .str "Held"]) μ = some (.bl false) := inS (l := ["Pegged", "NotFast", "Held"]) (by decide +kernel)
  have i7 : vEq (.str "NoParting") (.str "NotStuck") μ = some (.bl false) := eqS (by decide +kernel)
  unfold f__law_fields; rw [runF1]; unfold b__law_fields
  generalize (DV.exv 17 ["code"] [.str "NoParting"]) = e at *
  simp [mkT8, c, i0, i1, i2, i3, i4, i5, i6, i7]
theorem du_17 {x y : DV} (μ : Sto) : f__law_due [.str "NoParting", x, y] μ = .ok (.tup []) μ := by
  have i0 : vIn (.str "NoParting") (.tup [.str "PartsOverlap", .str "PiecesOverlap", .str "InvalidText", .str "Barred", .str "Refused"]) μ = some (.bl false) := inS (l := ["PartsOverlap", "PiecesOverlap", "InvalidText", "Barred", "Refused"]) (by decide +kernel)
  have i1 : vIn (.str "NoParting") (.tup [.str "OutOfBounds", .str "OtherThing", .str "InvalidStep", .str "NoParting", .str "NoJoining", .str "InvalidPrices", .str "NothingLeft"]) μ = some (.bl true) := inS (l := ["OutOfBounds", "OtherThing", "InvalidStep", "NoParting", "NoJoining", "InvalidPrices", "NothingLeft"]) (by decide +kernel)
  unfold f__law_due; rw [runF3]; unfold b__law_due
  simp [mkT5, mkT7, i0, i1]
theorem ki_17 {x y : DV} (μ : Sto) : f__law_kinds [.exv 17 ["code"] [.str "NoParting"]] μ = .ok (kdB 17) μ := by
  unfold f__law_kinds; rw [runF1]
  exact fin_of (n := 0) (np := 0) (md := .fz) (by rfl)
theorem ba_17 {x y : DV} (μ : Sto) : f__law_bases [.exv 17 ["code"] [.str "NoParting"]] μ = .ok (bdB 17) μ := by
  unfold f__law_bases; rw [runF1]
  exact fin_of (n := 0) (np := 0) (md := .fz) (by rfl)
theorem tn_17 {x y : DV} : Tn x y 17 (.exv 17 ["code"] [.str "NoParting"]) "NoParting" [] := ⟨fun _ => rfl, fun _ => rfl, fun _ => rfl, fun _ => neS (by decide +kernel), fl_17 (x := x) (y := y), du_17, ki_17 (x := x) (y := y), fun _ => rfl, ba_17 (x := x) (y := y), fun _ => rfl⟩
theorem fl_18 {x y : DV} (μ : Sto) : f__law_fields [.exv 18 ["code"] [.str "NoJoining"]] μ = .ok (.tup []) μ := by
  have c : vXv csL "code" (.exv 18 ["code"] [.str "NoJoining"]) μ = some (.str "NoJoining") := by rfl
  have i0 : vIn (.str "NoJoining") (.tup [.str "InvalidName", .str "InvalidNumber", .str "InvalidDirection"]) μ = some (.bl false) := inS (l := ["InvalidName", "InvalidNumber", "InvalidDirection"]) (by decide +kernel)
  have i1 : vIn (.str "NoJoining") (.tup [.str "InvalidPart", .str "Loose", .str "InvalidWay", .str "InvalidPiece", .str "InvalidPeg", .str "InvalidLot", .str "InvalidRow", .str "InvalidDeed"]) μ = some (.bl false) := inS (l := ["InvalidPart", "Loose", "InvalidWay", "InvalidPiece", "InvalidPeg", "InvalidLot", "InvalidRow", "InvalidDeed"]) (by decide +kernel)
  have i2 : vIn (.str "NoJoining") (.tup [.str "PartsOverlap", .str "PiecesOverlap", .str "Barred"]) μ = some (.bl false) := inS (l := ["PartsOverlap", "PiecesOverlap", "Barred"]) (by decide +kernel)
  have i3 : vIn (.str "NoJoining") (.tup [.str "DuplicateName", .str "NeverLeaves", .str "UnknownName"]) μ = some (.bl false) := inS (l := ["DuplicateName", "NeverLeaves", "UnknownName"]) (by decide +kernel)
  have i4 : vEq (.str "NoJoining") (.str "TooMany") μ = some (.bl false) := eqS (by decide +kernel)
  have i5 : vIn (.str "NoJoining") (.tup [.str "InvalidText", .str "Refused"]) μ = some (.bl false) := inS (l := ["InvalidText", "Refused"]) (by decide +kernel)
  have i6 : vIn (.str "NoJoining") (.tup [.str "Pegged", .str "NotFast", .str "Held"]) μ = some (.bl false) := inS (l := ["Pegged", "NotFast", "Held"]) (by decide +kernel)
  have i7 : vEq (.str "NoJoining") (.str "NotStuck") μ = some (.bl false) := eqS (by decide +kernel)
  unfold f__law_fields; rw [runF1]; unfold b__law_fields
  generalize (DV.exv 18 ["code"] [.str "NoJoining"]) = e at *
  simp [mkT8, c, i0, i1, i2, i3, i4, i5, i6, i7]
theorem du_18 {x y : DV} (μ : Sto) : f__law_due [.str "NoJoining", x, y] μ = .ok (.tup []) μ := by
  have i0 : vIn (.str "NoJoining") (.tup [.str "PartsOverlap", .str "PiecesOverlap", .str "InvalidText", .str "Barred", .str "Refused"]) μ = some (.bl false) := inS (l := ["PartsOverlap", "PiecesOverlap", "InvalidText", "Barred", "Refused"]) (by decide +kernel)
  have i1 : vIn (.str "NoJoining") (.tup [.str "OutOfBounds", .str "OtherThing", .str "InvalidStep", .str "NoParting", .str "NoJoining", .str "InvalidPrices", .str "NothingLeft"]) μ = some (.bl true) := inS (l := ["OutOfBounds", "OtherThing", "InvalidStep", "NoParting", "NoJoining", "InvalidPrices", "NothingLeft"]) (by decide +kernel)
  unfold f__law_due; rw [runF3]; unfold b__law_due
  simp [mkT5, mkT7, i0, i1]
theorem ki_18 {x y : DV} (μ : Sto) : f__law_kinds [.exv 18 ["code"] [.str "NoJoining"]] μ = .ok (kdB 18) μ := by
  unfold f__law_kinds; rw [runF1]
  exact fin_of (n := 0) (np := 0) (md := .fz) (by rfl)
theorem ba_18 {x y : DV} (μ : Sto) : f__law_bases [.exv 18 ["code"] [.str "NoJoining"]] μ = .ok (bdB 18) μ := by
  unfold f__law_bases; rw [runF1]
  exact fin_of (n := 0) (np := 0) (md := .fz) (by rfl)
theorem tn_18 {x y : DV} : Tn x y 18 (.exv 18 ["code"] [.str "NoJoining"]) "NoJoining" [] := ⟨fun _ => rfl, fun _ => rfl, fun _ => rfl, fun _ => neS (by decide +kernel), fl_18 (x := x) (y := y), du_18, ki_18 (x := x) (y := y), fun _ => rfl, ba_18 (x := x) (y := y), fun _ => rfl⟩
theorem fl_19 {x y : DV} (μ : Sto) : f__law_fields [.exv 19 ["code", "other", "one"] [.str "Barred", y, x]] μ = .ok (.tup [x, y]) μ := by
  have c : vXv csL "code" (.exv 19 ["code", "other", "one"] [.str "Barred", y, x]) μ = some (.str "Barred") := by rfl
  have i0 : vIn (.str "Barred") (.tup [.str "InvalidName", .str "InvalidNumber", .str "InvalidDirection"]) μ = some (.bl false) := inS (l := ["InvalidName", "InvalidNumber", "InvalidDirection"]) (by decide +kernel)
  have i1 : vIn (.str "Barred") (.tup [.str "InvalidPart", .str "Loose", .str "InvalidWay", .str "InvalidPiece", .str "InvalidPeg", .str "InvalidLot", .str "InvalidRow", .str "InvalidDeed"]) μ = some (.bl false) := inS (l := ["InvalidPart", "Loose", "InvalidWay", "InvalidPiece", "InvalidPeg", "InvalidLot", "InvalidRow", "InvalidDeed"]) (by decide +kernel)
  have i2 : vIn (.str "Barred") (.tup [.str "PartsOverlap", .str "PiecesOverlap", .str "Barred"]) μ = some (.bl true) := inS (l := ["PartsOverlap", "PiecesOverlap", "Barred"]) (by decide +kernel)
  have x0 : vXv csL "one" (.exv 19 ["code", "other", "one"] [.str "Barred", y, x]) μ = some x := by rfl
  have x1 : vXv csL "other" (.exv 19 ["code", "other", "one"] [.str "Barred", y, x]) μ = some y := by rfl
  unfold f__law_fields; rw [runF1]; unfold b__law_fields
  generalize (DV.exv 19 ["code", "other", "one"] [.str "Barred", y, x]) = e at *
  simp [mkT8, c, i0, i1, i2, x0, x1]
theorem du_19 {x y : DV} (μ : Sto) : f__law_due [.str "Barred", x, y] μ = .ok (.tup [x, y]) μ := by
  have i0 : vIn (.str "Barred") (.tup [.str "PartsOverlap", .str "PiecesOverlap", .str "InvalidText", .str "Barred", .str "Refused"]) μ = some (.bl true) := inS (l := ["PartsOverlap", "PiecesOverlap", "InvalidText", "Barred", "Refused"]) (by decide +kernel)
  unfold f__law_due; rw [runF3]; unfold b__law_due
  simp [mkT5, mkT7, i0]
theorem ki_19 {x y : DV} (μ : Sto) : f__law_kinds [.exv 19 ["code", "other", "one"] [.str "Barred", y, x]] μ = .ok (kdB 19) μ := by
  unfold f__law_kinds; rw [runF1]
  exact fin_of (n := 0) (np := 0) (md := .fz) (by rfl)
theorem ba_19 {x y : DV} (μ : Sto) : f__law_bases [.exv 19 ["code", "other", "one"] [.str "Barred", y, x]] μ = .ok (bdB 19) μ := by
  unfold f__law_bases; rw [runF1]
  exact fin_of (n := 0) (np := 0) (md := .fz) (by rfl)
theorem tn_19 {x y : DV} : Tn x y 19 (.exv 19 ["code", "other", "one"] [.str "Barred", y, x]) "Barred" [x, y] := ⟨fun _ => rfl, fun _ => rfl, fun _ => rfl, fun _ => neS (by decide +kernel), fl_19 (x := x) (y := y), du_19, ki_19 (x := x) (y := y), fun _ => rfl, ba_19 (x := x) (y := y), fun _ => rfl⟩
theorem fl_20 {x y : DV} (μ : Sto) : f__law_fields [.exv 20 ["code", "peg"] [.str "Pegged", x]] μ = .ok (.tup [x]) μ := by
  have c : vXv csL "code" (.exv 20 ["code", "peg"] [.str "Pegged", x]) μ = some (.str "Pegged") := by rfl
  have i0 : vIn (.str "Pegged") (.tup [.str "InvalidName", .str "InvalidNumber", .str "InvalidDirection"]) μ = some (.bl false) := inS (l := ["InvalidName", "InvalidNumber", "InvalidDirection"]) (by decide +kernel)
  have i1 : vIn (.str "Pegged") (.tup [.str "InvalidPart", .str "Loose", .str "InvalidWay", .str "InvalidPiece", .str "InvalidPeg", .str "InvalidLot", .str "InvalidRow", .str "InvalidDeed"]) μ = some (.bl false) := inS (l := ["InvalidPart", "Loose", "InvalidWay", "InvalidPiece", "InvalidPeg", "InvalidLot", "InvalidRow", "InvalidDeed"]) (by decide +kernel)
  have i2 : vIn (.str "Pegged") (.tup [.str "PartsOverlap", .str "PiecesOverlap", .str "Barred"]) μ = some (.bl false) := inS (l := ["PartsOverlap", "PiecesOverlap", "Barred"]) (by decide +kernel)
  have i3 : vIn (.str "Pegged") (.tup [.str "DuplicateName", .str "NeverLeaves", .str "UnknownName"]) μ = some (.bl false) := inS (l := ["DuplicateName", "NeverLeaves", "UnknownName"]) (by decide +kernel)
  have i4 : vEq (.str "Pegged") (.str "TooMany") μ = some (.bl false) := eqS (by decide +kernel)
  have i5 : vIn (.str "Pegged") (.tup [.str "InvalidText", .str "Refused"]) μ = some (.bl false) := inS (l := ["InvalidText", "Refused"]) (by decide +kernel)
  have i6 : vIn (.str "Pegged") (.tup [.str "Pegged", .str "NotFast", .str "Held"]) μ = some (.bl true) := inS (l := ["Pegged", "NotFast", "Held"]) (by decide +kernel)
  have x0 : vXv csL "peg" (.exv 20 ["code", "peg"] [.str "Pegged", x]) μ = some x := by rfl
  unfold f__law_fields; rw [runF1]; unfold b__law_fields
  generalize (DV.exv 20 ["code", "peg"] [.str "Pegged", x]) = e at *
  simp [mkT8, c, i0, i1, i2, i3, i4, i5, i6, x0]
theorem du_20 {x y : DV} (μ : Sto) : f__law_due [.str "Pegged", x, y] μ = .ok (.tup [x]) μ := by
  have i0 : vIn (.str "Pegged") (.tup [.str "PartsOverlap", .str "PiecesOverlap", .str "InvalidText", .str "Barred", .str "Refused"]) μ = some (.bl false) := inS (l := ["PartsOverlap", "PiecesOverlap", "InvalidText", "Barred", "Refused"]) (by decide +kernel)
  have i1 : vIn (.str "Pegged") (.tup [.str "OutOfBounds", .str "OtherThing", .str "InvalidStep", .str "NoParting", .str "NoJoining", .str "InvalidPrices", .str "NothingLeft"]) μ = some (.bl false) := inS (l := ["OutOfBounds", "OtherThing", "InvalidStep", "NoParting", "NoJoining", "InvalidPrices", "NothingLeft"]) (by decide +kernel)
  unfold f__law_due; rw [runF3]; unfold b__law_due
  simp [mkT5, mkT7, i0, i1]
theorem ki_20 {x y : DV} (μ : Sto) : f__law_kinds [.exv 20 ["code", "peg"] [.str "Pegged", x]] μ = .ok (kdB 20) μ := by
  unfold f__law_kinds; rw [runF1]
  exact fin_of (n := 0) (np := 0) (md := .fz) (by rfl)
theorem ba_20 {x y : DV} (μ : Sto) : f__law_bases [.exv 20 ["code", "peg"] [.str "Pegged", x]] μ = .ok (bdB 20) μ := by
  unfold f__law_bases; rw [runF1]
  exact fin_of (n := 0) (np := 0) (md := .fz) (by rfl)
theorem tn_20 {x y : DV} : Tn x y 20 (.exv 20 ["code", "peg"] [.str "Pegged", x]) "Pegged" [x] := ⟨fun _ => rfl, fun _ => rfl, fun _ => rfl, fun _ => neS (by decide +kernel), fl_20 (x := x) (y := y), du_20, ki_20 (x := x) (y := y), fun _ => rfl, ba_20 (x := x) (y := y), fun _ => rfl⟩
theorem fl_21 {x y : DV} (μ : Sto) : f__law_fields [.exv 21 ["code", "peg"] [.str "NotFast", x]] μ = .ok (.tup [x]) μ := by
  have c : vXv csL "code" (.exv 21 ["code", "peg"] [.str "NotFast", x]) μ = some (.str "NotFast") := by rfl
  have i0 : vIn (.str "NotFast") (.tup [.str "InvalidName", .str "InvalidNumber", .str "InvalidDirection"]) μ = some (.bl false) := inS (l := ["InvalidName", "InvalidNumber", "InvalidDirection"]) (by decide +kernel)
  have i1 : vIn (.str "NotFast") (.tup [.str "InvalidPart", .str "Loose", .str "InvalidWay", .str "InvalidPiece", .str "InvalidPeg", .str "InvalidLot", .str "InvalidRow", .str "InvalidDeed"]) μ = some (.bl false) := inS (l := ["InvalidPart", "Loose", "InvalidWay", "InvalidPiece", "InvalidPeg", "InvalidLot", "InvalidRow", "InvalidDeed"]) (by decide +kernel)
  have i2 : vIn (.str "NotFast") (.tup [.str "PartsOverlap", .str "PiecesOverlap", .str "Barred"]) μ = some (.bl false) := inS (l := ["PartsOverlap", "PiecesOverlap", "Barred"]) (by decide +kernel)
  have i3 : vIn (.str "NotFast") (.tup [.str "DuplicateName", .str "NeverLeaves", .str "UnknownName"]) μ = some (.bl false) := inS (l := ["DuplicateName", "NeverLeaves", "UnknownName"]) (by decide +kernel)
  have i4 : vEq (.str "NotFast") (.str "TooMany") μ = some (.bl false) := eqS (by decide +kernel)
  have i5 : vIn (.str "NotFast") (.tup [.str "InvalidText", .str "Refused"]) μ = some (.bl false) := inS (l := ["InvalidText", "Refused"]) (by decide +kernel)
  have i6 : vIn (.str "NotFast") (.tup [.str "Pegged", .str "NotFast", .str "Held"]) μ = some (.bl true) := inS (l := ["Pegged", "NotFast", "Held"]) (by decide +kernel)
  have x0 : vXv csL "peg" (.exv 21 ["code", "peg"] [.str "NotFast", x]) μ = some x := by rfl
  unfold f__law_fields; rw [runF1]; unfold b__law_fields
  generalize (DV.exv 21 ["code", "peg"] [.str "NotFast", x]) = e at *
  simp [mkT8, c, i0, i1, i2, i3, i4, i5, i6, x0]
theorem du_21 {x y : DV} (μ : Sto) : f__law_due [.str "NotFast", x, y] μ = .ok (.tup [x]) μ := by
  have i0 : vIn (.str "NotFast") (.tup [.str "PartsOverlap", .str "PiecesOverlap", .str "InvalidText", .str "Barred", .str "Refused"]) μ = some (.bl false) := inS (l := ["PartsOverlap", "PiecesOverlap", "InvalidText", "Barred", "Refused"]) (by decide +kernel)
  have i1 : vIn (.str "NotFast") (.tup [.str "OutOfBounds", .str "OtherThing", .str "InvalidStep", .str "NoParting", .str "NoJoining", .str "InvalidPrices", .str "NothingLeft"]) μ = some (.bl false) := inS (l := ["OutOfBounds", "OtherThing", "InvalidStep", "NoParting", "NoJoining", "InvalidPrices", "NothingLeft"]) (by decide +kernel)
  unfold f__law_due; rw [runF3]; unfold b__law_due
  simp [mkT5, mkT7, i0, i1]
theorem ki_21 {x y : DV} (μ : Sto) : f__law_kinds [.exv 21 ["code", "peg"] [.str "NotFast", x]] μ = .ok (kdB 21) μ := by
  unfold f__law_kinds; rw [runF1]
  exact fin_of (n := 0) (np := 0) (md := .fz) (by rfl)
theorem ba_21 {x y : DV} (μ : Sto) : f__law_bases [.exv 21 ["code", "peg"] [.str "NotFast", x]] μ = .ok (bdB 21) μ := by
  unfold f__law_bases; rw [runF1]
  exact fin_of (n := 0) (np := 0) (md := .fz) (by rfl)
theorem tn_21 {x y : DV} : Tn x y 21 (.exv 21 ["code", "peg"] [.str "NotFast", x]) "NotFast" [x] := ⟨fun _ => rfl, fun _ => rfl, fun _ => rfl, fun _ => neS (by decide +kernel), fl_21 (x := x) (y := y), du_21, ki_21 (x := x) (y := y), fun _ => rfl, ba_21 (x := x) (y := y), fun _ => rfl⟩
theorem fl_22 {x y : DV} (μ : Sto) : f__law_fields [.exv 22 ["code", "peg"] [.str "Held", x]] μ = .ok (.tup [x]) μ := by
  have c : vXv csL "code" (.exv 22 ["code", "peg"] [.str "Held", x]) μ = some (.str "Held") := by rfl
  have i0 : vIn (.str "Held") (.tup [.str "InvalidName", .str "InvalidNumber", .str "InvalidDirection"]) μ = some (.bl false) := inS (l := ["InvalidName", "InvalidNumber", "InvalidDirection"]) (by decide +kernel)
  have i1 : vIn (.str "Held") (.tup [.str "InvalidPart", .str "Loose", .str "InvalidWay", .str "InvalidPiece", .str "InvalidPeg", .str "InvalidLot", .str "InvalidRow", .str "InvalidDeed"]) μ = some (.bl false) := inS (l := ["InvalidPart", "Loose", "InvalidWay", "InvalidPiece", "InvalidPeg", "InvalidLot", "InvalidRow", "InvalidDeed"]) (by decide +kernel)
  have i2 : vIn (.str "Held") (.tup [.str "PartsOverlap", .str "PiecesOverlap", .str "Barred"]) μ = some (.bl false) := inS (l := ["PartsOverlap", "PiecesOverlap", "Barred"]) (by decide +kernel)
  have i3 : vIn (.str "Held") (.tup [.str "DuplicateName", .str "NeverLeaves", .str "UnknownName"]) μ = some (.bl false) := inS (l := ["DuplicateName", "NeverLeaves", "UnknownName"]) (by decide +kernel)
  have i4 : vEq (.str "Held") (.str "TooMany") μ = some (.bl false) := eqS (by decide +kernel)
  have i5 : vIn (.str "Held") (.tup [.str "InvalidText", .str "Refused"]) μ = some (.bl false) := inS (l := ["InvalidText", "Refused"]) (by decide +kernel)
  have i6 : vIn (.str "Held") (.tup [.str "Pegged", .str "NotFast", .str "Held"]) μ = some (.bl true) := inS (l := ["Pegged", "NotFast", "Held"]) (by decide +kernel)
  have x0 : vXv csL "peg" (.exv 22 ["code", "peg"] [.str "Held", x]) μ = some x := by rfl
  unfold f__law_fields; rw [runF1]; unfold b__law_fields
  generalize (DV.exv 22 ["code", "peg"] [.str "Held", x]) = e at *
  simp [mkT8, c, i0, i1, i2, i3, i4, i5, i6, x0]
theorem du_22 {x y : DV} (μ : Sto) : f__law_due [.str "Held", x, y] μ = .ok (.tup [x]) μ := by
  have i0 : vIn (.str "Held") (.tup [.str "PartsOverlap", .str "PiecesOverlap", .str "InvalidText", .str "Barred", .str "Refused"]) μ = some (.bl false) := inS (l := ["PartsOverlap", "PiecesOverlap", "InvalidText", "Barred", "Refused"]) (by decide +kernel)
  have i1 : vIn (.str "Held") (.tup [.str "OutOfBounds", .str "OtherThing", .str "InvalidStep", .str "NoParting", .str "NoJoining", .str "InvalidPrices", .str "NothingLeft"]) μ = some (.bl false) := inS (l := ["OutOfBounds", "OtherThing", "InvalidStep", "NoParting", "NoJoining", "InvalidPrices", "NothingLeft"]) (by decide +kernel)
  unfold f__law_due; rw [runF3]; unfold b__law_due
  simp [mkT5, mkT7, i0, i1]
theorem ki_22 {x y : DV} (μ : Sto) : f__law_kinds [.exv 22 ["code", "peg"] [.str "Held", x]] μ = .ok (kdB 22) μ := by
  unfold f__law_kinds; rw [runF1]
  exact fin_of (n := 0) (np := 0) (md := .fz) (by rfl)
theorem ba_22 {x y : DV} (μ : Sto) : f__law_bases [.exv 22 ["code", "peg"] [.str "Held", x]] μ = .ok (bdB 22) μ := by
  unfold f__law_bases; rw [runF1]
  exact fin_of (n := 0) (np := 0) (md := .fz) (by rfl)
theorem tn_22 {x y : DV} : Tn x y 22 (.exv 22 ["code", "peg"] [.str "Held", x]) "Held" [x] := ⟨fun _ => rfl, fun _ => rfl, fun _ => rfl, fun _ => neS (by decide +kernel), fl_22 (x := x) (y := y), du_22, ki_22 (x := x) (y := y), fun _ => rfl, ba_22 (x := x) (y := y), fun _ => rfl⟩
theorem fl_23 {x y : DV} (μ : Sto) : f__law_fields [.exv 23 ["code", "step"] [.str "NotStuck", x]] μ = .ok (.tup [x]) μ := by
  have c : vXv csL "code" (.exv 23 ["code", "step"] [.str "NotStuck", x]) μ = some (.str "NotStuck") := by rfl
  have i0 : vIn (.str "NotStuck") (.tup [.str "InvalidName", .str "InvalidNumber", .str "InvalidDirection"]) μ = some (.bl false) := inS (l := ["InvalidName", "InvalidNumber", "InvalidDirection"]) (by decide +kernel)
  have i1 : vIn (.str "NotStuck") (.tup [.str "InvalidPart", .str "Loose", .str "InvalidWay", .str "InvalidPiece", .str "InvalidPeg", .str "InvalidLot", .str "InvalidRow", .str "InvalidDeed"]) μ = some (.bl false) := inS (l := ["InvalidPart", "Loose", "InvalidWay", "InvalidPiece", "InvalidPeg", "InvalidLot", "InvalidRow", "InvalidDeed"]) (by decide +kernel)
  have i2 : vIn (.str "NotStuck") (.tup [.str "PartsOverlap", .str "PiecesOverlap", .str "Barred"]) μ = some (.bl false) := inS (l := ["PartsOverlap", "PiecesOverlap", "Barred"]) (by decide +kernel)
  have i3 : vIn (.str "NotStuck") (.tup [.str "DuplicateName", .str "NeverLeaves", .str "UnknownName"]) μ = some (.bl false) := inS (l := ["DuplicateName", "NeverLeaves", "UnknownName"]) (by decide +kernel)
  have i4 : vEq (.str "NotStuck") (.str "TooMany") μ = some (.bl false) := eqS (by decide +kernel)
  have i5 : vIn (.str "NotStuck") (.tup [.str "InvalidText", .str "Refused"]) μ = some (.bl false) := inS (l := ["InvalidText", "Refused"]) (by decide +kernel)
  have i6 : vIn (.str "NotStuck") (.tup [.str "Pegged", .str "NotFast", .str "Held"]) μ = some (.bl false) := inS (l := ["Pegged", "NotFast", "Held"]) (by decide +kernel)
  have i7 : vEq (.str "NotStuck") (.str "NotStuck") μ = some (.bl true) := eqS (by decide +kernel)
  have x0 : vXv csL "step" (.exv 23 ["code", "step"] [.str "NotStuck", x]) μ = some x := by rfl
  unfold f__law_fields; rw [runF1]; unfold b__law_fields
  generalize (DV.exv 23 ["code", "step"] [.str "NotStuck", x]) = e at *
  simp [mkT8, c, i0, i1, i2, i3, i4, i5, i6, i7, x0]
theorem du_23 {x y : DV} (μ : Sto) : f__law_due [.str "NotStuck", x, y] μ = .ok (.tup [x]) μ := by
  have i0 : vIn (.str "NotStuck") (.tup [.str "PartsOverlap", .str "PiecesOverlap", .str "InvalidText", .str "Barred", .str "Refused"]) μ = some (.bl false) := inS (l := ["PartsOverlap", "PiecesOverlap", "InvalidText", "Barred", "Refused"]) (by decide +kernel)
  have i1 : vIn (.str "NotStuck") (.tup [.str "OutOfBounds", .str "OtherThing", .str "InvalidStep", .str "NoParting", .str "NoJoining", .str "InvalidPrices", .str "NothingLeft"]) μ = some (.bl false) := inS (l := ["OutOfBounds", "OtherThing", "InvalidStep", "NoParting", "NoJoining", "InvalidPrices", "NothingLeft"]) (by decide +kernel)
  unfold f__law_due; rw [runF3]; unfold b__law_due
  simp [mkT5, mkT7, i0, i1]
theorem ki_23 {x y : DV} (μ : Sto) : f__law_kinds [.exv 23 ["code", "step"] [.str "NotStuck", x]] μ = .ok (kdB 23) μ := by
  unfold f__law_kinds; rw [runF1]
  exact fin_of (n := 0) (np := 0) (md := .fz) (by rfl)
theorem ba_23 {x y : DV} (μ : Sto) : f__law_bases [.exv 23 ["code", "step"] [.str "NotStuck", x]] μ = .ok (bdB 23) μ := by
  unfold f__law_bases; rw [runF1]
  exact fin_of (n := 0) (np := 0) (md := .fz) (by rfl)
theorem tn_23 {x y : DV} : Tn x y 23 (.exv 23 ["code", "step"] [.str "NotStuck", x]) "NotStuck" [x] := ⟨fun _ => rfl, fun _ => rfl, fun _ => rfl, fun _ => neS (by decide +kernel), fl_23 (x := x) (y := y), du_23, ki_23 (x := x) (y := y), fun _ => rfl, ba_23 (x := x) (y := y), fun _ => rfl⟩
theorem fl_24 {x y : DV} (μ : Sto) : f__law_fields [.exv 24 ["code", "at"] [.str "InvalidRow", x]] μ = .ok (.tup [x]) μ := by
  have c : vXv csL "code" (.exv 24 ["code", "at"] [.str "InvalidRow", x]) μ = some (.str "InvalidRow") := by rfl
  have i0 : vIn (.str "InvalidRow") (.tup [.str "InvalidName", .str "InvalidNumber", .str "InvalidDirection"]) μ = some (.bl false) := inS (l := ["InvalidName", "InvalidNumber", "InvalidDirection"]) (by decide +kernel)
  have i1 : vIn (.str "InvalidRow") (.tup [.str "InvalidPart", .str "Loose", .str "InvalidWay", .str "InvalidPiece", .str "InvalidPeg", .str "InvalidLot", .str "InvalidRow", .str "InvalidDeed"]) μ = some (.bl true) := inS (l := ["InvalidPart", "Loose", "InvalidWay", "InvalidPiece", "InvalidPeg", "InvalidLot", "InvalidRow", "InvalidDeed"]) (by decide +kernel)
  have x0 : vXv csL "at" (.exv 24 ["code", "at"] [.str "InvalidRow", x]) μ = some x := by rfl
  unfold f__law_fields; rw [runF1]; unfold b__law_fields
  generalize (DV.exv 24 ["code", "at"] [.str "InvalidRow", x]) = e at *
  simp [mkT8, c, i0, i1, x0]
theorem du_24 {x y : DV} (μ : Sto) : f__law_due [.str "InvalidRow", x, y] μ = .ok (.tup [x]) μ := by
  have i0 : vIn (.str "InvalidRow") (.tup [.str "PartsOverlap", .str "PiecesOverlap", .str "InvalidText", .str "Barred", .str "Refused"]) μ = some (.bl false) := inS (l := ["PartsOverlap", "PiecesOverlap", "InvalidText", "Barred", "Refused"]) (by decide +kernel)
  have i1 : vIn (.str "InvalidRow") (.tup [.str "OutOfBounds", .str "OtherThing", .str "InvalidStep", .str "NoParting", .str "NoJoining", .str "InvalidPrices", .str "NothingLeft"]) μ = some (.bl false) := inS (l := ["OutOfBounds", "OtherThing", "InvalidStep", "NoParting", "NoJoining", "InvalidPrices", "NothingLeft"]) (by decide +kernel)
  unfold f__law_due; rw [runF3]; unfold b__law_due
  simp [mkT5, mkT7, i0, i1]
theorem ki_24 {x y : DV} (μ : Sto) : f__law_kinds [.exv 24 ["code", "at"] [.str "InvalidRow", x]] μ = .ok (kdB 24) μ := by
  unfold f__law_kinds; rw [runF1]
  exact fin_of (n := 0) (np := 0) (md := .fz) (by rfl)
theorem ba_24 {x y : DV} (μ : Sto) : f__law_bases [.exv 24 ["code", "at"] [.str "InvalidRow", x]] μ = .ok (bdB 24) μ := by
  unfold f__law_bases; rw [runF1]
  exact fin_of (n := 0) (np := 0) (md := .fz) (by rfl)
theorem tn_24 {x y : DV} : Tn x y 24 (.exv 24 ["code", "at"] [.str "InvalidRow", x]) "InvalidRow" [x] := ⟨fun _ => rfl, fun _ => rfl, fun _ => rfl, fun _ => neS (by decide +kernel), fl_24 (x := x) (y := y), du_24, ki_24 (x := x) (y := y), fun _ => rfl, ba_24 (x := x) (y := y), fun _ => rfl⟩
theorem fl_25 {x y : DV} (μ : Sto) : f__law_fields [.exv 25 ["code", "name"] [.str "NeverLeaves", x]] μ = .ok (.tup [x]) μ := by
  have c : vXv csL "code" (.exv 25 ["code", "name"] [.str "NeverLeaves", x]) μ = some (.str "NeverLeaves") := by rfl
  have i0 : vIn (.str "NeverLeaves") (.tup [.str "InvalidName", .str "InvalidNumber", .str "InvalidDirection"]) μ = some (.bl false) := inS (l := ["InvalidName", "InvalidNumber", "InvalidDirection"]) (by decide +kernel)
  have i1 : vIn (.str "NeverLeaves") (.tup [.str "InvalidPart", .str "Loose", .str "InvalidWay", .str "InvalidPiece", .str "InvalidPeg", .str "InvalidLot", .str "InvalidRow", .str "InvalidDeed"]) μ = some (.bl false) := inS (l := ["InvalidPart", "Loose", "InvalidWay", "InvalidPiece", "InvalidPeg", "InvalidLot", "InvalidRow", "InvalidDeed"]) (by decide +kernel)
  have i2 : vIn (.str "NeverLeaves") (.tup [.str "PartsOverlap", .str "PiecesOverlap", .str "Barred"]) μ = some (.bl false) := inS (l := ["PartsOverlap", "PiecesOverlap", "Barred"]) (by decide +kernel)
  have i3 : vIn (.str "NeverLeaves") (.tup [.str "DuplicateName", .str "NeverLeaves", .str "UnknownName"]) μ = some (.bl true) := inS (l := ["DuplicateName", "NeverLeaves", "UnknownName"]) (by decide +kernel)
  have x0 : vXv csL "name" (.exv 25 ["code", "name"] [.str "NeverLeaves", x]) μ = some x := by rfl
  unfold f__law_fields; rw [runF1]; unfold b__law_fields
  generalize (DV.exv 25 ["code", "name"] [.str "NeverLeaves", x]) = e at *
  simp [mkT8, c, i0, i1, i2, i3, x0]
theorem du_25 {x y : DV} (μ : Sto) : f__law_due [.str "NeverLeaves", x, y] μ = .ok (.tup [x]) μ := by
  have i0 : vIn (.str "NeverLeaves") (.tup [.str "PartsOverlap", .str "PiecesOverlap", .str "InvalidText", .str "Barred", .str "Refused"]) μ = some (.bl false) := inS (l := ["PartsOverlap", "PiecesOverlap", "InvalidText", "Barred", "Refused"]) (by decide +kernel)
  have i1 : vIn (.str "NeverLeaves") (.tup [.str "OutOfBounds", .str "OtherThing", .str "InvalidStep", .str "NoParting", .str "NoJoining", .str "InvalidPrices", .str "NothingLeft"]) μ = some (.bl false) := inS (l := ["OutOfBounds", "OtherThing", "InvalidStep", "NoParting", "NoJoining", "InvalidPrices", "NothingLeft"]) (by decide +kernel)
  unfold f__law_due; rw [runF3]; unfold b__law_due
  simp [mkT5, mkT7, i0, i1]
theorem ki_25 {x y : DV} (μ : Sto) : f__law_kinds [.exv 25 ["code", "name"] [.str "NeverLeaves", x]] μ = .ok (kdB 25) μ := by
  unfold f__law_kinds; rw [runF1]
  exact fin_of (n := 0) (np := 0) (md := .fz) (by rfl)
theorem ba_25 {x y : DV} (μ : Sto) : f__law_bases [.exv 25 ["code", "name"] [.str "NeverLeaves", x]] μ = .ok (bdB 25) μ := by
  unfold f__law_bases; rw [runF1]
  exact fin_of (n := 0) (np := 0) (md := .fz) (by rfl)
theorem tn_25 {x y : DV} : Tn x y 25 (.exv 25 ["code", "name"] [.str "NeverLeaves", x]) "NeverLeaves" [x] := ⟨fun _ => rfl, fun _ => rfl, fun _ => rfl, fun _ => neS (by decide +kernel), fl_25 (x := x) (y := y), du_25, ki_25 (x := x) (y := y), fun _ => rfl, ba_25 (x := x) (y := y), fun _ => rfl⟩
theorem fl_26 {x y : DV} (μ : Sto) : f__law_fields [.exv 26 ["code", "why", "line"] [.str "Refused", y, x]] μ = .ok (.tup [x, y]) μ := by
  have c : vXv csL "code" (.exv 26 ["code", "why", "line"] [.str "Refused", y, x]) μ = some (.str "Refused") := by rfl
  have i0 : vIn (.str "Refused") (.tup [.str "InvalidName", .str "InvalidNumber", .str "InvalidDirection"]) μ = some (.bl false) := inS (l := ["InvalidName", "InvalidNumber", "InvalidDirection"]) (by decide +kernel)
  have i1 : vIn (.str "Refused") (.tup [.str "InvalidPart", .str "Loose", .str "InvalidWay", .str "InvalidPiece", .str "InvalidPeg", .str "InvalidLot", .str "InvalidRow", .str "InvalidDeed"]) μ = some (.bl false) := inS (l := ["InvalidPart", "Loose", "InvalidWay", "InvalidPiece", "InvalidPeg", "InvalidLot", "InvalidRow", "InvalidDeed"]) (by decide +kernel)
  have i2 : vIn (.str "Refused") (.tup [.str "PartsOverlap", .str "PiecesOverlap", .str "Barred"]) μ = some (.bl false) := inS (l := ["PartsOverlap", "PiecesOverlap", "Barred"]) (by decide +kernel)
  have i3 : vIn (.str "Refused") (.tup [.str "DuplicateName", .str "NeverLeaves", .str "UnknownName"]) μ = some (.bl false) := inS (l := ["DuplicateName", "NeverLeaves", "UnknownName"]) (by decide +kernel)
  have i4 : vEq (.str "Refused") (.str "TooMany") μ = some (.bl false) := eqS (by decide +kernel)
  have i5 : vIn (.str "Refused") (.tup [.str "InvalidText", .str "Refused"]) μ = some (.bl true) := inS (l := ["InvalidText", "Refused"]) (by decide +kernel)
  have x0 : vXv csL "line" (.exv 26 ["code", "why", "line"] [.str "Refused", y, x]) μ = some x := by rfl
  have x1 : vXv csL "why" (.exv 26 ["code", "why", "line"] [.str "Refused", y, x]) μ = some y := by rfl
  unfold f__law_fields; rw [runF1]; unfold b__law_fields
  generalize (DV.exv 26 ["code", "why", "line"] [.str "Refused", y, x]) = e at *
  simp [mkT8, c, i0, i1, i2, i3, i4, i5, x0, x1]
theorem du_26 {x y : DV} (μ : Sto) : f__law_due [.str "Refused", x, y] μ = .ok (.tup [x, y]) μ := by
  have i0 : vIn (.str "Refused") (.tup [.str "PartsOverlap", .str "PiecesOverlap", .str "InvalidText", .str "Barred", .str "Refused"]) μ = some (.bl true) := inS (l := ["PartsOverlap", "PiecesOverlap", "InvalidText", "Barred", "Refused"]) (by decide +kernel)
  unfold f__law_due; rw [runF3]; unfold b__law_due
  simp [mkT5, mkT7, i0]
theorem ki_26 {x y : DV} (μ : Sto) : f__law_kinds [.exv 26 ["code", "why", "line"] [.str "Refused", y, x]] μ = .ok (kdB 26) μ := by
  unfold f__law_kinds; rw [runF1]
  exact fin_of (n := 0) (np := 0) (md := .fz) (by rfl)
theorem ba_26 {x y : DV} (μ : Sto) : f__law_bases [.exv 26 ["code", "why", "line"] [.str "Refused", y, x]] μ = .ok (bdB 26) μ := by
  unfold f__law_bases; rw [runF1]
  exact fin_of (n := 0) (np := 0) (md := .fz) (by rfl)
theorem tn_26 {x y : DV} : Tn x y 26 (.exv 26 ["code", "why", "line"] [.str "Refused", y, x]) "Refused" [x, y] := ⟨fun _ => rfl, fun _ => rfl, fun _ => rfl, fun _ => neS (by decide +kernel), fl_26 (x := x) (y := y), du_26, ki_26 (x := x) (y := y), fun _ => rfl, ba_26 (x := x) (y := y), fun _ => rfl⟩
theorem fl_27 {x y : DV} (μ : Sto) : f__law_fields [.exv 27 ["code"] [.str "InvalidPrices"]] μ = .ok (.tup []) μ := by
  have c : vXv csL "code" (.exv 27 ["code"] [.str "InvalidPrices"]) μ = some (.str "InvalidPrices") := by rfl
  have i0 : vIn (.str "InvalidPrices") (.tup [.str "InvalidName", .str "InvalidNumber", .str "InvalidDirection"]) μ = some (.bl false) := inS (l := ["InvalidName", "InvalidNumber", "InvalidDirection"]) (by decide +kernel)
  have i1 : vIn (.str "InvalidPrices") (.tup [.str "InvalidPart", .str "Loose", .str "InvalidWay", .str "InvalidPiece", .str "InvalidPeg", .str "InvalidLot", .str "InvalidRow", .str "InvalidDeed"]) μ = some (.bl false) := inS (l := ["InvalidPart", "Loose", "InvalidWay", "InvalidPiece", "InvalidPeg", "InvalidLot", "InvalidRow", "InvalidDeed"]) (by decide +kernel)
  have i2 : vIn (.str "InvalidPrices") (.tup [.str "PartsOverlap", .str "PiecesOverlap", .str "Barred"]) μ = some (.bl false) := inS (l := ["PartsOverlap", "PiecesOverlap", "Barred"]) (by decide +kernel)
  have i3 : vIn (.str "InvalidPrices") (.tup [.str "DuplicateName", .str "NeverLeaves", .str "UnknownName"]) μ = some (.bl false) := inS (l := ["DuplicateName", "NeverLeaves", "UnknownName"]) (by decide +kernel)
  have i4 : vEq (.str "InvalidPrices") (.str "TooMany") μ = some (.bl false) := eqS (by decide +kernel)
  have i5 : vIn (.str "InvalidPrices") (.tup [.str "InvalidText", .str "Refused"]) μ = some (.bl false) := inS (l := ["InvalidText", "Refused"]) (by decide +kernel)
  have i6 : vIn (.str "InvalidPrices") (.tup [.str "Pegged", .str "NotFast", .str "Held"]) μ = some (.bl false) := inS (l := ["Pegged", "NotFast", "Held"]) (by decide +kernel)
  have i7 : vEq (.str "InvalidPrices") (.str "NotStuck") μ = some (.bl false) := eqS (by decide +kernel)
  unfold f__law_fields; rw [runF1]; unfold b__law_fields
  generalize (DV.exv 27 ["code"] [.str "InvalidPrices"]) = e at *
  simp [mkT8, c, i0, i1, i2, i3, i4, i5, i6, i7]
theorem du_27 {x y : DV} (μ : Sto) : f__law_due [.str "InvalidPrices", x, y] μ = .ok (.tup []) μ := by
  have i0 : vIn (.str "InvalidPrices") (.tup [.str "PartsOverlap", .str "PiecesOverlap", .str "InvalidText", .str "Barred", .str "Refused"]) μ = some (.bl false) := inS (l := ["PartsOverlap", "PiecesOverlap", "InvalidText", "Barred", "Refused"]) (by decide +kernel)
  have i1 : vIn (.str "InvalidPrices") (.tup [.str "OutOfBounds", .str "OtherThing", .str "InvalidStep", .str "NoParting", .str "NoJoining", .str "InvalidPrices", .str "NothingLeft"]) μ = some (.bl true) := inS (l := ["OutOfBounds", "OtherThing", "InvalidStep", "NoParting", "NoJoining", "InvalidPrices", "NothingLeft"]) (by decide +kernel)
  unfold f__law_due; rw [runF3]; unfold b__law_due
  simp [mkT5, mkT7, i0, i1]
theorem ki_27 {x y : DV} (μ : Sto) : f__law_kinds [.exv 27 ["code"] [.str "InvalidPrices"]] μ = .ok (kdB 27) μ := by
  unfold f__law_kinds; rw [runF1]
  exact fin_of (n := 0) (np := 0) (md := .fz) (by rfl)
theorem ba_27 {x y : DV} (μ : Sto) : f__law_bases [.exv 27 ["code"] [.str "InvalidPrices"]] μ = .ok (bdB 27) μ := by
  unfold f__law_bases; rw [runF1]
  exact fin_of (n := 0) (np := 0) (md := .fz) (by rfl)
theorem tn_27 {x y : DV} : Tn x y 27 (.exv 27 ["code"] [.str "InvalidPrices"]) "InvalidPrices" [] := ⟨fun _ => rfl, fun _ => rfl, fun _ => rfl, fun _ => neS (by decide +kernel), fl_27 (x := x) (y := y), du_27, ki_27 (x := x) (y := y), fun _ => rfl, ba_27 (x := x) (y := y), fun _ => rfl⟩
theorem fl_28 {x y : DV} (μ : Sto) : f__law_fields [.exv 28 ["code", "at"] [.str "InvalidDeed", x]] μ = .ok (.tup [x]) μ := by
  have c : vXv csL "code" (.exv 28 ["code", "at"] [.str "InvalidDeed", x]) μ = some (.str "InvalidDeed") := by rfl
  have i0 : vIn (.str "InvalidDeed") (.tup [.str "InvalidName", .str "InvalidNumber", .str "InvalidDirection"]) μ = some (.bl false) := inS (l := ["InvalidName", "InvalidNumber", "InvalidDirection"]) (by decide +kernel)
  have i1 : vIn (.str "InvalidDeed") (.tup [.str "InvalidPart", .str "Loose", .str "InvalidWay", .str "InvalidPiece", .str "InvalidPeg", .str "InvalidLot", .str "InvalidRow", .str "InvalidDeed"]) μ = some (.bl true) := inS (l := ["InvalidPart", "Loose", "InvalidWay", "InvalidPiece", "InvalidPeg", "InvalidLot", "InvalidRow", "InvalidDeed"]) (by decide +kernel)
  have x0 : vXv csL "at" (.exv 28 ["code", "at"] [.str "InvalidDeed", x]) μ = some x := by rfl
  unfold f__law_fields; rw [runF1]; unfold b__law_fields
  generalize (DV.exv 28 ["code", "at"] [.str "InvalidDeed", x]) = e at *
  simp [mkT8, c, i0, i1, x0]
theorem du_28 {x y : DV} (μ : Sto) : f__law_due [.str "InvalidDeed", x, y] μ = .ok (.tup [x]) μ := by
  have i0 : vIn (.str "InvalidDeed") (.tup [.str "PartsOverlap", .str "PiecesOverlap", .str "InvalidText", .str "Barred", .str "Refused"]) μ = some (.bl false) := inS (l := ["PartsOverlap", "PiecesOverlap", "InvalidText", "Barred", "Refused"]) (by decide +kernel)
  have i1 : vIn (.str "InvalidDeed") (.tup [.str "OutOfBounds", .str "OtherThing", .str "InvalidStep", .str "NoParting", .str "NoJoining", .str "InvalidPrices", .str "NothingLeft"]) μ = some (.bl false) := inS (l := ["OutOfBounds", "OtherThing", "InvalidStep", "NoParting", "NoJoining", "InvalidPrices", "NothingLeft"]) (by decide +kernel)
  unfold f__law_due; rw [runF3]; unfold b__law_due
  simp [mkT5, mkT7, i0, i1]
theorem ki_28 {x y : DV} (μ : Sto) : f__law_kinds [.exv 28 ["code", "at"] [.str "InvalidDeed", x]] μ = .ok (kdB 28) μ := by
  unfold f__law_kinds; rw [runF1]
  exact fin_of (n := 0) (np := 0) (md := .fz) (by rfl)
theorem ba_28 {x y : DV} (μ : Sto) : f__law_bases [.exv 28 ["code", "at"] [.str "InvalidDeed", x]] μ = .ok (bdB 28) μ := by
  unfold f__law_bases; rw [runF1]
  exact fin_of (n := 0) (np := 0) (md := .fz) (by rfl)
theorem tn_28 {x y : DV} : Tn x y 28 (.exv 28 ["code", "at"] [.str "InvalidDeed", x]) "InvalidDeed" [x] := ⟨fun _ => rfl, fun _ => rfl, fun _ => rfl, fun _ => neS (by decide +kernel), fl_28 (x := x) (y := y), du_28, ki_28 (x := x) (y := y), fun _ => rfl, ba_28 (x := x) (y := y), fun _ => rfl⟩
theorem fl_29 {x y : DV} (μ : Sto) : f__law_fields [.exv 29 ["code", "name"] [.str "UnknownName", x]] μ = .ok (.tup [x]) μ := by
  have c : vXv csL "code" (.exv 29 ["code", "name"] [.str "UnknownName", x]) μ = some (.str "UnknownName") := by rfl
  have i0 : vIn (.str "UnknownName") (.tup [.str "InvalidName", .str "InvalidNumber", .str "InvalidDirection"]) μ = some (.bl false) := inS (l := ["InvalidName", "InvalidNumber", "InvalidDirection"]) (by decide +kernel)
  have i1 : vIn (.str "UnknownName") (.tup [.str "InvalidPart", .str "Loose", .str "InvalidWay", .str "InvalidPiece", .str "InvalidPeg", .str "InvalidLot", .str "InvalidRow", .str "InvalidDeed"]) μ = some (.bl false) := inS (l := ["InvalidPart", "Loose", "InvalidWay", "InvalidPiece", "InvalidPeg", "InvalidLot", "InvalidRow", "InvalidDeed"]) (by decide +kernel)
  have i2 : vIn (.str "UnknownName") (.tup [.str "PartsOverlap", .str "PiecesOverlap", .str "Barred"]) μ = some (.bl false) := inS (l := ["PartsOverlap", "PiecesOverlap", "Barred"]) (by decide +kernel)
  have i3 : vIn (.str "UnknownName") (.tup [.str "DuplicateName", .str "NeverLeaves", .str "UnknownName"]) μ = some (.bl true) := inS (l := ["DuplicateName", "NeverLeaves", "UnknownName"]) (by decide +kernel)
  have x0 : vXv csL "name" (.exv 29 ["code", "name"] [.str "UnknownName", x]) μ = some x := by rfl
  unfold f__law_fields; rw [runF1]; unfold b__law_fields
  generalize (DV.exv 29 ["code", "name"] [.str "UnknownName", x]) = e at *
  simp [mkT8, c, i0, i1, i2, i3, x0]
theorem du_29 {x y : DV} (μ : Sto) : f__law_due [.str "UnknownName", x, y] μ = .ok (.tup [x]) μ := by
  have i0 : vIn (.str "UnknownName") (.tup [.str "PartsOverlap", .str "PiecesOverlap", .str "InvalidText", .str "Barred", .str "Refused"]) μ = some (.bl false) := inS (l := ["PartsOverlap", "PiecesOverlap", "InvalidText", "Barred", "Refused"]) (by decide +kernel)
  have i1 : vIn (.str "UnknownName") (.tup [.str "OutOfBounds", .str "OtherThing", .str "InvalidStep", .str "NoParting", .str "NoJoining", .str "InvalidPrices", .str "NothingLeft"]) μ = some (.bl false) := inS (l := ["OutOfBounds", "OtherThing", "InvalidStep", "NoParting", "NoJoining", "InvalidPrices", "NothingLeft"]) (by decide +kernel)
  unfold f__law_due; rw [runF3]; unfold b__law_due
  simp [mkT5, mkT7, i0, i1]
theorem ki_29 {x y : DV} (μ : Sto) : f__law_kinds [.exv 29 ["code", "name"] [.str "UnknownName", x]] μ = .ok (kdB 29) μ := by
  unfold f__law_kinds; rw [runF1]
  exact fin_of (n := 0) (np := 0) (md := .fz) (by rfl)
theorem ba_29 {x y : DV} (μ : Sto) : f__law_bases [.exv 29 ["code", "name"] [.str "UnknownName", x]] μ = .ok (bdB 29) μ := by
  unfold f__law_bases; rw [runF1]
  exact fin_of (n := 0) (np := 0) (md := .fz) (by rfl)
theorem tn_29 {x y : DV} : Tn x y 29 (.exv 29 ["code", "name"] [.str "UnknownName", x]) "UnknownName" [x] := ⟨fun _ => rfl, fun _ => rfl, fun _ => rfl, fun _ => neS (by decide +kernel), fl_29 (x := x) (y := y), du_29, ki_29 (x := x) (y := y), fun _ => rfl, ba_29 (x := x) (y := y), fun _ => rfl⟩
theorem fl_30 {x y : DV} (μ : Sto) : f__law_fields [.exv 30 ["code"] [.str "NothingLeft"]] μ = .ok (.tup []) μ := by
  have c : vXv csL "code" (.exv 30 ["code"] [.str "NothingLeft"]) μ = some (.str "NothingLeft") := by rfl
  have i0 : vIn (.str "NothingLeft") (.tup [.str "InvalidName", .str "InvalidNumber", .str "InvalidDirection"]) μ = some (.bl false) := inS (l := ["InvalidName", "InvalidNumber", "InvalidDirection"]) (by decide +kernel)
  have i1 : vIn (.str "NothingLeft") (.tup [.str "InvalidPart", .str "Loose", .str "InvalidWay", .str "InvalidPiece", .str "InvalidPeg", .str "InvalidLot", .str "InvalidRow", .str "InvalidDeed"]) μ = some (.bl false) := inS (l := ["InvalidPart", "Loose", "InvalidWay", "InvalidPiece", "InvalidPeg", "InvalidLot", "InvalidRow", "InvalidDeed"]) (by decide +kernel)
  have i2 : vIn (.str "NothingLeft") (.tup [.str "PartsOverlap", .str "PiecesOverlap", .str "Barred"]) μ = some (.bl false) := inS (l := ["PartsOverlap", "PiecesOverlap", "Barred"]) (by decide +kernel)
  have i3 : vIn (.str "NothingLeft") (.tup [.str "DuplicateName", .str "NeverLeaves", .str "UnknownName"]) μ = some (.bl false) := inS (l := ["DuplicateName", "NeverLeaves", "UnknownName"]) (by decide +kernel)
  have i4 : vEq (.str "NothingLeft") (.str "TooMany") μ = some (.bl false) := eqS (by decide +kernel)
  have i5 : vIn (.str "NothingLeft") (.tup [.str "InvalidText", .str "Refused"]) μ = some (.bl false) := inS (l := ["InvalidText", "Refused"]) (by decide +kernel)
  have i6 : vIn (.str "NothingLeft") (.tup [.str "Pegged", .str "NotFast", .str "Held"]) μ = some (.bl false) := inS (l := ["Pegged", "NotFast", "Held"]) (by decide +kernel)
  have i7 : vEq (.str "NothingLeft") (.str "NotStuck") μ = some (.bl false) := eqS (by decide +kernel)
  unfold f__law_fields; rw [runF1]; unfold b__law_fields
  generalize (DV.exv 30 ["code"] [.str "NothingLeft"]) = e at *
  simp [mkT8, c, i0, i1, i2, i3, i4, i5, i6, i7]
theorem du_30 {x y : DV} (μ : Sto) : f__law_due [.str "NothingLeft", x, y] μ = .ok (.tup []) μ := by
  have i0 : vIn (.str "NothingLeft") (.tup [.str "PartsOverlap", .str "PiecesOverlap", .str "InvalidText", .str "Barred", .str "Refused"]) μ = some (.bl false) := inS (l := ["PartsOverlap", "PiecesOverlap", "InvalidText", "Barred", "Refused"]) (by decide +kernel)
  have i1 : vIn (.str "NothingLeft") (.tup [.str "OutOfBounds", .str "OtherThing", .str "InvalidStep", .str "NoParting", .str "NoJoining", .str "InvalidPrices", .str "NothingLeft"]) μ = some (.bl true) := inS (l := ["OutOfBounds", "OtherThing", "InvalidStep", "NoParting", "NoJoining", "InvalidPrices", "NothingLeft"]) (by decide +kernel)
  unfold f__law_due; rw [runF3]; unfold b__law_due
  simp [mkT5, mkT7, i0, i1]
theorem ki_30 {x y : DV} (μ : Sto) : f__law_kinds [.exv 30 ["code"] [.str "NothingLeft"]] μ = .ok (kdB 30) μ := by
  unfold f__law_kinds; rw [runF1]
  exact fin_of (n := 0) (np := 0) (md := .fz) (by rfl)
theorem ba_30 {x y : DV} (μ : Sto) : f__law_bases [.exv 30 ["code"] [.str "NothingLeft"]] μ = .ok (bdB 30) μ := by
  unfold f__law_bases; rw [runF1]
  exact fin_of (n := 0) (np := 0) (md := .fz) (by rfl)
theorem tn_30 {x y : DV} : Tn x y 30 (.exv 30 ["code"] [.str "NothingLeft"]) "NothingLeft" [] := ⟨fun _ => rfl, fun _ => rfl, fun _ => rfl, fun _ => neS (by decide +kernel), fl_30 (x := x) (y := y), du_30, ki_30 (x := x) (y := y), fun _ => rfl, ba_30 (x := x) (y := y), fun _ => rfl⟩
theorem tn_all {x y : DV} : ∀ k, k < 31 → ∃ e c ts, Tn x y k e c ts ∧ (ts = [] ∨ ts = [x] ∨ ts = [x, y])
  | 0, _ => ⟨_, _, _, tn_0, .inr (.inl rfl)⟩
  | 1, _ => ⟨_, _, _, tn_1, .inr (.inl rfl)⟩
  | 2, _ => ⟨_, _, _, tn_2, .inr (.inl rfl)⟩
  | 3, _ => ⟨_, _, _, tn_3, .inr (.inl rfl)⟩
  | 4, _ => ⟨_, _, _, tn_4, .inr (.inr rfl)⟩
  | 5, _ => ⟨_, _, _, tn_5, .inr (.inl rfl)⟩
  | 6, _ => ⟨_, _, _, tn_6, .inr (.inl rfl)⟩
  | 7, _ => ⟨_, _, _, tn_7, .inr (.inl rfl)⟩
  | 8, _ => ⟨_, _, _, tn_8, .inr (.inl rfl)⟩
  | 9, _ => ⟨_, _, _, tn_9, .inr (.inr rfl)⟩
  | 10, _ => ⟨_, _, _, tn_10, .inr (.inl rfl)⟩
  | 11, _ => ⟨_, _, _, tn_11, .inr (.inl rfl)⟩
  | 12, _ => ⟨_, _, _, tn_12, .inl rfl⟩
  | 13, _ => ⟨_, _, _, tn_13, .inr (.inr rfl)⟩
  | 14, _ => ⟨_, _, _, tn_14, .inr (.inl rfl)⟩
  | 15, _ => ⟨_, _, _, tn_15, .inl rfl⟩
  | 16, _ => ⟨_, _, _, tn_16, .inl rfl⟩
  | 17, _ => ⟨_, _, _, tn_17, .inl rfl⟩
  | 18, _ => ⟨_, _, _, tn_18, .inl rfl⟩
  | 19, _ => ⟨_, _, _, tn_19, .inr (.inr rfl)⟩
  | 20, _ => ⟨_, _, _, tn_20, .inr (.inl rfl)⟩
  | 21, _ => ⟨_, _, _, tn_21, .inr (.inl rfl)⟩
  | 22, _ => ⟨_, _, _, tn_22, .inr (.inl rfl)⟩
  | 23, _ => ⟨_, _, _, tn_23, .inr (.inl rfl)⟩
  | 24, _ => ⟨_, _, _, tn_24, .inr (.inl rfl)⟩
  | 25, _ => ⟨_, _, _, tn_25, .inr (.inl rfl)⟩
  | 26, _ => ⟨_, _, _, tn_26, .inr (.inr rfl)⟩
  | 27, _ => ⟨_, _, _, tn_27, .inl rfl⟩
  | 28, _ => ⟨_, _, _, tn_28, .inr (.inl rfl)⟩
  | 29, _ => ⟨_, _, _, tn_29, .inr (.inl rfl)⟩
  | 30, _ => ⟨_, _, _, tn_30, .inl rfl⟩
  | n + 31, h => absurd h (by omega)
end
end Lw

set_option Elab.async false
set_option linter.all false
set_option maxRecDepth 100000
set_option maxHeartbeats 4000000
namespace Lw
open PySem PySem.Spec PyProof.Rows L2 SD
def B1 : DS := (sAsg (eCall f__law_codes aNil) (gN 3))
def B2_1 : DS := (sIf (tOr' (tB' (eBin vNe (eUn (vXv csL "code") (eBin vIx (eVar 0) (eVar 4))) (eBin vIx (eVar 3) (eVar 4)))) (tNot' (tB' (eCall (f__law_same 6) (aCons (eCall f__law_fields (aCons (eBin vIx (eVar 0) (eVar 4)) aNil)) (aCons (eCall f__law_due (aCons (eBin vIx (eVar 3) (eVar 4)) (aCons (eVar 1) (aCons (eVar 2) aNil)))) aNil)))))) (sRet (eC (.bl false))) sNop)
def B2_2 : DS := (sIf (tB' (eBin vNe (eCall f__law_kinds (aCons (eBin vIx (eVar 0) (eVar 4)) aNil)) (eLc (iRng1' (aCons (eFn vLen (aCons (eVar 3) aNil)) aNil)) (gN 6) tYes' (eBin vEq (eVar 6) (eVar 4)) [6]))) (sRet (eC (.bl false))) sNop)
def B2_3 : DS := (sAsg (eIf (tB' (eBin vLt (eVar 4) (eC (.int 29)))) (eLst (aCons (eC (.bl true)) (aCons (eC (.bl true)) (aCons (eC (.bl false)) (aCons (eC (.bl false)) (aCons (eC (.bl false)) (aCons (eC (.bl false)) aNil))))))) (eLst (aCons (eC (.bl false)) (aCons (eC (.bl false)) (aCons (eC (.bl true)) (aCons (eC (.bl true)) (aCons (eC (.bl false)) (aCons (eC (.bl false)) aNil)))))))) (gN 5))
def B2_4 : DS := (sIf (tB' (eBin vNe (eCall f__law_bases (aCons (eBin vIx (eVar 0) (eVar 4)) aNil)) (eIf (tB' (eBin vLt (eVar 4) (eC (.int 30)))) (eVar 5) (eLst (aCons (eC (.bl false)) (aCons (eC (.bl false)) (aCons (eC (.bl false)) (aCons (eC (.bl true)) (aCons (eC (.bl true)) (aCons (eC (.bl false)) aNil)))))))))) (sRet (eC (.bl false))) sNop)
def B2b : DS := sSeq B2_1 (sSeq B2_2 (sSeq B2_3 (B2_4)))
def B2 : DS := sFor (iRng1' (aCons (eFn vLen (aCons (eVar 3) aNil)) aNil)) (gN 4) B2b
def B3 : DS := (sRet (eC (.bl true)))
theorem b__law_all_so_eq : b__law_all_so = sSeq B1 (sSeq B2 (B3)) := rfl
section
variable {μ : Sto} {x y M : DV} {k : Nat} {e : DV} {c : Str} {ts : List DV} {o4 o5 : Option DV}
abbrev ew (M x y : DV) (o4 o5 : Option DV) : En := [some M, some x, some y, some (.lst codL), o4, o5, none]
theorem b21 (hM : M = .lst (entL x y)) (T : Tn x y k e c ts) (hs : f__law_same 6 [.tup ts, .tup ts] μ = .ok (.bl true) μ) : B2_1 (ew M x y (some (.int (k : Int))) o5) μ = .nx (ew M x y (some (.int (k : Int))) o5) μ := by
  have h1 := T.at_ μ
  rw [← hM] at h1
  have h2 := T.cd μ
  have h3 := T.ca μ
  have h4 := T.ne μ
  have h5 := T.fl μ
  have h6 := T.du μ
  unfold B2_1
  generalize f__law_same 6 = F at hs ⊢
  simp [h1, h2, h3, h4, h5, h6, hs]
theorem hlc : eLc (iRng1' (aCons (eFn vLen (aCons (eVar 3) aNil)) aNil)) (gN 6) tYes' (eBin vEq (eVar 6) (eVar 4)) [6] (ew M x y (some (.int (k : Int))) o5) μ = .ok (kdB k) μ := by
  have wp : wipeE (ew M x y (some (.int (k : Int))) o5) [6] = ew M x y (some (.int (k : Int))) o5 := rfl
  have hrg : iRng1' (aCons (eFn vLen (aCons (eVar 3) aNil)) aNil) (ew M x y (some (.int (k : Int))) o5) μ = .ok (.fix ((List.range 31).map fun (i : Nat) => DV.int (i : Int))) μ := by
    rw [iRng1_ap]
    have hl : vLen [.lst codL] μ = some (.int (31 : Nat)) := rfl
    have hv : (ew M x y (some (.int (k : Int))) o5)[3]? = some (some (.lst codL)) := rfl
    simp only [eFn_ap, aCons_ap, aNil_ap, eVar_ap, hv, ac1_ok, ac2_ok, mk_ok, hl, of_some, rg1_ok]
    rw [rng_n (by decide), of_some]
  have hc : compD (gN 6) tYes' (eBin vEq (eVar 6) (eVar 4)) (ew M x y (some (.int (k : Int))) o5) ((List.range 31).map fun (i : Nat) => DV.int (i : Int)) μ = .ok ((List.range 31).map fun (j : Nat) => DV.bl (decide ((j : Int) = (k : Int)))) μ := by
    have := compD_map (μ := μ) (ρ := ew M x y (some (.int (k : Int))) o5) (t := gN 6) (te := eBin vEq (eVar 6) (eVar 4)) (fun d => match d with | .int i => .bl (decide (i = (k : Int))) | _ => .non) ((List.range 31).map fun (i : Nat) => DV.int (i : Int)) (fun z hz => by
      obtain ⟨i, hi, rfl⟩ := List.mem_map.mp hz
      exact ⟨_, rfl, by simp⟩)
    rw [this, List.map_map]
    rfl
  rw [eLc_ap, wp, hrg, lc_rng (by decide), hc, mk_ok]
  rfl
theorem b22 (hM : M = .lst (entL x y)) (T : Tn x y k e c ts) : B2_2 (ew M x y (some (.int (k : Int))) o5) μ = .nx (ew M x y (some (.int (k : Int))) o5) μ := by
  have h1 := T.at_ μ
  rw [← hM] at h1
  have h2 := T.ki μ
  have h3 := T.kn μ
  have h4 := hlc (μ := μ) (M := M) (x := x) (y := y) (k := k) (o5 := o5)
  unfold B2_2
  generalize kdB k = B at h2 h3 h4
  generalize eLc (iRng1' (aCons (eFn vLen (aCons (eVar 3) aNil)) aNil)) (gN 6) tYes' (eBin vEq (eVar 6) (eVar 4)) [6] = E at h4 ⊢
  simp [h1, h2, h3, h4]
theorem mkL6 {a b c d e f : DV} : mkL [a, b, c, d, e, f] μ = .ok (.lst [a, b, c, d, e, f]) μ := mkL_small (by show 6 ≤ _; decide)
theorem b23 : B2_3 (ew M x y (some (.int (k : Int))) o5) μ = .nx (ew M x y (some (.int (k : Int))) (some (bd1 k))) μ := by
  unfold B2_3 bd1
  by_cases h : k < 29
  · have h' : (k : Int) < 29 := by omega
    rw [if_pos h]
    simp [h', mkL6]
  · have h' : ¬ (k : Int) < 29 := by omega
    rw [if_neg h]
    simp [h', mkL6]
theorem b24 (hM : M = .lst (entL x y)) (T : Tn x y k e c ts) : B2_4 (ew M x y (some (.int (k : Int))) (some (bd1 k))) μ = .nx (ew M x y (some (.int (k : Int))) (some (bd1 k))) μ := by
  have h1 := T.at_ μ
  rw [← hM] at h1
  have h2 := T.ba μ
  have h3 := T.bn μ
  unfold B2_4
  unfold bdB at h2 h3
  by_cases h : k < 30
  · have h' : (k : Int) < 30 := by omega
    rw [if_pos h] at h2 h3
    generalize bd1 k = B at h2 h3 ⊢
    simp [h', h1, h2, h3]
  · have h' : ¬ (k : Int) < 30 := by omega
    rw [if_neg h] at h2 h3
    generalize bd1 k = B
    simp [h', h1, h2, h3, mkL6]
theorem turn_so (hM : M = .lst (entL x y)) (T : Tn x y k e c ts) (hs : f__law_same 6 [.tup ts, .tup ts] μ = .ok (.bl true) μ) : B2b (ew M x y (some (.int (k : Int))) o5) μ = .nx (ew M x y (some (.int (k : Int))) (some (bd1 k))) μ := by
  unfold B2b
  rw [sSeq_ap, b21 hM T hs, seq_nx, sSeq_ap, b22 hM T, seq_nx, sSeq_ap, b23, seq_nx, b24 hM T]
theorem same_ts (Vx : Val x) (Vy : Val y) (h : ts = [] ∨ ts = [x] ∨ ts = [x, y]) : f__law_same 6 [.tup ts, .tup ts] μ = .ok (.bl true) μ := by
  refine same_tup 4 (fun d hd => ?_) (by rcases h with rfl | rfl | rfl <;> simp)
  have : d = x ∨ d = y := by
    rcases h with rfl | rfl | rfl
    · cases hd
    · exact .inl (by simpa using hd)
    · simpa using hd
  rcases this with rfl | rfl
  · exact Vx.s μ 2
  · exact Vy.s μ 2
theorem so_ok (Vx : Val x) (Vy : Val y) : f__law_all_so [.lst (entL x y), x, y] μ = .ok (.bl true) μ := by
  obtain ⟨M, hM⟩ : ∃ M, M = DV.lst (entL x y) := ⟨_, rfl⟩
  rw [← hM]
  unfold f__law_all_so
  rw [runF3, b__law_all_so_eq]
  have e1 : B1 ([some M, some x, some y] ++ List.replicate 4 none) μ = .nx (ew M x y none none) μ := by
    unfold B1
    have hc : f__law_codes [] μ = .ok (.lst codL) μ := codes_ok
    simp [hc]
  have e2 : ∃ o4 o5, B2 (ew M x y none none) μ = .nx (ew M x y o4 o5) μ := by
    obtain ⟨ρ', μ', el, ⟨o4, o5, hρ⟩, hμ⟩ := loopD_inv (t := gN 4) (f := B2b) (fun ρ μ1 => (∃ o4 o5, ρ = ew M x y o4 o5) ∧ μ1 = μ) ((List.range 31).map fun (i : Nat) => DV.int (i : Int)) (ew M x y none none) μ ⟨⟨_, _, rfl⟩, rfl⟩ (by
      rintro d hd ρ μ1 ⟨⟨o4, o5, rfl⟩, rfl⟩
      obtain ⟨i, hi, rfl⟩ := List.mem_map.mp hd
      obtain ⟨e, c, ts, T, h⟩ := tn_all (x := x) (y := y) i (List.mem_range.mp hi)
      exact ⟨ew M x y (some (.int (i : Int))) o5, rfl, ew M x y (some (.int (i : Int))) (some (bd1 i)), _, .inl (turn_so hM T (same_ts Vx Vy h)), ⟨_, _, rfl⟩, rfl⟩)
    subst hμ hρ
    refine ⟨o4, o5, ?_⟩
    unfold B2
    have hrg : iRng1' (aCons (eFn vLen (aCons (eVar 3) aNil)) aNil) (ew M x y none none) μ' = .ok (.fix ((List.range 31).map fun (i : Nat) => DV.int (i : Int))) μ' := by
      rw [iRng1_ap]
      have hl : vLen [.lst codL] μ' = some (.int (31 : Nat)) := rfl
      have hv : (ew M x y none none)[3]? = some (some (.lst codL)) := rfl
      simp only [eFn_ap, aCons_ap, aNil_ap, eVar_ap, hv, ac1_ok, ac2_ok, mk_ok, hl, of_some, rg1_ok]
      rw [rng_n (by decide), of_some]
    rw [sFor_ap, hrg, for1_fix, el]
  obtain ⟨o4, o5, e2⟩ := e2
  have e3 : B3 (ew M x y o4 o5) μ = .rt (.bl true) μ := rfl
  show SR.fin .fz μ.length ((sSeq B1 (sSeq B2 B3)) ([some M, some x, some y] ++ List.replicate 4 none) μ) = _
  rw [sSeq_ap, e1, seq_nx, sSeq_ap, e2, seq_nx, e3, sfin_rt, fin_same]
end
end Lw

set_option Elab.async false
set_option linter.all false
set_option maxRecDepth 100000
set_option maxHeartbeats 4000000
namespace Lw
open PySem PySem.Spec PyProof.Rows L2 SD
def A1 : DS := (sAsg (eCall f__law_box (aCons (eVar 0) (aCons (eC (.int 120320007)) aNil))) (gN 1))
def A2 : DS := (sAsg (eTup (aCons (eCall f__law_odd (aCons (eVar 1) aNil)) (aCons (eCall f__law_pick (aCons (eVar 1) (aCons (eLst (aCons (eCall f__law_odd (aCons (eVar 1) aNil)) (aCons (eCall f__law_take (aCons (eVar 1) (aCons (eBin vPow (eC (.int 10)) (eC (.int 9))) aNil))) (aCons (eCall f__law_word (aCons (eVar 1) (aCons (eC (.int 6)) aNil))) aNil)))) aNil))) aNil))) (gTup' (gCons' (gN 2) (gCons' (gN 3) gNil')) 2))
def A3 : DS := (sPar3 4 5 6 (aCons (eCall f__law_by_place (aCons (eVar 2) (aCons (eVar 3) aNil))) (aCons (eCall f__law_by_name (aCons (eVar 3) (aCons (eVar 2) aNil))) (aCons (eCall f__law_by_place (aCons (eC (.str "")) (aCons (eC (.int 0)) aNil))) aNil))))
def A4 : DS := (sAsg (eLstC (aCons (eVar 2) aNil)) (gN 7))
def A5 : DS := (sAsg (eLst (aCons (eMkV 0 ["value"] "InvalidName" (aCons (eVar 7) aNil)) (aCons (eMkVK 22 ["peg"] "Held" [0] 1 (aCons (eVar 7) aNil)) (aCons (eMkV 29 ["name"] "UnknownName" (aCons (eVar 7) aNil)) aNil)))) (gN 8))
def A6 : DS := (sExpr (eBm "list" mAppend (eVar 7) (aCons (eVar 3) aNil)))
def A7 : DS := (sIf (tNot' (tB' (eFn vAll (aCons (eLc (iSeq (eVar 8)) (gN 9) tYes' (eCall (f__law_same 6) (aCons (eCall f__law_fields (aCons (eVar 9) aNil)) (aCons (eTup (aCons (eLst (aCons (eVar 2) (aCons (eVar 3) aNil))) aNil)) aNil))) [9]) aNil)))) (sRet (eC (.bl false))) sNop)
def A8 : DS := (sRet (eAnd (eCall f__law_all_so (aCons (eVar 4) (aCons (eVar 2) (aCons (eVar 3) aNil)))) (eAnd (eCall f__law_all_so (aCons (eVar 5) (aCons (eVar 3) (aCons (eVar 2) aNil)))) (eCall f__law_all_so (aCons (eVar 6) (aCons (eC (.str "")) (aCons (eC (.int 0)) aNil)))))))
theorem b_law_eq : b_law = sSeq A1 (sSeq A2 (sSeq A3 (sSeq A4 (sSeq A5 (sSeq A6 (sSeq A7 (A8))))))) := rfl
section
variable {μ : Sto}
theorem same_tt (k : Nat) {xs ys : List DV} (hn : xs.length = ys.length) (h : ∀ (i : Nat) (h1 : i < xs.length) (h2 : i < ys.length), f__law_same (k + 1) [xs[i], ys[i]] μ = .ok (.bl true) μ) (hl : ys.length ≤ 1000) : f__law_same (k + 2) [.tup xs, .tup ys] μ = .ok (.bl true) μ := by
  rw [same_succ, runF2]
  unfold b__law_same
  have ln : vLen [.tup xs] μ = some (.int ys.length) := by rw [vLen_t, hn]
  have ix : ∀ (zs : List DV) (i : Nat) (h : i < zs.length), vIx (.tup zs) (.int (i : Int)) μ = some zs[i] := fun zs i h => by
    show atI zs (i : Int) = _
    rw [atI_nat h, List.getElem?_eq_getElem h]
  have wp : wipeE [some (.tup xs), some (.tup ys), none, none, none] [3] = [some (.tup xs), some (.tup ys), none, none, none] := rfl
  have hc : compD (gN 3) tYes' (eCall (f__law_same (k + 1)) (aCons (eBin vIx (eVar 0) (eVar 3)) (aCons (eBin vIx (eVar 1) (eVar 3)) aNil))) [some (.tup xs), some (.tup ys), none, none, none] ((List.range ys.length).map fun (i : Nat) => DV.int (i : Int)) μ = .ok ((List.range ys.length).map fun i => .bl true) μ := by
    have := compD_map (μ := μ) (ρ := [some (.tup xs), some (.tup ys), none, none, none]) (t := gN 3) (te := eCall (f__law_same (k + 1)) (aCons (eBin vIx (eVar 0) (eVar 3)) (aCons (eBin vIx (eVar 1) (eVar 3)) aNil))) (fun _ => .bl true) ((List.range ys.length).map fun (i : Nat) => DV.int (i : Int)) (fun z hz => by
      obtain ⟨i, hi, rfl⟩ := List.mem_map.mp hz
      have hi' : i < ys.length := List.mem_range.mp hi
      have hx := ix xs i (by omega)
      have hy := ix ys i hi'
      have hlf := h i (by omega) hi'
      exact ⟨_, rfl, by simp [hx, hy, hlf]⟩)
    rw [this, List.map_map]
    rfl
  have hv : vAll [.lst ((List.range ys.length).map fun _ => DV.bl true)] μ = some (.bl true) := by
    rw [vAll_map (μ := μ) (List.range ys.length) fun _ => true]
    simp
  have hrg : ∀ ρ : En, ρ[1]? = some (some (.tup ys)) → iRng1' (aCons (eFn vLen (aCons (eVar 1) aNil)) aNil) ρ μ = .ok (.fix ((List.range ys.length).map fun (i : Nat) => DV.int (i : Int))) μ := by
    intro ρ hρ
    rw [iRng1_ap]
    simp only [eFn_ap, aCons_ap, aNil_ap, eVar_ap, hρ, ac1_ok, ac2_ok, mk_ok, vLen_t, of_some, rg1_ok]
    rw [rng_n hl, of_some]
  have hlc : eLc (iRng1' (aCons (eFn vLen (aCons (eVar 1) aNil)) aNil)) (gN 3) tYes' (eCall (f__law_same (k + 1)) (aCons (eBin vIx (eVar 0) (eVar 3)) (aCons (eBin vIx (eVar 1) (eVar 3)) aNil))) [3] [some (.tup xs), some (.tup ys), none, none, none] μ = .ok (.lst ((List.range ys.length).map fun _ => DV.bl true)) μ := by
    rw [eLc_ap, wp, hrg _ rfl, lc_rng hl, hc, mk_ok]
  have hall : eFn vAll (aCons (eLc (iRng1' (aCons (eFn vLen (aCons (eVar 1) aNil)) aNil)) (gN 3) tYes' (eCall (f__law_same (k + 1)) (aCons (eBin vIx (eVar 0) (eVar 3)) (aCons (eBin vIx (eVar 1) (eVar 3)) aNil))) [3]) aNil) [some (.tup xs), some (.tup ys), none, none, none] μ = .ok (.bl true) μ := by
    rw [eFn_ap, aCons_ap, hlc, ac1_ok, aNil_ap, ac2_ok, mk_ok, hv, of_some]
  show SR.fin .fz μ.length (_ : SR) = _
  generalize eFn vAll (aCons (eLc (iRng1' (aCons (eFn vLen (aCons (eVar 1) aNil)) aNil)) (gN 3) tYes' (eCall (f__law_same (k + 1)) (aCons (eBin vIx (eVar 0) (eVar 3)) (aCons (eBin vIx (eVar 1) (eVar 3)) aNil))) [3]) aNil) = E at hall ⊢
  simp [T7.sub, hall, ln]
theorem Val_wd {d : DV} (h : wd d = true) : Val d := by
  cases d with
  | str z =>
    refine Val.str ?_
    unfold wd at h
    simp [sn] at h
    simp_all
  | _ => simp [wd] at h
abbrev lv (s bx x y f g t h l : Option DV) : En := [s, bx, x, y, f, g, t, h, l, none]
theorem late_same (b : Bx) {x y : DV} (Vx : Val x) (Vy : Val y) : f__law_same 6 [.tup [.cell 1], .tup [.lst [x, y]]] [enc b, .lst [x, y]] = .ok (.bl true) [enc b, .lst [x, y]] := by
  refine same_tt 4 rfl (fun i h1 h2 => ?_) (by show 1 ≤ _; decide)
  have : i = 0 := by simpa using h1
  subst this
  refine same_ll 3 (LL.cell (μ := [enc b, .lst [x, y]]) (i := 1) (xs := [x, y]) rfl) rfl (fun j h3 h4 => ?_) (by show 2 ≤ _; decide)
  match j, h3 with
  | 0, _ => exact Vx.s _ 1
  | 1, _ => exact Vy.s _ 1
def lateL : List DV := [.exv 0 ["code", "value"] [.str "InvalidName", .cell 1], .exv 22 ["code", "peg"] [.str "Held", .cell 1], .exv 29 ["code", "name"] [.str "UnknownName", .cell 1]]
theorem draw_ok (b : Bx) (s : Option DV) : ∃ x y b', A2 (lv s (some (.cell 0)) none none none none none none none) [enc b] = .nx (lv s (some (.cell 0)) (some x) (some y) none none none none none) [enc b'] ∧ Val x ∧ Val y := by
  obtain ⟨x, b1, e1, Vx⟩ := odd_ok (μ := []) b
  obtain ⟨o, b2, e2, Vo⟩ := odd_ok (μ := []) b1
  obtain ⟨n, b3, e3, n1, n2⟩ := take_ok (μ := []) (b := b2) 1000000000 (by decide) (by decide)
  obtain ⟨d, b4, e4, hd⟩ := word_ok b3
  obtain ⟨y, b5, e5, hy⟩ := pick_ok (μ := []) (b := b4) [o, .int n, d] (by show 0 < 3; decide) (by show 3 < _; decide)
  refine ⟨x, y, b5, ?_, Vx, ?_⟩
  · have hp : vPow (.int 10) (.int 9) [enc b2] = some (.int 1000000000) := vPow_i (n := 9) (by decide) (by decide)
    have mk3 : ∀ μ, mkL [o, .int n, d] μ = .ok (.lst [o, .int n, d]) μ := fun μ => mkL_small (by show 3 ≤ _; decide)
    have mk2 : ∀ μ, mkT [x, y] μ = .ok (.tup [x, y]) μ := fun μ => mkT_small (by show 2 ≤ _; decide)
    unfold A2
    simp [e1, e2, e3, e4, e5, hp, mk3, mk2]
  · simp only [List.mem_cons, List.not_mem_nil, or_false] at hy
    rcases hy with rfl | rfl | rfl
    · exact Vo
    · exact Val.leaf rfl
    · exact Val_wd hd
theorem a7_ok (b : Bx) (s f g t : Option DV) {x y : DV} (Vx : Val x) (Vy : Val y) : A7 (lv s (some (.cell 0)) (some x) (some y) f g t (some (.cell 1)) (some (.lst lateL))) [enc b, .lst [x, y]] = .nx (lv s (some (.cell 0)) (some x) (some y) f g t (some (.cell 1)) (some (.lst lateL))) [enc b, .lst [x, y]] := by
  have hs := late_same b Vx Vy
  generalize hm : ([enc b, .lst [x, y]] : Sto) = μ at hs
  have f1 : f__law_fields [.exv 0 ["code", "value"] [.str "InvalidName", .cell 1]] μ = .ok (.tup [.cell 1]) μ := fl_0 (x := .cell 1) (y := .non) μ
  have f2 : f__law_fields [.exv 22 ["code", "peg"] [.str "Held", .cell 1]] μ = .ok (.tup [.cell 1]) μ := fl_22 (x := .cell 1) (y := .non) μ
  have f3 : f__law_fields [.exv 29 ["code", "name"] [.str "UnknownName", .cell 1]] μ = .ok (.tup [.cell 1]) μ := fl_29 (x := .cell 1) (y := .non) μ
  have k2 : mkL [x, y] μ = .ok (.lst [x, y]) μ := mkL_small (by show 2 ≤ _; decide)
  have k1 : mkT [.lst [x, y]] μ = .ok (.tup [.lst [x, y]]) μ := mkT_small (by show 1 ≤ _; decide)
  unfold A7
  generalize f__law_same 6 = F at hs ⊢
  have hc : compD (gN 9) tYes' (eCall F (aCons (eCall f__law_fields (aCons (eVar 9) aNil)) (aCons (eTup (aCons (eLst (aCons (eVar 2) (aCons (eVar 3) aNil))) aNil)) aNil))) (lv s (some (.cell 0)) (some x) (some y) f g t (some (.cell 1)) (some (.lst lateL))) lateL μ = .ok (lateL.map fun _ => .bl true) μ :=
    compD_map (fun _ => .bl true) lateL (fun z hz => by
      refine ⟨_, rfl, ?_⟩
      have hf : f__law_fields [z] μ = .ok (.tup [.cell 1]) μ := by
        unfold lateL at hz
        simp only [List.mem_cons, List.not_mem_nil, or_false] at hz
        rcases hz with rfl | rfl | rfl
        · exact f1
        · exact f2
        · exact f3
      simp [hf, k1, k2, hs])
  have wp : wipeE (lv s (some (.cell 0)) (some x) (some y) f g t (some (.cell 1)) (some (.lst lateL))) [9] = lv s (some (.cell 0)) (some x) (some y) f g t (some (.cell 1)) (some (.lst lateL)) := rfl
  have hi : iSeq (eVar 8) (lv s (some (.cell 0)) (some x) (some y) f g t (some (.cell 1)) (some (.lst lateL))) μ = .ok (.fix lateL) μ := rfl
  have hlc : eLc (iSeq (eVar 8)) (gN 9) tYes' (eCall F (aCons (eCall f__law_fields (aCons (eVar 9) aNil)) (aCons (eTup (aCons (eLst (aCons (eVar 2) (aCons (eVar 3) aNil))) aNil)) aNil))) [9] (lv s (some (.cell 0)) (some x) (some y) f g t (some (.cell 1)) (some (.lst lateL))) μ = .ok (.lst [.bl true, .bl true, .bl true]) μ := by
    rw [eLc_ap, wp, hi, lc1_fix (by show 3 < _; decide), hc, mk_ok]
    rfl
  have hv : vAll [.lst [.bl true, .bl true, .bl true]] μ = some (.bl true) := rfl
  generalize eLc (iSeq (eVar 8)) (gN 9) tYes' (eCall F (aCons (eCall f__law_fields (aCons (eVar 9) aNil)) (aCons (eTup (aCons (eLst (aCons (eVar 2) (aCons (eVar 3) aNil))) aNil)) aNil))) [9] = E at hlc ⊢
  simp [hlc, hv]
end
theorem plain (ns : List Int) (h : ns.length ≤ 63) : ∃ μ, f_law [.scr (ns.map .int)] [] = .ok (.bl true) μ := by
  obtain ⟨b, hb⟩ := box_ok ns 120320007
  refine ⟨[], ?_⟩
  unfold f_law
  rw [runF1, b_law_eq]
  obtain ⟨s, hs⟩ : ∃ s, s = some (DV.scr (ns.map .int)) := ⟨_, rfl⟩
  have e1 : A1 ([some (.scr (ns.map .int))] ++ List.replicate 9 none) [] = .nx (lv s (some (.cell 0)) none none none none none none none) [enc b] := by
    rw [hs]
    unfold A1
    simp only [sAsg_ap, eCall_ap, aCons_ap, eVar_ap, aNil_ap, eC_ap, List.cons_append, List.nil_append, List.replicate, List.getElem?_cons_zero, ac1_ok, ac2_ok, mk_ok, hb, asg_ok, gN_ap, List.set_cons_succ, List.set_cons_zero]
  obtain ⟨x, y, b', e2, Vx, Vy⟩ := draw_ok b s
  obtain ⟨P, hP⟩ : ∃ P, P = DV.lst (entL x y) := ⟨_, rfl⟩
  obtain ⟨Q, hQ⟩ : ∃ P, P = DV.lst (entL y x) := ⟨_, rfl⟩
  obtain ⟨R, hR⟩ : ∃ P, P = DV.lst (entL (.str "") (.int 0)) := ⟨_, rfl⟩
  have p1 : ∀ μ, f__law_by_place [x, y] μ = .ok P μ := fun μ => by rw [hP]; exact place_ok
  have p2 : ∀ μ, f__law_by_name [y, x] μ = .ok Q μ := fun μ => by rw [hQ]; exact name_ok
  have p3 : ∀ μ, f__law_by_place [.str "", .int 0] μ = .ok R μ := fun μ => by rw [hR]; exact place_ok
  have s1 : ∀ μ, f__law_all_so [P, x, y] μ = .ok (.bl true) μ := fun μ => by rw [hP]; exact so_ok Vx Vy
  have s2 : ∀ μ, f__law_all_so [Q, y, x] μ = .ok (.bl true) μ := fun μ => by rw [hQ]; exact so_ok Vy Vx
  have s3 : ∀ μ, f__law_all_so [R, .str "", .int 0] μ = .ok (.bl true) μ := fun μ => by rw [hR]; exact so_ok (Val.str (by decide +kernel)) (Val.leaf rfl)
  have e3 : A3 (lv s (some (.cell 0)) (some x) (some y) none none none none none) [enc b'] = .nx (lv s (some (.cell 0)) (some x) (some y) (some P) (some Q) (some R) none none) [enc b'] := by
    unfold A3
    simp [p1, p2, p3]
  have e4 : A4 (lv s (some (.cell 0)) (some x) (some y) (some P) (some Q) (some R) none none) [enc b'] = .nx (lv s (some (.cell 0)) (some x) (some y) (some P) (some Q) (some R) (some (.cell 1)) none) [enc b', .lst [x]] := rfl
  have e5 : A5 (lv s (some (.cell 0)) (some x) (some y) (some P) (some Q) (some R) (some (.cell 1)) none) [enc b', .lst [x]] = .nx (lv s (some (.cell 0)) (some x) (some y) (some P) (some Q) (some R) (some (.cell 1)) (some (.lst lateL))) [enc b', .lst [x]] := rfl
  have e6 : A6 (lv s (some (.cell 0)) (some x) (some y) (some P) (some Q) (some R) (some (.cell 1)) (some (.lst lateL))) [enc b', .lst [x]] = .nx (lv s (some (.cell 0)) (some x) (some y) (some P) (some Q) (some R) (some (.cell 1)) (some (.lst lateL))) [enc b', .lst [x, y]] := rfl
  have e7 := a7_ok b' s (some P) (some Q) (some R) Vx Vy
  have e8 : A8 (lv s (some (.cell 0)) (some x) (some y) (some P) (some Q) (some R) (some (.cell 1)) (some (.lst lateL))) [enc b', .lst [x, y]] = .rt (.bl true) [enc b', .lst [x, y]] := by
    unfold A8
    simp [s1, s2, s3]
  have hf : SR.fin .fz 0 (.rt (.bl true) [enc b', .lst [x, y]]) = .ok (.bl true) [] := rfl
  rw [sSeq_ap, e1, seq_nx, sSeq_ap, e2, seq_nx, sSeq_ap, e3, seq_nx, sSeq_ap, e4, seq_nx, sSeq_ap, e5, seq_nx, sSeq_ap, e6, seq_nx, sSeq_ap, e7, seq_nx, e8]
  exact hf
end Lw

set_option Elab.async false
set_option linter.all false
set_option maxRecDepth 100000
set_option maxHeartbeats 4000000
namespace Lw
open PySem PySem.Spec PyProof.Rows L2 SD
theorem lawAt {w : World} {K : PySem.W.Frag} {h : Heap} {mg : Str → Option Value} {f : Addr} (X : K.In h) (G : h.Ns mainGlobals mg) (hfa : mg ("law" : Str) = some (.ref f)) (c : SaysY fa fn tfX exX gtX w h K) :
    LamX.LawAtS PySem.Challenge.rw_stucklots_k00_errors_by_themselves w K (L2.CX PySem.Challenge.rw_stucklots_k00_errors_by_themselves.prog w) 8 63 "script" mg f h := by
  have T : Hv fa fn csX ysX cvX gtX dfX tfX xsX K mg := by
    have a1 := Bool.and_eq_true_iff.mp c.x.more
    have a2 := Bool.and_eq_true_iff.mp a1.2
    have a3 := Bool.and_eq_true_iff.mp a2.2
    have a4 := Bool.and_eq_true_iff.mp a3.2
    have a5 := Bool.and_eq_true_iff.mp a4.2
    exact ⟨⟨⟨⟨⟨h, X, G, c.x.t.d⟩, a1.1⟩, a2.1, a3.1, congrArg (fun z : Bool × List He.FnW => z.1) c.g, congrArg (fun z : Bool × List He.FnW => z.2) c.g⟩, a4.1, a5.1⟩, a5.2⟩
  have e := hfa.symm.trans (T.glo 63)
  cases e
  obtain ⟨fd, F⟩ := fd_law T
  have b := FunD.bindsA (ps := ["script"]) F fun _ _ _ _ _ _ us hl => match us, hl with | [_], _ => rfl
  exact law_atS (g := gK K) (F := f_law) X c.x rfl rfl (fun s v => b s [v] rfl) plain fun base _ _ TBs => gf_ok F sc_law (fb_law T)
end Lw
open PySem PySem.W PySem.Calls PyProof.Rows
set_option maxRecDepth 100000 in
set_option maxHeartbeats 0 in
theorem PySem.Challenge.cw_stucklots_k00_errors_by_themselves_holds : PySem.Challenge.rw_stucklots_k00_errors_by_themselves.Holds := by
  w_on; o_law
  refine HandSHeadRun.head_any (r := OpenLaw.row PySem.Challenge.rw_stucklots_k00_errors_by_themselves) (q := view (OpenLaw.row PySem.Challenge.rw_stucklots_k00_errors_by_themselves).prog [50]) (H := Lw.hk) (ob := Lw.ob) (M := 9000) (loose := Lw.loose) (d := HandSHeadRun.topDef (OpenLaw.row PySem.Challenge.rw_stucklots_k00_errors_by_themselves).prog 50) (kwd := []) Lw.ob_eq
    (by kernel_rfl) (fun s => by kernel_rfl) Lw.run (by kernel_rfl) (by kernel_rfl) (by kernel_rfl) (by rfl) (by first | assumption | decide +kernel) (by decide +kernel) ⟨rfl, rfl, rfl, rfl, rfl, by decide +kernel⟩ ?hw ?hc
  case hw => w_witness2
  case hc =>
    refine LamX.walk_ofTsE (l := PySem.Challenge.rw_stucklots_k00_errors_by_themselves) (n := 63) (k := 8) (x := "script") (CX := fun w => L2.CX PySem.Challenge.rw_stucklots_k00_errors_by_themselves.prog w) rfl (by decide) (by kernel_rfl) ⟨rfl, by decide, by decide⟩ ?F (fun _ _ _ _ _ z => SD.noCX z)
    intro w mg fa h Y G hmg0
    obtain ⟨K, KX, c⟩ := Y
    have hmg : mg ("law" : PySem.Str) = some (.ref fa) := by
      have e : (HandSHeadRun.topDef (OpenLaw.row PySem.Challenge.rw_stucklots_k00_errors_by_themselves).prog 50).name = ("law" : PySem.Str) := by kernel_rfl
      rw [← e]
      exact hmg0
    exact ⟨K, KX, Lw.lawAt KX G hmg c⟩
