import PyProof.Rows.All
import Wide.All
import OpenK.AllK
import Wide.FinOn
import HandS.ForMost
import HandS.Exc
import HandS.WordsExc
import HandS.IsInst
import HandS.TupAny
import HandS.More
import HandS.Strs
import HandS.CallSlots
import HandS.Defaults
import HandS.Deep
import HandS.Wide
import HandS.StrMore
import HandS.Conv
import HandS.Head0
import HandS.Head1
import HandS.Head2
import HandS.HeadEnd
import HandS.HeadHook1
import HandS.HeadHook2
import HandS.Style
import HandS.SortInts
import HandS.NoneIn
import KE.KUnpackStar
import HandS.ExcValue
import PySem.Challenge.RW_stucklots_k03_parts_judged
set_option Elab.async false
set_option linter.all false
set_option maxRecDepth 100000
set_option maxHeartbeats 4000000
/-! SD: a shallow semantics on deep data over the layer HandS. A value is deep data (DV); lists, dicts and instances that are still to change live in a store (Sto) by number; the rest is frozen. -/
namespace SD
open PySem PySem.Spec PyProof.Rows L2

/-- built-in types -/
inductive T7 where | non | bl | int | str | tup | lst | dct
  deriving DecidableEq, Inhabited
def T7.name : T7 → String
  | .non => "NoneType" | .bl => "bool" | .int => "int" | .str => "str" | .tup => "tuple" | .lst => "list" | .dct => "dict"
/-- deep data -/
inductive DV where
  | non | bl (b : Bool) | int (i : Int) | str (x : Str)
  | tup (xs : List DV) | lst (xs : List DV) | scr (xs : List DV)
  | dct (ks : List Key) (xs : List DV)
  | cell (i : Nat)
  | obj (c : Nat) (ns : List Str) (xs : List DV)
  | gl (n : Nat) | ty (t : T7)
  deriving Inhabited

/-- what lives in the store -/
inductive CO where
  | dead
  | lst (xs : List DV)
  | ins (c : Nat) (ns : List Str) (xs : List DV)
  deriving Inhabited
abbrev Sto := List CO
/-- the cells' addresses; those of hidden lists that a comprehension is filling -/
structure KA where
  cs : List (Option Addr)
  gh : List Addr
def KA.has (κ : KA) (a : Addr) : Prop := some a ∈ κ.cs ∨ a ∈ κ.gh

/-- the written part, the addresses of classes and defs by number -/
structure Gc where
  K : PySem.W.Frag
  cls : Nat → Addr

/-- o stands at a, and a is no cell -/
def At (κ : KA) (H : Hp) (a : Addr) (o : HO) : Prop := H a = some o ∧ ¬ κ.has a
def FrL (g : Gc) (κ : KA) (H : Hp) (a : Addr) (vs : List V) : Prop :=
  At κ H a (.lst vs) ∨ (∃ ob, At κ H a (.frz ob (.lst vs))) ∨
    ∃ (o : Obj) (its : Array Value) (n : Nat), g.K.lookup a = some o ∧ o.cls = .type "list" ∧ o.dict = none ∧ o.data = .seq its n ∧ its.size ≤ sizeLine ∧ Vals vs its.toList
def FrT (g : Gc) (κ : KA) (H : Hp) (a : Addr) (vs : List V) : Prop :=
  (∃ ob : Obj, ob.dict = none ∧ At κ H a (.frz ob (.tup vs))) ∨
    ∃ (o : Obj) (its : Array Value) (n : Nat), g.K.lookup a = some o ∧ o.cls = .type "tuple" ∧ o.dict = none ∧ o.data = .seq its n ∧ its.size ≤ sizeLine ∧ Vals vs its.toList
theorem FrL.sq {g : Gc} {κ : KA} {H : Hp} {a : Addr} {vs : List V} (h : FrL g κ H a vs) : SqL g.K H a vs := by
  rcases h with h | ⟨ob, h⟩ | h
  · exact .inl (.inl h.1)
  · exact .inl (.inr ⟨ob, h.1⟩)
  · exact .inr h
theorem FrT.sq {g : Gc} {κ : KA} {H : Hp} {a : Addr} {vs : List V} (h : FrT g κ H a vs) : SqT g.K H a vs := by
  rcases h with ⟨ob, _, h⟩ | ⟨o, its, n, h1, h2, _, h3⟩
  · exact .inl (.inr ⟨ob, h.1⟩)
  · exact .inr ⟨o, its, n, h1, h2, h3⟩

mutual
/-- the value v stands for the data d -/
def Rel (g : Gc) (κ : KA) (H : Hp) : DV → V → Prop
  | .non, v => v = .non
  | .bl b, v => v = .bl b
  | .int i, v => v = .int i
  | .str x, v => v = .str x
  | .ty t, v => v = .ty t.name
  | .gl n, v => v = .ref (g.cls n)
  | .tup xs, v => ∃ a vs, v = .ref a ∧ FrT g κ H a vs ∧ RelL g κ H xs vs
  | .lst xs, v => ∃ a vs, v = .ref a ∧ At κ H a (.lst vs) ∧ RelL g κ H xs vs
  | .scr xs, v => ∃ a vs, v = .ref a ∧ FrL g κ H a vs ∧ RelL g κ H xs vs
  | .dct ks xs, v => ∃ a vs, v = .ref a ∧ At κ H a (.dK (ks.zip vs)) ∧ ks.length = vs.length ∧ RelL g κ H xs vs
  | .cell i, v => i < κ.cs.length ∧ ∀ a, κ.cs[i]? = some (some a) → v = .ref a
  | .obj c ns xs, v => ∃ a dx vs, v = .ref a ∧ At κ H a (.ins (g.cls c) dx (ns.zip vs)) ∧ ns.length = vs.length ∧ RelL g κ H xs vs
def RelL (g : Gc) (κ : KA) (H : Hp) : List DV → List V → Prop
  | [], vs => vs = []
  | x :: xs, vs => ∃ v r, vs = v :: r ∧ Rel g κ H x v ∧ RelL g κ H xs r
end

/-- a cell's content -/
def RelC (g : Gc) (κ : KA) (H : Hp) : CO → Option Addr → Prop
  | .dead, a => a = none
  | .lst xs, a => ∃ p vs, a = some p ∧ H p = some (.lst vs) ∧ RelL g κ H xs vs
  | .ins c ns xs, a => ∃ p dx vs, a = some p ∧ H p = some (.ins (g.cls c) dx (ns.zip vs)) ∧ ns.length = vs.length ∧ RelL g κ H xs vs

structure StoOk (g : Gc) (κ : KA) (H : Hp) (μ : Sto) : Prop where
  len : κ.cs.length = μ.length
  inj : ∀ (i j : Nat) (a : Addr), κ.cs[i]? = some (some a) → κ.cs[j]? = some (some a) → i = j
  at_ : ∀ (i : Nat) (c : CO), μ[i]? = some c → ∃ a, κ.cs[i]? = some a ∧ RelC g κ H c a
  gst : ∀ a ∈ κ.gh, (∃ o, H a = some o) ∧ some a ∉ κ.cs

/-- what may have come to pass: what is frozen stays, cells may die, new ones may come -/
structure Ext0 (κ : KA) (H : Hp) (κ' : KA) (H' : Hp) : Prop where
  keep : ∀ a o, H a = some o → ¬ κ.has a → H' a = some o
  sep : ∀ a o, H a = some o → ¬ κ.has a → ¬ κ'.has a
  len : κ.cs.length ≤ κ'.cs.length
  old : ∀ (i : Nat) (a : Addr), i < κ.cs.length → κ'.cs[i]? = some (some a) → κ.cs[i]? = some (some a)
structure Ext (κ : KA) (H : Hp) (κ' : KA) (H' : Hp) : Prop extends Ext0 κ H κ' H' where
  ghs : κ'.gh = κ.gh
  ghv : ∀ a ∈ κ.gh, H' a = H a

theorem Ext.refl {κ : KA} {H : Hp} : Ext κ H κ H := ⟨⟨fun _ _ h _ => h, fun _ _ _ h => h, Nat.le_refl _, fun _ _ _ h => h⟩, rfl, fun _ _ => rfl⟩
theorem Ext0.trans {κ κ1 κ2 : KA} {H H1 H2 : Hp} (a : Ext0 κ H κ1 H1) (b : Ext0 κ1 H1 κ2 H2) : Ext0 κ H κ2 H2 where
  keep := fun x o h n => b.keep x o (a.keep x o h n) (a.sep x o h n)
  sep := fun x o h n => b.sep x o (a.keep x o h n) (a.sep x o h n)
  len := Nat.le_trans a.len b.len
  old := fun i x h e => a.old i x h (b.old i x (Nat.lt_of_lt_of_le h a.len) e)
theorem Ext.trans {κ κ1 κ2 : KA} {H H1 H2 : Hp} (a : Ext κ H κ1 H1) (b : Ext κ1 H1 κ2 H2) : Ext κ H κ2 H2 :=
  ⟨a.toExt0.trans b.toExt0, b.ghs.trans a.ghs, fun x hx => (b.ghv x (by rw [a.ghs]; exact hx)).trans (a.ghv x hx)⟩
theorem Ext0.at {κ κ1 : KA} {H H1 : Hp} (e : Ext0 κ H κ1 H1) {a : Addr} {o : HO} (h : At κ H a o) : At κ1 H1 a o := ⟨e.keep a o h.1 h.2, e.sep a o h.1 h.2⟩
theorem FrL.ext0 {g : Gc} {κ κ1 : KA} {H H1 : Hp} {a : Addr} {vs : List V} (e : Ext0 κ H κ1 H1) (h : FrL g κ H a vs) : FrL g κ1 H1 a vs := by
  rcases h with h | ⟨ob, h⟩ | h
  · exact .inl (e.at h)
  · exact .inr (.inl ⟨ob, e.at h⟩)
  · exact .inr (.inr h)
theorem FrT.ext0 {g : Gc} {κ κ1 : KA} {H H1 : Hp} {a : Addr} {vs : List V} (e : Ext0 κ H κ1 H1) (h : FrT g κ H a vs) : FrT g κ1 H1 a vs := by
  rcases h with ⟨ob, d, h⟩ | h
  · exact .inl ⟨ob, d, e.at h⟩
  · exact .inr h

section
variable {g : Gc} {κ κ1 : KA} {H H1 : Hp}
mutual
theorem Rel.ext0 (e : Ext0 κ H κ1 H1) : ∀ {d : DV} {v : V}, Rel g κ H d v → Rel g κ1 H1 d v
  | .non, _, h => by simpa only [Rel] using h
  | .bl _, _, h => by simpa only [Rel] using h
  | .int _, _, h => by simpa only [Rel] using h
  | .str _, _, h => by simpa only [Rel] using h
  | .ty _, _, h => by simpa only [Rel] using h
  | .gl _, _, h => by simpa only [Rel] using h
  | .tup xs, v, h => by
    simp only [Rel] at h ⊢
    obtain ⟨a, vs, h1, h2, h3⟩ := h
    exact ⟨a, vs, h1, h2.ext0 e, RelL.ext0 e h3⟩
  | .lst xs, v, h => by
    simp only [Rel] at h ⊢
    obtain ⟨a, vs, h1, h2, h3⟩ := h
    exact ⟨a, vs, h1, e.at h2, RelL.ext0 e h3⟩
  | .scr xs, v, h => by
    simp only [Rel] at h ⊢
    obtain ⟨a, vs, h1, h2, h3⟩ := h
    exact ⟨a, vs, h1, h2.ext0 e, RelL.ext0 e h3⟩
  | .dct ks xs, v, h => by
    simp only [Rel] at h ⊢
    obtain ⟨a, vs, h1, h2, hl, h3⟩ := h
    exact ⟨a, vs, h1, e.at h2, hl, RelL.ext0 e h3⟩
  | .cell i, v, h => by
    simp only [Rel] at h ⊢
    exact ⟨Nat.lt_of_lt_of_le h.1 e.len, fun a ha => h.2 a (e.old i a h.1 ha)⟩
  | .obj c ns xs, v, h => by
    simp only [Rel] at h ⊢
    obtain ⟨a, dx, vs, h1, h2, hl, h3⟩ := h
    exact ⟨a, dx, vs, h1, e.at h2, hl, RelL.ext0 e h3⟩
theorem RelL.ext0 (e : Ext0 κ H κ1 H1) : ∀ {xs : List DV} {vs : List V}, RelL g κ H xs vs → RelL g κ1 H1 xs vs
  | [], _, h => by simpa only [RelL] using h
  | x :: xs, vs, h => by
    simp only [RelL] at h ⊢
    obtain ⟨v, r, h1, h2, h3⟩ := h
    exact ⟨v, r, h1, Rel.ext0 e h2, RelL.ext0 e h3⟩
end
end
theorem FrL.ext {g : Gc} {κ κ1 : KA} {H H1 : Hp} {a : Addr} {vs : List V} (e : Ext κ H κ1 H1) (h : FrL g κ H a vs) : FrL g κ1 H1 a vs := h.ext0 e.toExt0
theorem FrT.ext {g : Gc} {κ κ1 : KA} {H H1 : Hp} {a : Addr} {vs : List V} (e : Ext κ H κ1 H1) (h : FrT g κ H a vs) : FrT g κ1 H1 a vs := h.ext0 e.toExt0
theorem Rel.ext {g : Gc} {κ κ1 : KA} {H H1 : Hp} {d : DV} {v : V} (e : Ext κ H κ1 H1) (h : Rel g κ H d v) : Rel g κ1 H1 d v := h.ext0 e.toExt0
theorem RelL.ext {g : Gc} {κ κ1 : KA} {H H1 : Hp} {d : List DV} {v : List V} (e : Ext κ H κ1 H1) (h : RelL g κ H d v) : RelL g κ1 H1 d v := h.ext0 e.toExt0
theorem RelL.length {g : Gc} {κ : KA} {H : Hp} : ∀ {xs : List DV} {vs : List V}, RelL g κ H xs vs → xs.length = vs.length
  | [], _, h => by simp only [RelL] at h; subst h; rfl
  | x :: xs, vs, h => by
    simp only [RelL] at h
    obtain ⟨v, r, h1, h2, h3⟩ := h
    subst h1
    simp [RelL.length h3]
theorem RelL.cons {g : Gc} {κ : KA} {H : Hp} {x : DV} {xs : List DV} {v : V} {vs : List V} (a : Rel g κ H x v) (b : RelL g κ H xs vs) : RelL g κ H (x :: xs) (v :: vs) := by
  simp only [RelL]; exact ⟨v, vs, rfl, a, b⟩
theorem RelL.nil {g : Gc} {κ : KA} {H : Hp} : RelL g κ H [] [] := by simp only [RelL]
theorem RelL.of_cons {g : Gc} {κ : KA} {H : Hp} {x : DV} {xs : List DV} {vs : List V} (h : RelL g κ H (x :: xs) vs) : ∃ v r, vs = v :: r ∧ Rel g κ H x v ∧ RelL g κ H xs r := by
  simpa only [RelL] using h
theorem RelL.of_nil {g : Gc} {κ : KA} {H : Hp} {vs : List V} (h : RelL g κ H [] vs) : vs = [] := by simpa only [RelL] using h
theorem RelL.append {g : Gc} {κ : KA} {H : Hp} : ∀ {xs ys : List DV} {vs ws : List V}, RelL g κ H xs vs → RelL g κ H ys ws → RelL g κ H (xs ++ ys) (vs ++ ws)
  | [], _, _, _, a, b => by cases a.of_nil; exact b
  | x :: xs, _, _, _, a, b => by
    obtain ⟨v, r, rfl, h1, h2⟩ := a.of_cons
    exact (RelL.cons h1 (RelL.append h2 b))
theorem RelL.get {g : Gc} {κ : KA} {H : Hp} : ∀ {xs : List DV} {vs : List V} {i : Nat} {d : DV}, RelL g κ H xs vs → xs[i]? = some d → ∃ v, vs[i]? = some v ∧ Rel g κ H d v
  | [], _, _, _, _, e => by simp at e
  | x :: xs, _, 0, d, a, e => by
    obtain ⟨v, r, rfl, h1, h2⟩ := a.of_cons
    simp at e; subst e; exact ⟨v, rfl, h1⟩
  | x :: xs, _, i + 1, d, a, e => by
    obtain ⟨v, r, rfl, h1, h2⟩ := a.of_cons
    obtain ⟨w, h3, h4⟩ := RelL.get (i := i) h2 (by simpa using e)
    exact ⟨w, by simpa using h3, h4⟩
theorem RelL.get' {g : Gc} {κ : KA} {H : Hp} : ∀ {xs : List DV} {vs : List V} {i : Nat} {v : V}, RelL g κ H xs vs → vs[i]? = some v → ∃ d, xs[i]? = some d ∧ Rel g κ H d v := fun {xs vs i v} h e => by
  have hl := h.length
  have hi : i < xs.length := by rw [hl]; exact (List.getElem?_eq_some_iff.mp e).1
  obtain ⟨w, h1, h2⟩ := h.get (List.getElem?_eq_getElem hi)
  rw [e] at h1; cases h1
  exact ⟨_, List.getElem?_eq_getElem hi, h2⟩
theorem RelL.set {g : Gc} {κ : KA} {H : Hp} {d : DV} {v : V} (r : Rel g κ H d v) : ∀ {xs : List DV} {vs : List V} (i : Nat), RelL g κ H xs vs → RelL g κ H (xs.set i d) (vs.set i v)
  | [], _, _, a => by cases a.of_nil; exact a
  | x :: xs, _, 0, a => by
    obtain ⟨v', r', rfl, h1, h2⟩ := a.of_cons
    exact RelL.cons r h2
  | x :: xs, _, i + 1, a => by
    obtain ⟨v', r', rfl, h1, h2⟩ := a.of_cons
    exact RelL.cons h1 (RelL.set r i h2)
theorem RelL.take {g : Gc} {κ : KA} {H : Hp} : ∀ {xs : List DV} {vs : List V} (n : Nat), RelL g κ H xs vs → RelL g κ H (xs.take n) (vs.take n)
  | xs, vs, 0, a => by simp [RelL]
  | [], _, n + 1, a => by cases a.of_nil; simp [RelL]
  | x :: xs, _, n + 1, a => by
    obtain ⟨v', r', rfl, h1, h2⟩ := a.of_cons
    exact RelL.cons h1 (RelL.take n h2)
theorem RelL.drop {g : Gc} {κ : KA} {H : Hp} : ∀ {xs : List DV} {vs : List V} (n : Nat), RelL g κ H xs vs → RelL g κ H (xs.drop n) (vs.drop n)
  | xs, vs, 0, a => a
  | [], _, n + 1, a => by cases a.of_nil; simp [RelL]
  | x :: xs, _, n + 1, a => by
    obtain ⟨v', r', rfl, h1, h2⟩ := a.of_cons
    exact RelL.drop n h2
theorem RelL.ints {g : Gc} {κ : KA} {H : Hp} : ∀ (ns : List Int), RelL g κ H (ns.map DV.int) (ns.map V.int)
  | [] => RelL.nil
  | n :: ns => RelL.cons (by simp [Rel]) (RelL.ints ns)

theorem RelC.ext0 {g : Gc} {κ κ1 : KA} {H H1 : Hp} (e : Ext0 κ H κ1 H1) {c : CO} {a : Option Addr} (k : ∀ p, a = some p → H1 p = H p) (h : RelC g κ H c a) : RelC g κ1 H1 c a := by
  cases c with
  | dead => exact h
  | lst xs =>
    obtain ⟨p, vs, rfl, h1, h2⟩ := h
    exact ⟨p, vs, rfl, (k p rfl).trans h1, h2.ext0 e⟩
  | ins c ns xs =>
    obtain ⟨p, dx, vs, rfl, h1, hl, h2⟩ := h
    exact ⟨p, dx, vs, rfl, (k p rfl).trans h1, hl, h2.ext0 e⟩
/-- a live cell stands in H -/
theorem StoOk.live {g : Gc} {κ : KA} {H : Hp} {μ : Sto} (s : StoOk g κ H μ) {i : Nat} {p : Addr} (h : κ.cs[i]? = some (some p)) : ∃ o, H p = some o := by
  have hi : i < μ.length := by rw [← s.len]; exact (List.getElem?_eq_some_iff.mp h).1
  obtain ⟨a, h1, h2⟩ := s.at_ i _ (List.getElem?_eq_getElem hi)
  rw [h] at h1; cases h1
  revert h2
  cases μ[i] with
  | dead => intro h2; exact nomatch h2
  | lst xs => intro ⟨q, vs, e, h3, _⟩; cases e; exact ⟨_, h3⟩
  | ins c ns xs => intro ⟨q, dx, vs, e, h3, _⟩; cases e; exact ⟨_, h3⟩
theorem StoOk.fresh {g : Gc} {κ : KA} {H : Hp} {μ : Sto} (s : StoOk g κ H μ) {p : Addr} (h : H p = none) : ¬ κ.has p := fun m => by
  rcases m with m | m
  · obtain ⟨i, hi⟩ := List.getElem?_of_mem m
    obtain ⟨o, ho⟩ := s.live hi
    rw [h] at ho; cases ho
  · obtain ⟨⟨o, ho⟩, _⟩ := s.gst p m
    rw [h] at ho; cases ho

/-- a new object that is no cell -/
theorem Ext0.new {κ : KA} {H : Hp} {p : Addr} {o : HO} (h : H p = none) : Ext0 κ H κ (upd H p o) :=
  ⟨fun a o' ha _ => by rw [upd_ne (ne_of_none ha h)]; exact ha, fun _ _ _ n => n, Nat.le_refl _, fun _ _ _ e => e⟩
theorem Ext.new {g : Gc} {κ : KA} {H : Hp} {μ : Sto} {p : Addr} {o : HO} (s : StoOk g κ H μ) (h : H p = none) : Ext κ H κ (upd H p o) :=
  ⟨Ext0.new h, rfl, fun a ha => by obtain ⟨⟨u, hu⟩, _⟩ := s.gst a ha; exact upd_ne (ne_of_none hu h)⟩
theorem StoOk.new {g : Gc} {κ : KA} {H : Hp} {μ : Sto} {p : Addr} {o : HO} (s : StoOk g κ H μ) (h : H p = none) : StoOk g κ (upd H p o) μ :=
  ⟨s.len, s.inj, fun i c hc => by
    obtain ⟨a, h1, h2⟩ := s.at_ i c hc
    refine ⟨a, h1, h2.ext0 (Ext0.new h) fun q hq => ?_⟩
    subst hq
    obtain ⟨o', ho'⟩ := s.live h1
    exact upd_ne (ne_of_none ho' h), fun a ha => by
    obtain ⟨⟨u, hu⟩, hn⟩ := s.gst a ha
    exact ⟨⟨u, by rw [upd_ne (ne_of_none hu h)]; exact hu⟩, hn⟩⟩
/-- a new cell -/
def KA.more (κ : KA) (p : Addr) : KA := ⟨κ.cs ++ [some p], κ.gh⟩
theorem Ext.newCell {g : Gc} {κ : KA} {H : Hp} {μ : Sto} {p : Addr} {o : HO} (s : StoOk g κ H μ) (h : H p = none) : Ext κ H (κ.more p) (upd H p o) where
  keep := fun a o' ha _ => by rw [upd_ne (ne_of_none ha h)]; exact ha
  sep := fun a o' ha n m => by
    rcases m with m | m
    · rcases List.mem_append.mp m with m | m
      · exact n (.inl m)
      · have : a = p := by simpa using m
        rw [this, h] at ha; cases ha
    · exact n (.inr m)
  len := by simp [KA.more]
  old := fun i a hi e => by
    have e : (κ.cs ++ [some p])[i]? = some (some a) := e
    rwa [List.getElem?_append_left hi] at e
  ghs := rfl
  ghv := fun a ha => by obtain ⟨⟨u, hu⟩, _⟩ := s.gst a ha; exact upd_ne (ne_of_none hu h)
theorem StoOk.newCell {g : Gc} {κ : KA} {H : Hp} {μ : Sto} {p : Addr} {o : HO} {c : CO} (s : StoOk g κ H μ) (h : H p = none) (hc : RelC g (κ.more p) (upd H p o) c (some p)) : StoOk g (κ.more p) (upd H p o) (μ ++ [c]) where
  len := by simp [KA.more, s.len]
  inj := fun i j a hi hj => by
    have key : ∀ (i : Nat), (κ.cs ++ [some p])[i]? = some (some a) → (i < κ.cs.length ∧ κ.cs[i]? = some (some a)) ∨ (i = κ.cs.length ∧ a = p) := fun i hi => by
      by_cases hl : i < κ.cs.length
      · rw [List.getElem?_append_left hl] at hi; exact .inl ⟨hl, hi⟩
      · rw [List.getElem?_append_right (by omega)] at hi
        have : i - κ.cs.length = 0 := by
          have := (List.getElem?_eq_some_iff.mp hi).1
          simp at this; omega
        rw [this] at hi
        have e : p = a := by simpa using hi
        exact .inr ⟨by omega, e.symm⟩
    have nk : ∀ i : Nat, κ.cs[i]? = some (some p) → False := fun i hi => s.fresh h (.inl (List.mem_of_getElem? hi))
    rcases key i hi with ⟨h1, h2⟩ | ⟨h1, h2⟩ <;> rcases key j hj with ⟨h3, h4⟩ | ⟨h3, h4⟩
    · exact s.inj i j a h2 h4
    · rw [h4] at h2; exact (nk _ h2).elim
    · rw [h2] at h4; exact (nk _ h4).elim
    · omega
  at_ := fun i c' hc' => by
    by_cases hl : i < μ.length
    · rw [List.getElem?_append_left hl] at hc'
      obtain ⟨a, h1, h2⟩ := s.at_ i c' hc'
      refine ⟨a, ?_, h2.ext0 (Ext.newCell s h).toExt0 fun q hq => ?_⟩
      · show (κ.cs ++ [some p])[i]? = some a
        rw [List.getElem?_append_left (by rw [s.len]; exact hl)]; exact h1
      · subst hq
        obtain ⟨o', ho'⟩ := s.live h1
        exact upd_ne (ne_of_none ho' h)
    · rw [List.getElem?_append_right (by omega)] at hc'
      have e0 : i - μ.length = 0 := by
        have := (List.getElem?_eq_some_iff.mp hc').1
        simp at this; omega
      rw [e0] at hc'
      have ec : c = c' := by simpa using hc'
      subst ec
      refine ⟨some p, ?_, hc⟩
      show (κ.cs ++ [some p])[i]? = some (some p)
      rw [List.getElem?_append_right (by rw [s.len]; omega), s.len, e0]; rfl
  gst := fun a ha => by
    obtain ⟨⟨u, hu⟩, hn⟩ := s.gst a ha
    refine ⟨⟨u, by rw [upd_ne (ne_of_none hu h)]; exact hu⟩, fun m => ?_⟩
    rcases List.mem_append.mp m with m | m
    · exact hn m
    · have : a = p := by simpa using m
      rw [this, h] at hu; cases hu
/-- a cell is written -/
theorem Ext0.write {κ : KA} {H : Hp} {p : Addr} {o : HO} (h : κ.has p) : Ext0 κ H κ (upd H p o) :=
  ⟨fun a o' ha n => by rw [upd_ne (fun e => n (by rw [e]; exact h))]; exact ha, fun _ _ _ n => n, Nat.le_refl _, fun _ _ _ e => e⟩
theorem Ext.write {g : Gc} {κ : KA} {H : Hp} {μ : Sto} {i : Nat} {p : Addr} {o : HO} (s : StoOk g κ H μ) (h : κ.cs[i]? = some (some p)) : Ext κ H κ (upd H p o) :=
  ⟨Ext0.write (.inl (List.mem_of_getElem? h)), rfl, fun a ha => upd_ne fun e => (s.gst a ha).2 (by rw [e]; exact List.mem_of_getElem? h)⟩
theorem StoOk.write {g : Gc} {κ : KA} {H : Hp} {μ : Sto} {i : Nat} {p : Addr} {o : HO} {c : CO} (s : StoOk g κ H μ) (h : κ.cs[i]? = some (some p)) (hc : RelC g κ (upd H p o) c (some p)) : StoOk g κ (upd H p o) (μ.set i c) :=
  ⟨by simp [s.len], s.inj, fun j c' hc' => by
    by_cases hj : j = i
    · subst hj
      have hl : j < μ.length := by rw [← s.len]; exact (List.getElem?_eq_some_iff.mp h).1
      rw [List.getElem?_set_self hl] at hc'
      cases hc'
      exact ⟨some p, h, hc⟩
    · rw [List.getElem?_set_ne (fun e => hj e.symm)] at hc'
      obtain ⟨a, h1, h2⟩ := s.at_ j c' hc'
      refine ⟨a, h1, h2.ext0 (Ext.write s h).toExt0 fun q hq => ?_⟩
      subst hq
      exact upd_ne fun e => hj (s.inj j i q h1 (by rw [e]; exact h)), fun a ha => by
    obtain ⟨⟨u, hu⟩, hn⟩ := s.gst a ha
    exact ⟨⟨u, by rw [upd_ne (fun e => hn (by rw [e]; exact List.mem_of_getElem? h))]; exact hu⟩, hn⟩⟩
/-- a cell dies -/
def KA.kill (κ : KA) (i : Nat) : KA := ⟨κ.cs.set i none, κ.gh⟩
theorem Ext.kill {κ : KA} {H : Hp} {i : Nat} : Ext κ H (κ.kill i) H where
  keep := fun a o' ha n => ha
  sep := fun a o h n m => by
    rcases m with m | m
    · rcases List.mem_or_eq_of_mem_set m with m | m
      · exact n (.inl m)
      · exact nomatch m
    · exact n (.inr m)
  len := by simp [KA.kill]
  old := fun j a hj e => by
    have e : (κ.cs.set i none)[j]? = some (some a) := e
    by_cases hji : j = i
    · subst hji; rw [List.getElem?_set_self hj] at e; cases e
    · rwa [List.getElem?_set_ne (fun e => hji e.symm)] at e
  ghs := rfl
  ghv := fun _ _ => rfl
theorem StoOk.kill {g : Gc} {κ : KA} {H : Hp} {μ : Sto} {i : Nat} (s : StoOk g κ H μ) : StoOk g (κ.kill i) H (μ.set i .dead) where
  len := by simp [s.len, KA.kill]
  inj := fun j k a hj hk => s.inj j k a (Ext.kill (H := H).old j a (by have := (List.getElem?_eq_some_iff.mp hj).1; simpa [KA.kill] using this) hj) (Ext.kill (H := H).old k a (by have := (List.getElem?_eq_some_iff.mp hk).1; simpa [KA.kill] using this) hk)
  at_ := fun j c' hc' => by
    show ∃ a, (κ.cs.set i none)[j]? = some a ∧ _
    by_cases hj : j = i
    · subst hj
      have hl : j < μ.length := by have := (List.getElem?_eq_some_iff.mp hc').1; simpa using this
      rw [List.getElem?_set_self hl] at hc'
      cases hc'
      exact ⟨none, by rw [List.getElem?_set_self (by rw [s.len]; exact hl)], rfl⟩
    · rw [List.getElem?_set_ne (fun e => hj e.symm)] at hc'
      obtain ⟨a, h1, h2⟩ := s.at_ j c' hc'
      exact ⟨a, by rw [List.getElem?_set_ne (fun e => hj e.symm)]; exact h1, h2.ext0 Ext.kill.toExt0 fun _ _ => rfl⟩
  gst := fun a ha => by
    obtain ⟨hu, hn⟩ := s.gst a ha
    refine ⟨hu, fun m => ?_⟩
    rcases List.mem_or_eq_of_mem_set m with m | m
    · exact hn m
    · exact nomatch m
/-- a frozen cell's list stands apart from all cells -/
theorem StoOk.frozen {g : Gc} {κ : KA} {H : Hp} {μ : Sto} (s : StoOk g κ H μ) {i : Nat} {p : Addr} (h : κ.cs[i]? = some (some p)) : ¬ (κ.kill i).has p := fun m => by
  rcases m with m | m
  · obtain ⟨j, hj⟩ := List.getElem?_of_mem m
    have hj : (κ.cs.set i none)[j]? = some (some p) := hj
    by_cases hji : j = i
    · subst hji
      have hl : j < κ.cs.length := (List.getElem?_eq_some_iff.mp h).1
      rw [List.getElem?_set_self hl] at hj; cases hj
    · rw [List.getElem?_set_ne (fun e => hji e.symm)] at hj
      exact hji (s.inj j i p hj h)
  · exact (s.gst p m).2 (List.mem_of_getElem? h)
/-- a hidden list comes, changes, is known at last -/
def KA.hide (κ : KA) (p : Addr) : KA := ⟨κ.cs, p :: κ.gh⟩
theorem Ext0.hide {κ : KA} {H : Hp} {p : Addr} {o : HO} (h : H p = none) : Ext0 κ H (κ.hide p) (upd H p o) where
  keep := fun a o' ha _ => by rw [upd_ne (ne_of_none ha h)]; exact ha
  sep := fun a o' ha n m => by
    rcases m with m | m
    · exact n (.inl m)
    · rcases List.mem_cons.mp m with m | m
      · rw [m, h] at ha; cases ha
      · exact n (.inr m)
  len := Nat.le_refl _
  old := fun _ _ _ e => e
theorem StoOk.hide {g : Gc} {κ : KA} {H : Hp} {μ : Sto} {p : Addr} {o : HO} (s : StoOk g κ H μ) (h : H p = none) : StoOk g (κ.hide p) (upd H p o) μ where
  len := s.len
  inj := s.inj
  at_ := fun i c hc => by
    obtain ⟨a, h1, h2⟩ := s.at_ i c hc
    refine ⟨a, h1, h2.ext0 (Ext0.hide h) fun q hq => ?_⟩
    subst hq
    obtain ⟨o', ho'⟩ := s.live h1
    exact upd_ne (ne_of_none ho' h)
  gst := fun a ha => by
    rcases List.mem_cons.mp ha with e | ha
    · subst e
      exact ⟨⟨o, upd_same⟩, fun m => s.fresh h (.inl m)⟩
    · obtain ⟨⟨u, hu⟩, hn⟩ := s.gst a ha
      exact ⟨⟨u, by rw [upd_ne (ne_of_none hu h)]; exact hu⟩, hn⟩
theorem StoOk.fill {g : Gc} {κ : KA} {H : Hp} {μ : Sto} {p : Addr} {o : HO} (s : StoOk g κ H μ) (h : p ∈ κ.gh) : StoOk g κ (upd H p o) μ where
  len := s.len
  inj := s.inj
  at_ := fun i c hc => by
    obtain ⟨a, h1, h2⟩ := s.at_ i c hc
    refine ⟨a, h1, h2.ext0 (Ext0.write (.inr h)) fun q hq => ?_⟩
    subst hq
    exact upd_ne fun e => (s.gst p h).2 (by rw [← e]; exact List.mem_of_getElem? h1)
  gst := fun a ha => by
    obtain ⟨⟨u, hu⟩, hn⟩ := s.gst a ha
    by_cases e : a = p
    · subst e; exact ⟨⟨o, upd_same⟩, hn⟩
    · exact ⟨⟨u, by rw [upd_ne e]; exact hu⟩, hn⟩
theorem Ext0.show' {κ : KA} {H : Hp} {p : Addr} : Ext0 (κ.hide p) H κ H where
  keep := fun _ _ h _ => h
  sep := fun a o h n m => n (m.elim .inl fun m => .inr (List.mem_cons_of_mem _ m))
  len := Nat.le_refl _
  old := fun _ _ _ e => e
theorem StoOk.show' {g : Gc} {κ : KA} {H : Hp} {μ : Sto} {p : Addr} (s : StoOk g (κ.hide p) H μ) : StoOk g κ H μ where
  len := s.len
  inj := s.inj
  at_ := fun i c hc => by
    obtain ⟨a, h1, h2⟩ := s.at_ i c hc
    exact ⟨a, h1, h2.ext0 Ext0.show' fun _ _ => rfl⟩
  gst := fun a ha => s.gst a (List.mem_cons_of_mem _ ha)

/-! ### data below a bound: its cells -/
mutual
def DV.low (n : Nat) : DV → Bool
  | .tup xs => lowL n xs
  | .lst xs => lowL n xs
  | .scr xs => lowL n xs
  | .dct _ xs => lowL n xs
  | .obj _ _ xs => lowL n xs
  | .cell i => decide (i < n)
  | _ => true
def lowL (n : Nat) : List DV → Bool
  | [] => true
  | x :: xs => x.low n && lowL n xs
end
def CO.low (n : Nat) : CO → Bool
  | .dead => true
  | .lst xs => lowL n xs
  | .ins _ _ xs => lowL n xs
mutual
theorem DV.low_mono {m n : Nat} (h : m ≤ n) : ∀ {d : DV}, d.low m = true → d.low n = true
  | .non, _ => rfl
  | .bl _, _ => rfl
  | .int _, _ => rfl
  | .str _, _ => rfl
  | .ty _, _ => rfl
  | .gl _, _ => rfl
  | .tup xs, e => by simp only [DV.low] at e ⊢; exact lowL_mono h e
  | .lst xs, e => by simp only [DV.low] at e ⊢; exact lowL_mono h e
  | .scr xs, e => by simp only [DV.low] at e ⊢; exact lowL_mono h e
  | .dct _ xs, e => by simp only [DV.low] at e ⊢; exact lowL_mono h e
  | .obj _ _ xs, e => by simp only [DV.low] at e ⊢; exact lowL_mono h e
  | .cell i, e => by simp only [DV.low, decide_eq_true_eq] at e ⊢; omega
theorem lowL_mono {m n : Nat} (h : m ≤ n) : ∀ {xs : List DV}, lowL m xs = true → lowL n xs = true
  | [], _ => rfl
  | x :: xs, e => by
    simp only [lowL, Bool.and_eq_true] at e ⊢
    exact ⟨DV.low_mono h e.1, lowL_mono h e.2⟩
end
section
variable {g : Gc} {κ : KA} {H : Hp} {n : Nat}
def KA.cut (κ : KA) (n : Nat) : KA := ⟨κ.cs.take n, κ.gh⟩
theorem mem_take_of {p : Addr} (h : ¬ κ.has p) : ¬ (κ.cut n).has p := fun m => h (m.elim (fun m => .inl (List.mem_of_mem_take m)) .inr)
theorem At.cut {a : Addr} {o : HO} (h : At κ H a o) : At (κ.cut n) H a o := ⟨h.1, mem_take_of h.2⟩
mutual
theorem Rel.cut (hn : n ≤ κ.cs.length) : ∀ {d : DV} {v : V}, Rel g κ H d v → d.low n = true → Rel g (κ.cut n) H d v
  | .non, _, h, _ => by simpa only [Rel] using h
  | .bl _, _, h, _ => by simpa only [Rel] using h
  | .int _, _, h, _ => by simpa only [Rel] using h
  | .str _, _, h, _ => by simpa only [Rel] using h
  | .ty _, _, h, _ => by simpa only [Rel] using h
  | .gl _, _, h, _ => by simpa only [Rel] using h
  | .tup xs, v, h, b => by
    simp only [Rel] at h ⊢
    simp only [DV.low] at b
    obtain ⟨a, vs, h1, h2, h3⟩ := h
    refine ⟨a, vs, h1, ?_, RelL.cut hn h3 b⟩
    rcases h2 with ⟨ob, d, h2⟩ | h2
    · exact .inl ⟨ob, d, h2.cut⟩
    · exact .inr h2
  | .lst xs, v, h, b => by
    simp only [Rel] at h ⊢
    simp only [DV.low] at b
    obtain ⟨a, vs, h1, h2, h3⟩ := h
    exact ⟨a, vs, h1, h2.cut, RelL.cut hn h3 b⟩
  | .scr xs, v, h, b => by
    simp only [Rel] at h ⊢
    simp only [DV.low] at b
    obtain ⟨a, vs, h1, h2, h3⟩ := h
    refine ⟨a, vs, h1, ?_, RelL.cut hn h3 b⟩
    rcases h2 with h2 | ⟨ob, h2⟩ | h2
    · exact .inl h2.cut
    · exact .inr (.inl ⟨ob, h2.cut⟩)
    · exact .inr (.inr h2)
  | .dct ks xs, v, h, b => by
    simp only [Rel] at h ⊢
    simp only [DV.low] at b
    obtain ⟨a, vs, h1, h2, hl, h3⟩ := h
    exact ⟨a, vs, h1, h2.cut, hl, RelL.cut hn h3 b⟩
  | .cell i, v, h, b => by
    simp only [Rel] at h ⊢
    simp only [DV.low, decide_eq_true_eq] at b
    refine ⟨by simp [KA.cut]; omega, fun a ha => h.2 a ?_⟩
    have ha : (κ.cs.take n)[i]? = some (some a) := ha
    rwa [List.getElem?_take_of_lt b] at ha
  | .obj c ns xs, v, h, b => by
    simp only [Rel] at h ⊢
    simp only [DV.low] at b
    obtain ⟨a, dx, vs, h1, h2, hl, h3⟩ := h
    exact ⟨a, dx, vs, h1, h2.cut, hl, RelL.cut hn h3 b⟩
theorem RelL.cut (hn : n ≤ κ.cs.length) : ∀ {xs : List DV} {vs : List V}, RelL g κ H xs vs → lowL n xs = true → RelL g (κ.cut n) H xs vs
  | [], _, h, _ => by simpa only [RelL] using h
  | x :: xs, vs, h, b => by
    simp only [RelL] at h ⊢
    simp only [lowL, Bool.and_eq_true] at b
    obtain ⟨v, r, h1, h2, h3⟩ := h
    exact ⟨v, r, h1, Rel.cut hn h2 b.1, RelL.cut hn h3 b.2⟩
end
theorem Ext.cut {κ κ' : KA} {H H' : Hp} (e : Ext κ H κ' H') : Ext κ H (κ'.cut κ.cs.length) H' where
  keep := e.keep
  sep := fun a o h n => mem_take_of (e.sep a o h n)
  len := by have := e.len; simp [KA.cut]; omega
  old := fun i a hi h => e.old i a hi (by
    have h : (κ'.cs.take κ.cs.length)[i]? = some (some a) := h
    rwa [List.getElem?_take_of_lt hi] at h)
  ghs := e.ghs
  ghv := e.ghv
theorem StoOk.cut {μ : Sto} (s : StoOk g κ H μ) (hn : n ≤ κ.cs.length) (hb : ∀ c ∈ μ.take n, c.low n = true) : StoOk g (κ.cut n) H (μ.take n) where
  len := by simp [s.len, KA.cut]
  inj := fun i j a hi hj => by
    have hi : (κ.cs.take n)[i]? = some (some a) := hi
    have hj : (κ.cs.take n)[j]? = some (some a) := hj
    have hli := (List.getElem?_eq_some_iff.mp hi).1
    have hlj := (List.getElem?_eq_some_iff.mp hj).1
    rw [List.length_take] at hli hlj
    rw [List.getElem?_take_of_lt (by omega)] at hi hj
    exact s.inj i j a hi hj
  at_ := fun i c hc => by
    have hli := (List.getElem?_eq_some_iff.mp hc).1
    rw [List.length_take] at hli
    have hm := List.mem_of_getElem? hc
    rw [List.getElem?_take_of_lt (by omega)] at hc
    obtain ⟨a, h1, h2⟩ := s.at_ i c hc
    refine ⟨a, by show (κ.cs.take n)[i]? = some a; rw [List.getElem?_take_of_lt (by omega)]; exact h1, ?_⟩
    have b := hb c hm
    cases c with
    | dead => exact h2
    | lst xs =>
      obtain ⟨p, vs, rfl, h3, h4⟩ := h2
      exact ⟨p, vs, rfl, h3, h4.cut hn b⟩
    | ins c ns xs =>
      obtain ⟨p, dx, vs, rfl, h3, hl, h4⟩ := h2
      exact ⟨p, dx, vs, rfl, h3, hl, h4.cut hn b⟩
  gst := fun a ha => by
    obtain ⟨h1, h2⟩ := s.gst a ha
    exact ⟨h1, fun m => h2 (List.mem_of_mem_take m)⟩
end
end SD

set_option Elab.async false
set_option linter.all false
set_option maxRecDepth 100000
set_option maxHeartbeats 4000000
/-! Tuples told in full (the object without a dict of its own), so that their methods can be called: the rules that make them, the method rule. (To lie between SDa and SDb once FrT is turned.) -/
namespace L2
open PySem PySem.Spec PyProof.Rows
section
variable {X : Cx} {es : List Expr} {t : TA} {pos : Pos}
/-- (e, ..): a new tuple whose object is known -/
def tTupF (t : TA) : TE := fun σ H Q => t σ H fun xs H1 => xs.length ≤ sizeLine ∧ ∀ (p : Addr) (ob : Obj), H1 p = none → ob.dict = none → Q (.ref p) (upd H1 p (.frz ob (.tup xs)))
theorem pe_tupF {k : Nat} (h : PA X es t) : PE X (.Tuple es k pos) (tTupF t) := by
  refine ⟨fun pins s σ H Q I hq => wpAny_Tuple_spliced (thn (h.run pos pins s σ H _ I hq) fun us s1 z => ?_)⟩
  obtain ⟨xs, H1, I1, r, hz, q⟩ := z
  refine ⟨by rw [← r.length]; exact hz, ?_⟩
  have fr : H1 s1.heap.objs.size = none := I1.hok.fresh (Nat.le_refl _)
  have gt : (s1.heap.push { cls := .type "tuple", data := .seq us.toArray }).get? s1.heap.objs.size = some { cls := .type "tuple", data := .seq us.toArray } := Heap.get?_push_size _ rfl
  refine ⟨.ref s1.heap.objs.size, upd H1 s1.heap.objs.size (.frz { cls := .type "tuple", data := .seq us.toArray } (.tup xs)), I1.laid (t' := s1.toks) (fun b u e => Heap.get?_push_of_some _ e) (Nat.le_refl _) ?_, rfl, q _ _ fr rfl⟩
  exact ⟨gt, hz, us, r, _, gt, rfl, _, rfl⟩
/-- a new tuple laid, told in full -/
theorem Inv.tupF {pins : List (Addr × Obj)} {σ : St} {H : Hp} {s : Shared} {xs : List V} {us : List Value} {G : Heap} {tk : Nat} (I : Inv X pins σ H { s with heap := G }) (r : Vals xs us) (hz : xs.length ≤ sizeLine) :
    ∃ ob : Obj, ob.dict = none ∧ H G.objs.size = none ∧ Inv X pins σ (upd H G.objs.size (.frz ob (.tup xs))) { s with heap := G.push { cls := .type "tuple", data := .seq us.toArray }, toks := tk } := by
  have gt : (G.push { cls := .type "tuple", data := .seq us.toArray }).get? G.objs.size = some { cls := .type "tuple", data := .seq us.toArray } := Heap.get?_push_size _ rfl
  exact ⟨{ cls := .type "tuple", data := .seq us.toArray }, rfl, I.hok.fresh (Nat.le_refl _), I.laid (t' := tk) (fun b u e => Heap.get?_push_of_some _ e) (Nat.le_refl _) ⟨gt, hz, us, r, _, gt, rfl, _, rfl⟩⟩
/-- tuple(l), l a list -/
theorem call_tupleF : CallR X (.type "tuple") (fun xs H Q => ∃ p ys, xs = [.ref p] ∧ SqL X.K H p ys ∧ ∀ (l : Addr) (ob : Obj), H l = none → ob.dict = none → Q (.ref l) (upd H l (.frz ob (.tup ys)))) := by
  intro pins s σ H xs us Q I r h
  obtain ⟨p, ys, e, hq, q⟩ := h
  subst e
  obtain ⟨u, rfl, ru⟩ := vals1 r
  cases ru
  obtain ⟨its, rv, pl, hz⟩ := I.list hq
  have e1 := rv.length
  refine call_tuple_list pl.isList (fun G kp => ?_) (by simp only [List.size_toArray]; omega)
  obtain ⟨ob, d, n, J⟩ := Inv.tupF (tk := s.toks) (s := s) (I.kept (t' := s.toks) kp) rv hz
  exact ⟨.ref G.objs.size, _, J, rfl, q _ _ n d⟩
/-- t[a:b], not the whole -/
theorem sl_tupF : SlR X (fun x lo hi H Q => ∃ (a : Addr) (xs : List V), x = .ref a ∧ SqT X.K H a xs ∧ ¬ (HT.sIx xs.length 0 lo = 0 ∧ HT.sIx xs.length xs.length hi = xs.length) ∧
    ∀ (p : Addr) (ob : Obj), H p = none → ob.dict = none → Q (.ref p) (upd H p (.frz ob (.tup (cutV xs lo hi))))) := by
  intro pins s σ H x v vl vu lo hi sl Q I rx hs pl pu h
  obtain ⟨a, xs, e, hx, hw, q⟩ := h
  subst e
  cases rx
  obtain ⟨its, r, ht, hz⟩ := I.tuple hx
  have hl : its.toArray.size = xs.length := (List.size_toArray).trans r.length.symm
  refine ⟨"tuple", _, PyProof.Rows.slot_tuple_getitem.lookup, ht.typeIs, HT.getItem_tuple_cut ht hs pl pu (by rw [hl]; exact hw) ?_ (by rw [hl]; exact hz)⟩
  rw [hl]
  obtain ⟨ob, d, n, J⟩ := Inv.tupF (tk := s.toks) (s := s) I ((r.drop (HT.sIx xs.length 0 lo)).take (HT.sIx xs.length xs.length hi - HT.sIx xs.length 0 lo)) (Nat.le_trans (cutV_length xs lo hi) hz)
  exact ⟨.ref s.heap.objs.size, _, J, rfl, q _ _ n d⟩
/-- t[a:b]; the whole of it is t itself -/
theorem sl_tupFA : SlR X (fun x lo hi H Q => ∃ (a : Addr) (xs : List V), x = .ref a ∧ SqT X.K H a xs ∧ (HT.sIx xs.length 0 lo = 0 ∧ HT.sIx xs.length xs.length hi = xs.length → Q (.ref a) H) ∧
    (¬ (HT.sIx xs.length 0 lo = 0 ∧ HT.sIx xs.length xs.length hi = xs.length) → ∀ (p : Addr) (ob : Obj), H p = none → ob.dict = none → Q (.ref p) (upd H p (.frz ob (.tup (cutV xs lo hi)))))) := by
  intro pins s σ H x v vl vu lo hi sl Q I rx hs pl pu h
  obtain ⟨a, xs, e, hx, q1, q2⟩ := h
  by_cases hw : HT.sIx xs.length 0 lo = 0 ∧ HT.sIx xs.length xs.length hi = xs.length
  · exact sl_tupA pins s σ H x v vl vu lo hi sl Q I rx hs pl pu ⟨a, xs, e, hx, q1, fun n => absurd hw n⟩
  · exact sl_tupF pins s σ H x v vl vu lo hi sl Q I rx hs pl pu ⟨a, xs, e, hx, hw, q2 hw⟩
/-- t + u -/
theorem op_catF : OpR X (binaryOp .Add) (fun x y H Q => ∃ (a b : Addr) (xs ys : List V), x = .ref a ∧ y = .ref b ∧ SqT X.K H a xs ∧ SqT X.K H b ys ∧ xs.length + ys.length ≤ sizeLine ∧ (xs = [] → Q (.ref b) H) ∧ (xs ≠ [] → ys = [] → Q (.ref a) H) ∧
    (xs ≠ [] → ys ≠ [] → ∀ (p : Addr) (ob : Obj), H p = none → ob.dict = none → Q (.ref p) (upd H p (.frz ob (.tup (xs ++ ys)))))) := by
  intro pins s σ H x y v u Q I rx ry h
  obtain ⟨a, b, xs, ys, e1, e2, ha, hb, hz, q0, q1, q2⟩ := h
  by_cases hx : xs = []
  · exact op_catA pins s σ H x y v u Q I rx ry ⟨a, b, xs, ys, e1, e2, ha, hb, hz, q0, q1, fun n => absurd hx n⟩
  · by_cases hy : ys = []
    · exact op_catA pins s σ H x y v u Q I rx ry ⟨a, b, xs, ys, e1, e2, ha, hb, hz, q0, q1, fun _ n => absurd hy n⟩
    · subst e1 e2
      cases rx
      cases ry
      obtain ⟨its, r1, p1, _⟩ := I.tuple ha
      obtain ⟨its2, r2, p2, _⟩ := I.tuple hb
      refine HT.cat_tup p1 p2 (fun z => hx (r1.nil_iff.mp z)) (fun z => absurd (r2.nil_iff.mp z) hy) (fun z => ?_) (by rw [← r1.length, ← r2.length]; exact hz)
      obtain ⟨ob, d, n, J⟩ := Inv.tupF (tk := s.toks) (s := s) I (r1.append r2) (by rw [List.length_append]; exact hz)
      exact ⟨.ref s.heap.objs.size, _, J, rfl, q2 hx hy _ _ n d⟩
/-- t.m(e, ..), t a tuple told in full -/
def TupF (K : PySem.W.Frag) (H : Hp) (a : Addr) (zs : List V) : Prop :=
  (∃ ob : Obj, ob.dict = none ∧ H a = some (.frz ob (.tup zs))) ∨
    ∃ (o : Obj) (its : Array Value) (n : Nat), K.lookup a = some o ∧ o.cls = .type "tuple" ∧ o.dict = none ∧ o.data = .seq its n ∧ its.size ≤ sizeLine ∧ Vals zs its.toList
def tTM (K : PySem.W.Frag) (r : V → List V → Hp → VK → Prop) (to : TE) (ta : TA) : TE := fun σ H Q => to σ H fun x H1 => ∃ (a : Addr) (zs : List V), x = .ref a ∧ TupF K H1 a zs ∧ ta σ H1 fun vs H2 => r x vs H2 Q
theorem pe_tm {id : String} {name : Str} {r : V → List V → Hp → VK → Prop} {o e : Expr} {to : TE} {ta : TA} {apos cpos : Pos} (slot : Slot "tuple" name id) (hty : typeOf (.builtin id) = pure (.type "method_descriptor")) (hm : MtR X id r) (ho : PE X o to) (ha : PA X (e :: es) ta)
    (hb : attributeBase o name X.env (eval o X.env) = eval o X.env := by rfl)
    (hf : ((backTo cpos (starEach (e :: es) X.env)).all (fun x => !x.1) && (backToKw cpos (keywordEach [] X.env)).all (fun x => x.1.isSome) && decide ((e :: es).length + ([] : List Keyword).length + (if ([] : List Keyword).isEmpty then 0 else 1) < 30)) = true := by rfl)
    (hl : (apos.endLine == cpos.line) = true := by rfl) (hs : starEach (e :: es) X.env = (false, eval e X.env) :: starEach es X.env := by rfl) (hp : (backTo cpos (starEach es X.env)).any (·.1) = false := by rfl) :
    PE X (.Call (.Attribute o name apos) (e :: es) [] cpos) (tTM X.K r to ta) := by
  refine ⟨fun pins s σ H Q I h => wpAny_Call_method_late hb hf hl rfl (thn (ho.run pins s σ H _ I h) fun v s1 z => ?_)⟩
  obtain ⟨x, H1, I1, r1, a, zs, ex, hx, q1⟩ := z
  subst ex
  obtain rfl : v = Value.ref a := r1
  obtain ⟨ob, g1, hd, its, tp⟩ : ∃ ob : Obj, s1.heap.get? a = some ob ∧ ob.dict = none ∧ ∃ its, IsTup s1.heap a its := by
    rcases hx with ⟨ob, hd, hx⟩ | ⟨o, its, n, hk, hc, hd, hs, hz, r⟩
    · obtain ⟨g1, z1, its, _, tp⟩ := (show ObjOk X.prog X.w H1 s1.heap a (.frz ob (.tup zs)) from I1.hok a _ hx)
      exact ⟨ob, g1, hd, _, tp⟩
    · exact ⟨o, I1.kIn a o hk, hd, its, ⟨o, I1.kIn a o hk, hc, n, hs⟩⟩
  refine ⟨"tuple", id, PySem.F.plainAttrs_tuple, slot, hty, tp.typeIs, fun b eb => ?_, ?_⟩
  · cases eb
    exact ⟨ob, g1, hd⟩
  · have hA := ha.run cpos pins s1 σ H1 _ I1 q1
    rw [hs] at hA ⊢
    refine Calls.callWith_builtin (by show (false || (backTo cpos (starEach es X.env)).any (·.1)) = false; rw [hp]; rfl) (Calls.evalArgs_plain (thn hA fun us s2 z => ?_))
    obtain ⟨vs, H2, I2, r2, q2⟩ := z
    exact hm pins s2 σ H2 (.ref a) vs (.ref a) us Q I2 rfl r2 q2
/-- isinstance(x, t), t any tuple of classes -/
theorem call_isiS : CallR X (.builtin "isinstance") (fun xs H Q => ∃ (x : V) (tp : Addr) (cs : List V) (t : Value) (ws : List Value) (b : Bool), xs = [x, .ref tp] ∧ SqT X.K H tp cs ∧ Paired ClsV cs ws ∧ TyX X.K H x t ∧ PySem.W.kitAny X.K t ws = some b ∧ Q (.bl b) H) := by
  intro pins s σ H xs us Q I r h
  obtain ⟨x, tp, cs, t, ws, b, rfl, hT, k, ty, e, q⟩ := h
  obtain ⟨u1, u2, rfl, r1, r2⟩ := vals2 r
  cases (show u2 = Value.ref tp from r2)
  obtain ⟨P, Z, p, hx⟩ := kit_of I r1 ty
  obtain ⟨its, rv, ⟨o, h1, h2, n, h3⟩, _⟩ := I.tuple hT
  have e3 := ClsV.all k rv
  subst e3
  obtain ⟨oc, od, dt, sl⟩ := o
  simp only at h2 h3
  subst h2 h3
  exact PySem.W.kia_tup Z I.kIn p h1 e hx fun tk => ⟨.bl b, H, I.tok tk, rfl, q⟩
end
end L2

set_option Elab.async false
set_option linter.all false
set_option maxRecDepth 100000
set_option maxHeartbeats 4000000
/-! SD, second part: results, readings, the rules of expressions. -/
namespace SD
open PySem PySem.Spec PyProof.Rows L2

/-! ### results -/
inductive R (α : Type) where
  | ok (a : α) (μ : Sto)
  | ex (c : Nat) (ns : List Str) (xs : List DV) (μ : Sto)
  | stuck
def R.bind {α β : Type} (r : R α) (k : α → Sto → R β) : R β := match r with
  | .ok a μ => k a μ
  | .ex c ns xs μ => .ex c ns xs μ
  | .stuck => .stuck
def R.of {α : Type} (o : Option α) (μ : Sto) : R α := match o with
  | some a => .ok a μ
  | none => .stuck
def R.ofS {α : Type} (o : Option (α × Sto)) : R α := match o with
  | some (a, μ) => .ok a μ
  | none => .stuck
abbrev En := List (Option DV)
abbrev DE := En → Sto → R DV
abbrev DT := En → Sto → R Bool
abbrev DA := En → Sto → R (List DV)

/-- slots -/
structure RelE (g : Gc) (κ : KA) (H : Hp) (ρ : En) (σ : L2.St) : Prop where
  len : ρ.length = σ.length
  at_ : ∀ (i : Nat) (d : DV), ρ[i]? = some (some d) → ∃ v, σ[i]? = some (some v) ∧ Rel g κ H d v
theorem RelE.ext {g : Gc} {κ κ1 : KA} {H H1 : Hp} {ρ : En} {σ : L2.St} (e : Ext κ H κ1 H1) (h : RelE g κ H ρ σ) : RelE g κ1 H1 ρ σ := ⟨h.len, fun i d hd => by
  obtain ⟨v, h1, h2⟩ := h.at_ i d hd
  exact ⟨v, h1, h2.ext e⟩⟩
theorem RelE.set {g : Gc} {κ : KA} {H : Hp} {ρ : En} {σ : L2.St} {i : Nat} {d : DV} {v : V} (h : RelE g κ H ρ σ) (r : Rel g κ H d v) : RelE g κ H (ρ.set i (some d)) (σ.set i (some v)) := ⟨by simp [h.len], fun j e he => by
  by_cases hj : j = i
  · subst hj
    have hl : j < ρ.length := by have := (List.getElem?_eq_some_iff.mp he).1; simpa using this
    rw [List.getElem?_set_self hl] at he
    cases he
    exact ⟨v, by rw [List.getElem?_set_self (by rw [← h.len]; exact hl)], r⟩
  · rw [List.getElem?_set_ne (fun e => hj e.symm)] at he ⊢
    exact h.at_ j e he⟩
theorem RelE.unset {g : Gc} {κ : KA} {H : Hp} {ρ : En} {σ : L2.St} {i : Nat} (h : RelE g κ H ρ σ) : RelE g κ H (ρ.set i none) (σ.set i none) := ⟨by simp [h.len], fun j e he => by
  by_cases hj : j = i
  · subst hj
    have hl : j < ρ.length := by have := (List.getElem?_eq_some_iff.mp he).1; simpa using this
    rw [List.getElem?_set_self hl] at he
    cases he
  · rw [List.getElem?_set_ne (fun e => hj e.symm)] at he ⊢
    exact h.at_ j e he⟩

/-- what is wanted of a result -/
def wpR {α : Type} (g : Gc) (W : WX) (σ : L2.St) (κ : KA) (H : Hp) (r : R α) (Φ : α → Sto → KA → Hp → Prop) : Prop := match r with
  | .ok a μ' => ∀ κ' H', Ext κ H κ' H' → StoOk g κ' H' μ' → Φ a μ' κ' H'
  | .ex c ns xs μ' => ∀ κ' H', Ext κ H κ' H' → StoOk g κ' H' μ' → ∀ d vs, At κ' H' d (.xd (ns.zip vs)) → ns.length = vs.length → RelL g κ' H' xs vs → W (.ref (g.cls c)) (some d) σ H'
  | .stuck => False
section
variable {g : Gc} {W : WX} {σ : L2.St} {κ κ1 : KA} {H H1 : Hp}
theorem wpR.bind {α β : Type} {r : R α} {k : α → Sto → R β} {Φ : β → Sto → KA → Hp → Prop} (h : wpR g W σ κ H (r.bind k) Φ) :
    wpR g W σ κ H r (fun a μ' κ' H' => wpR g W σ κ' H' (k a μ') Φ) := by
  cases r with
  | ok a μ =>
    intro κ' H' e s
    have h : wpR g W σ κ H (k a μ) Φ := h
    show wpR g W σ κ' H' (k a μ) Φ
    revert h
    cases k a μ with
    | ok b μ2 => intro h κ2 H2 e2 s2; exact h κ2 H2 (e.trans e2) s2
    | ex c ns xs μ2 => intro h κ2 H2 e2 s2; exact h κ2 H2 (e.trans e2) s2
    | stuck => intro h; exact h
  | ex c ns xs μ => exact h
  | stuck => exact h
theorem wpR.mono {α : Type} {r : R α} {Φ Ψ : α → Sto → KA → Hp → Prop} (h : wpR g W σ κ H r Φ) (f : ∀ a μ' κ' H', Ext κ H κ' H' → StoOk g κ' H' μ' → Φ a μ' κ' H' → Ψ a μ' κ' H') : wpR g W σ κ H r Ψ := by
  cases r with
  | ok a μ => intro κ' H' e s; exact f a μ κ' H' e s (h κ' H' e s)
  | ex c ns xs μ => exact h
  | stuck => exact h
theorem wpR.ext {α : Type} {r : R α} {Φ : α → Sto → KA → Hp → Prop} (e : Ext κ H κ1 H1) (h : wpR g W σ κ H r Φ) : wpR g W σ κ1 H1 r Φ := by
  cases r with
  | ok a μ => intro κ2 H2 e2 s2; exact h κ2 H2 (e.trans e2) s2
  | ex c ns xs μ => intro κ2 H2 e2 s2; exact h κ2 H2 (e.trans e2) s2
  | stuck => exact h
end

/-- the readings -/
def tE (g : Gc) (W : WX) (f : DE) : TE := fun σ H Q => ∃ κ ρ μ, RelE g κ H ρ σ ∧ StoOk g κ H μ ∧ wpR g W σ κ H (f ρ μ) (fun d _ κ' H' => ∀ v, Rel g κ' H' d v → Q v H')
def tT (g : Gc) (W : WX) (f : DT) : TT := fun σ H Q => ∃ κ ρ μ, RelE g κ H ρ σ ∧ StoOk g κ H μ ∧ wpR g W σ κ H (f ρ μ) (fun b _ _ H' => Q b H')
def tA (g : Gc) (W : WX) (f : DA) : TA := fun σ H Q => ∃ κ ρ μ, RelE g κ H ρ σ ∧ StoOk g κ H μ ∧ wpR g W σ κ H (f ρ μ) (fun ds _ κ' H' => ∀ vs, RelL g κ' H' ds vs → Q vs H')
/-- the judgements -/
structure XG (g : Gc) (X : Cx) : Prop where
  K : X.K = g.K
abbrev GE (g : Gc) (W : WX) (X : Cx) (e : Expr) (f : DE) : Prop := PE X e (tE g W f)
abbrev GT (g : Gc) (W : WX) (X : Cx) (e : Expr) (f : DT) : Prop := PT X e (tT g W f)
abbrev GW (g : Gc) (W : WX) (X : Cx) (e : Expr) (f : DT) : Prop := PW X e (tT g W f)
abbrev GA (g : Gc) (W : WX) (X : Cx) (es : List Expr) (f : DA) : Prop := PA X es (tA g W f)

theorem PE.imp {X : Cx} {e : Expr} {t u : TE} (h : PE X e t) (f : ∀ σ H Q, u σ H Q → t σ H Q) : PE X e u := ⟨fun pins s σ H Q I q => h.run pins s σ H Q I (f _ _ _ q)⟩
theorem PT.imp {X : Cx} {e : Expr} {t u : TT} (h : PT X e t) (f : ∀ σ H Q, u σ H Q → t σ H Q) : PT X e u := ⟨fun pins s σ H Q I q => h.run pins s σ H Q I (f _ _ _ q)⟩
theorem PW.imp {X : Cx} {e : Expr} {t u : TT} (h : PW X e t) (f : ∀ σ H Q, u σ H Q → t σ H Q) : PW X e u := ⟨fun wh pins s σ H Q I q => h.run wh pins s σ H Q I (f _ _ _ q)⟩
theorem PA.imp {X : Cx} {es : List Expr} {t u : TA} (h : PA X es t) (f : ∀ σ H Q, u σ H Q → t σ H Q) : PA X es u := ⟨fun pos pins s σ H Q I q => h.run pos pins s σ H Q I (f _ _ _ q)⟩
theorem PS.imp {X : Cx} {st : Stmt} {t u : TS} (h : PS X st t) (f : ∀ D σ H, u D σ H → t D σ H) : PS X st u := ⟨fun pins s σ H D I q => h.run pins s σ H D I (f _ _ _ q)⟩
theorem PSs.imp {X : Cx} {st : List Stmt} {t u : TS} (h : PSs X st t) (f : ∀ D σ H, u D σ H → t D σ H) : PSs X st u := ⟨fun pins s σ H D I q => h.run pins s σ H D I (f _ _ _ q)⟩

section
variable {g : Gc} {W : WX} {X : Cx} {a b c e : Expr} {es : List Expr} {fa fb fc : DE} {pos : Pos}

/-! ### names, constants -/
def eVar (i : Nat) : DE := fun ρ μ => match ρ[i]? with
  | some (some d) => .ok d μ
  | _ => .stuck
theorem ge_var {i : Nat} (h : PE X e (tVar i)) : GE g W X e (eVar i) := by
  refine PE.imp h fun σ H Q q => ?_
  obtain ⟨κ, ρ, μ, he, hs, hw⟩ := q
  unfold eVar at hw
  cases e1 : ρ[i]? with
  | none => rw [e1] at hw; exact hw.elim
  | some o =>
    cases o with
    | none => rw [e1] at hw; exact hw.elim
    | some d =>
      rw [e1] at hw
      obtain ⟨v, h1, h2⟩ := he.at_ i d e1
      exact ⟨v, h1, hw κ H Ext.refl hs v h2⟩
def eC (d : DV) : DE := fun _ μ => .ok d μ
theorem ge_c {d : DV} {v : V} (h : PE X e (tC v)) (r : ∀ κ H, Rel g κ H d v := by intro κ H; simp only [Rel]) : GE g W X e (eC d) := by
  refine PE.imp h fun σ H Q q => ?_
  obtain ⟨κ, ρ, μ, he, hs, hw⟩ := q
  exact hw κ H Ext.refl hs v (r κ H)

/-! ### operators by values -/
abbrev V1 := DV → Sto → Option DV
abbrev V2 := DV → DV → Sto → Option DV
/-- a reading by values: the result may be new, the store stays -/
def rOut (g : Gc) (κ : KA) (H : Hp) (μ : Sto) (o : Option DV) (Q : VK) : Prop := match o with
  | some z => ∀ κ' H', Ext κ H κ' H' → StoOk g κ' H' μ → ∀ v, Rel g κ' H' z v → Q v H'
  | none => False
def r2 (g : Gc) (f : V2) : R2 := fun x y H Q => ∃ κ d e μ, Rel g κ H d x ∧ Rel g κ H e y ∧ StoOk g κ H μ ∧ rOut g κ H μ (f d e μ) Q
def r1 (g : Gc) (f : V1) : V → Hp → VK → Prop := fun x H Q => ∃ κ d μ, Rel g κ H d x ∧ StoOk g κ H μ ∧ rOut g κ H μ (f d μ) Q
def eUn (f : V1) (a : DE) : DE := fun ρ μ => (a ρ μ).bind fun x μ1 => R.of (f x μ1) μ1
def eBin (f : V2) (a b : DE) : DE := fun ρ μ => (a ρ μ).bind fun x μ1 => (b ρ μ1).bind fun y μ2 => R.of (f x y μ2) μ2
theorem out_of {κ : KA} {H : Hp} {μ : Sto} {o : Option DV} {Q : VK} {σ : L2.St} (h : wpR g W σ κ H (R.of o μ) (fun d _ κ' H' => ∀ v, Rel g κ' H' d v → Q v H')) : rOut g κ H μ o Q := by
  cases o with
  | none => exact h
  | some z => exact h
theorem ge_un {f : V1} {op : UnaryOp} (ho : UnR X (unaryOp op) (r1 g f)) (ha : GE g W X a fa) : GE g W X (.UnaryOp op a pos) (eUn f fa) := by
  refine PE.imp (pe_un ho ha) fun σ H Q q => ?_
  obtain ⟨κ, ρ, μ, he, hs, hw⟩ := q
  refine ⟨κ, ρ, μ, he, hs, hw.bind.mono fun x μ1 κ1 H1 e1 s1 h1 v rv => ?_⟩
  exact ⟨κ1, x, μ1, rv, s1, out_of h1⟩
theorem bin_read {f : V2} {r : R2} (hr : ∀ x y H Q, r2 g f x y H Q → r x y H Q) {σ : L2.St} {H : Hp} {Q : VK} (q : tE g W (eBin f fa fb) σ H Q) : tOp r (tE g W fa) (tE g W fb) σ H Q := by
  obtain ⟨κ, ρ, μ, he, hs, hw⟩ := q
  refine ⟨κ, ρ, μ, he, hs, hw.bind.mono fun x μ1 κ1 H1 e1 s1 h1 v rv => ?_⟩
  refine ⟨κ1, ρ, μ1, he.ext e1, s1, h1.bind.mono fun y μ2 κ2 H2 e2 s2 h2 w rw => ?_⟩
  exact hr _ _ _ _ ⟨κ2, x, y, μ2, rv.ext e2, rw, s2, out_of h2⟩
theorem ge_bin {f : V2} {op : Operator} (ho : OpR X (binaryOp op) (r2 g f)) (ha : GE g W X a fa) (hb : GE g W X b fb) : GE g W X (.BinOp a op b pos) (eBin f fa fb) :=
  PE.imp (pe_op ho ha hb) fun _ _ _ q => bin_read (fun _ _ _ _ h => h) q
theorem ge_cmp {f : V2} {op : CmpOp} (ho : OpR X (compareOp op) (r2 g f)) (ha : GE g W X a fa) (hb : GE g W X b fb) (hm : behindInMarks op b = false) : GE g W X (.Compare a [op] [b] pos) (eBin f fa fb) :=
  PE.imp (pe_cmpR ho ha hb hm) fun _ _ _ q => bin_read (fun _ _ _ _ h => h) q

/-! ### tests -/
/-- a value that is a bool, as a test -/
def asB : DV → Option Bool
  | .bl b => some b
  | _ => none
def tB' (f : DE) : DT := fun ρ μ => (f ρ μ).bind fun d μ1 => R.of (asB d) μ1
theorem asB_eq {d : DV} {k : Bool} (h : asB d = some k) : d = .bl k := by
  cases d <;> simp [asB] at h
  subst h; rfl
theorem test_read {t : TE} {f : DE} (ht : ∀ σ H Q, tE g W f σ H Q → t σ H Q) {σ : L2.St} {H : Hp} {Q : Bool → Hp → Prop} (q : tT g W (tB' f) σ H Q) : t σ H (fun x H1 => ∃ c, x = .bl c ∧ Q c H1) := by
  obtain ⟨κ, ρ, μ, he, hs, hw⟩ := q
  refine ht _ _ _ ⟨κ, ρ, μ, he, hs, hw.bind.mono fun x μ1 κ1 H1 e1 s1 h1 v rv => ?_⟩
  cases k : asB x with
  | none => rw [k] at h1; exact h1.elim
  | some b =>
    rw [k] at h1
    have ex := asB_eq k
    subst ex
    simp only [Rel] at rv
    exact ⟨b, rv, h1 κ1 H1 Ext.refl s1⟩
theorem gt_cmp {f : V2} {op : CmpOp} (ho : OpR X (compareOp op) (r2 g f)) (ha : GE g W X a fa) (hb : GE g W X b fb) (hm : behindInMarks op b = false) : GT g W X (.Compare a [op] [b] pos) (tB' (eBin f fa fb)) :=
  PT.imp (pt_cmpR ho ha hb hm) fun _ _ _ q => test_read (fun _ _ _ z => bin_read (fun _ _ _ _ h => h) z) q
theorem gt_val {f : DE} (h : GE g W X e f) (he : ∀ whole, isTrue e X.env whole = (do let v ← whole; standAt e.pos; holding [v] (truthy v)) := by intro _; rfl) : GT g W X e (tB' f) :=
  PT.imp (pt_val h he) fun _ _ _ q => test_read (fun _ _ _ z => z) q
/-- the chain a < b < c -/
def eChain (f f' : V2) (a b c : DE) : DE := fun ρ μ => (a ρ μ).bind fun x μ1 => (b ρ μ1).bind fun y μ2 => (R.of ((f x y μ2).bind asB) μ2).bind fun k μ3 =>
  if k = true then (c ρ μ3).bind fun z μ4 => R.of (f' y z μ4) μ4 else .ok (.bl false) μ3
theorem chain_read {f f' : V2} {σ : L2.St} {H : Hp} {Q : VK} (q : tE g W (eChain f f' fa fb fc) σ H Q) : tChain (r2 g f) (r2 g f') (tE g W fa) (tE g W fb) (tE g W fc) σ H Q := by
  obtain ⟨κ, ρ, μ, he, hs, hw⟩ := q
  refine ⟨κ, ρ, μ, he, hs, hw.bind.mono fun x μ1 κ1 H1 e1 s1 h1 v rv => ?_⟩
  refine ⟨κ1, ρ, μ1, he.ext e1, s1, h1.bind.mono fun y μ2 κ2 H2 e2 s2 h2 w rw => ?_⟩
  refine ⟨κ2, x, y, μ2, rv.ext e2, rw, s2, ?_⟩
  cases k : f x y μ2 with
  | none => rw [k] at h2; exact h2.elim
  | some z =>
    intro κ3 H3 e3 s3 v3 r3
    cases kb : asB z with
    | none => rw [k] at h2; simp only [Option.bind_some, kb] at h2; exact h2.elim
    | some b =>
      rw [k] at h2
      simp only [Option.bind_some, kb] at h2
      have ez := asB_eq kb
      subst ez
      simp only [Rel] at r3
      refine ⟨b, r3, ?_⟩
      have h3 := h2.ext e3
      cases b with
      | false =>
        rw [if_neg (by decide)]
        have h4 : wpR g W σ κ3 H3 (R.ok (DV.bl false) μ2) _ := h3
        exact h4 κ3 H3 Ext.refl s3 (.bl false) (by simp [Rel])
      | true =>
        rw [if_pos rfl]
        have h4 : wpR g W σ κ3 H3 ((fc ρ μ2).bind fun z μ4 => R.of (f' y z μ4) μ4) _ := h3
        refine ⟨κ3, ρ, μ2, (he.ext e1).ext (e2.trans e3), s3, h4.bind.mono fun z μ4 κ4 H4 e4 s4 h5 v4 r4 => ?_⟩
        exact ⟨κ4, y, z, μ4, rw.ext (e3.trans e4), r4, s4, out_of h5⟩
theorem ge_chain {f f' : V2} {op op' : CmpOp} (ho : OpR X (compareOp op) (r2 g f)) (ho' : OpR X (compareOp op') (r2 g f')) (ha : GE g W X a fa) (hb : GE g W X b fb) (hc : GE g W X c fc)
    (hm : lastMarks [op, op'] [b, c] = false := by with_unfolding_all rfl) : GE g W X (.Compare a [op, op'] [b, c] pos) (eChain f f' fa fb fc) :=
  PE.imp (pe_chain ho ho' ha hb hc hm) fun _ _ _ q => chain_read q
theorem gt_chain {f f' : V2} {op op' : CmpOp} (ho : OpR X (compareOp op) (r2 g f)) (ho' : OpR X (compareOp op') (r2 g f')) (ha : GE g W X a fa) (hb : GE g W X b fb) (hc : GE g W X c fc)
    (hm : lastMarks [op, op'] [b, c] = false := by with_unfolding_all rfl) : GT g W X (.Compare a [op, op'] [b, c] pos) (tB' (eChain f f' fa fb fc)) :=
  PT.imp (pt_chain ho ho' ha hb hc hm) fun _ _ _ q => test_read (fun _ _ _ z => chain_read z) q

/-! ### and, or, not, if -/
variable {ft fu : DT} {rest : List Expr}
def tAnd' (t u : DT) : DT := fun ρ μ => (t ρ μ).bind fun b μ1 => if b = true then u ρ μ1 else .ok false μ1
def tOr' (t u : DT) : DT := fun ρ μ => (t ρ μ).bind fun b μ1 => if b = true then .ok true μ1 else u ρ μ1
def tNot' (t : DT) : DT := fun ρ μ => (t ρ μ).bind fun b μ1 => .ok (!b) μ1
theorem gw_and1 (ha : GT g W X a ft) : GW g W X (.BoolOp .And [a] pos) ft := pw_and1 ha
theorem gw_or1 (ha : GT g W X a ft) : GW g W X (.BoolOp .Or [a] pos) ft := pw_or1 ha
theorem gw_and (ha : GT g W X a ft) (hb : GW g W X (.BoolOp .And (b :: rest) pos) fu) : GW g W X (.BoolOp .And (a :: b :: rest) pos) (tAnd' ft fu) := by
  refine PW.imp (pw_and ha hb) fun σ H Q q => ?_
  obtain ⟨κ, ρ, μ, he, hs, hw⟩ := q
  refine ⟨κ, ρ, μ, he, hs, hw.bind.mono fun k μ1 κ1 H1 e1 s1 h1 => ?_⟩
  cases k with
  | true => rw [if_pos rfl] at h1 ⊢; exact ⟨κ1, ρ, μ1, he.ext e1, s1, h1⟩
  | false => rw [if_neg (by decide)] at h1 ⊢; exact h1 κ1 H1 Ext.refl s1
theorem gw_or (ha : GT g W X a ft) (hb : GW g W X (.BoolOp .Or (b :: rest) pos) fu) : GW g W X (.BoolOp .Or (a :: b :: rest) pos) (tOr' ft fu) := by
  refine PW.imp (pw_or ha hb) fun σ H Q q => ?_
  obtain ⟨κ, ρ, μ, he, hs, hw⟩ := q
  refine ⟨κ, ρ, μ, he, hs, hw.bind.mono fun k μ1 κ1 H1 e1 s1 h1 => ?_⟩
  cases k with
  | true => rw [if_pos rfl] at h1 ⊢; exact h1 κ1 H1 Ext.refl s1
  | false => rw [if_neg (by decide)] at h1 ⊢; exact ⟨κ1, ρ, μ1, he.ext e1, s1, h1⟩
theorem gt_not (ha : GT g W X a ft) : GT g W X (.UnaryOp .Not a pos) (tNot' ft) := by
  refine PT.imp (pt_not ha) fun σ H Q q => ?_
  obtain ⟨κ, ρ, μ, he, hs, hw⟩ := q
  exact ⟨κ, ρ, μ, he, hs, hw.bind.mono fun k μ1 κ1 H1 e1 s1 h1 => h1 κ1 H1 Ext.refl s1⟩
/-- as values: all but the last are bools -/
def eAnd (a b : DE) : DE := fun ρ μ => (a ρ μ).bind fun x μ1 => (R.of (asB x) μ1).bind fun k μ2 => if k = true then b ρ μ2 else .ok (.bl false) μ2
def eOr (a b : DE) : DE := fun ρ μ => (a ρ μ).bind fun x μ1 => (R.of (asB x) μ1).bind fun k μ2 => if k = true then .ok (.bl true) μ2 else b ρ μ2
def eNot (a : DE) : DE := fun ρ μ => (a ρ μ).bind fun x μ1 => (R.of (asB x) μ1).bind fun k μ2 => .ok (.bl (!k)) μ2
theorem asB_read {α : Type} {σ : L2.St} {κ : KA} {H : Hp} {x : DV} {μ : Sto} {k : Bool → Sto → R α} {Φ : α → Sto → KA → Hp → Prop} {v : V} (s : StoOk g κ H μ) (rv : Rel g κ H x v) (h : wpR g W σ κ H ((R.of (asB x) μ).bind k) Φ) :
    ∃ b, v = .bl b ∧ wpR g W σ κ H (k b μ) Φ := by
  cases e : asB x with
  | none => rw [e] at h; exact h.elim
  | some b =>
    rw [e] at h
    have ex := asB_eq e
    subst ex
    simp only [Rel] at rv
    exact ⟨b, rv, h⟩
theorem ge_one {op} {f : DE} (h : GE g W X a f) : GE g W X (.BoolOp op [a] pos) f := pe_one h
theorem ge_and (ha : GE g W X a fa) (hb : GE g W X (.BoolOp .And (b :: rest) pos) fb) : GE g W X (.BoolOp .And (a :: b :: rest) pos) (eAnd fa fb) := by
  refine PE.imp (pe_and ha hb) fun σ H Q q => ?_
  obtain ⟨κ, ρ, μ, he, hs, hw⟩ := q
  refine ⟨κ, ρ, μ, he, hs, hw.bind.mono fun x μ1 κ1 H1 e1 s1 h1 v rv => ?_⟩
  obtain ⟨k, ev, h2⟩ := asB_read s1 rv h1
  refine ⟨k, ev, ?_⟩
  cases k with
  | true => rw [if_pos rfl] at h2 ⊢; exact ⟨κ1, ρ, μ1, he.ext e1, s1, h2⟩
  | false => rw [if_neg (by decide)] at h2 ⊢; exact h2 κ1 H1 Ext.refl s1 (.bl false) (by simp [Rel])
theorem ge_or (ha : GE g W X a fa) (hb : GE g W X (.BoolOp .Or (b :: rest) pos) fb) : GE g W X (.BoolOp .Or (a :: b :: rest) pos) (eOr fa fb) := by
  refine PE.imp (pe_or ha hb) fun σ H Q q => ?_
  obtain ⟨κ, ρ, μ, he, hs, hw⟩ := q
  refine ⟨κ, ρ, μ, he, hs, hw.bind.mono fun x μ1 κ1 H1 e1 s1 h1 v rv => ?_⟩
  obtain ⟨k, ev, h2⟩ := asB_read s1 rv h1
  refine ⟨k, ev, ?_⟩
  cases k with
  | true => rw [if_pos rfl] at h2 ⊢; exact h2 κ1 H1 Ext.refl s1 (.bl true) (by simp [Rel])
  | false => rw [if_neg (by decide)] at h2 ⊢; exact ⟨κ1, ρ, μ1, he.ext e1, s1, h2⟩
theorem ge_not (ha : GE g W X a fa) : GE g W X (.UnaryOp .Not a pos) (eNot fa) := by
  refine PE.imp (pe_not ha) fun σ H Q q => ?_
  obtain ⟨κ, ρ, μ, he, hs, hw⟩ := q
  refine ⟨κ, ρ, μ, he, hs, hw.bind.mono fun x μ1 κ1 H1 e1 s1 h1 v rv => ?_⟩
  obtain ⟨k, ev, h2⟩ := asB_read s1 rv h1
  exact ⟨k, ev, h2 κ1 H1 Ext.refl s1 (.bl (!k)) (by simp [Rel])⟩
def eIf (t : DT) (a b : DE) : DE := fun ρ μ => (t ρ μ).bind fun k μ1 => if k = true then a ρ μ1 else b ρ μ1
theorem ge_ifExp (hc : GT g W X c ft) (ha : GE g W X a fa) (hb : GE g W X b fb) : GE g W X (.IfExp c a b pos) (eIf ft fa fb) := by
  refine PE.imp (pe_ifExp hc ha hb) fun σ H Q q => ?_
  obtain ⟨κ, ρ, μ, he, hs, hw⟩ := q
  refine ⟨κ, ρ, μ, he, hs, hw.bind.mono fun k μ1 κ1 H1 e1 s1 h1 => ?_⟩
  cases k with
  | true => rw [if_pos rfl] at h1 ⊢; exact ⟨κ1, ρ, μ1, he.ext e1, s1, h1⟩
  | false => rw [if_neg (by decide)] at h1 ⊢; exact ⟨κ1, ρ, μ1, he.ext e1, s1, h1⟩

/-! ### argument lists, displays -/
variable {fr : DA}
def aNil : DA := fun _ μ => .ok [] μ
def aCons (a : DE) (r : DA) : DA := fun ρ μ => (a ρ μ).bind fun x μ1 => (r ρ μ1).bind fun xs μ2 => .ok (x :: xs) μ2
theorem ga_nil : GA g W X [] aNil := PA.imp pa_nil fun σ H Q q => by
  obtain ⟨κ, ρ, μ, he, hs, hw⟩ := q
  exact hw κ H Ext.refl hs [] RelL.nil
theorem ga_cons (ha : GE g W X e fa) (hr : GA g W X es fr) (hs : starEach (e :: es) X.env = (false, eval e X.env) :: starEach es X.env := by rfl) : GA g W X (e :: es) (aCons fa fr) := by
  refine PA.imp (pa_cons ha hr hs) fun σ H Q q => ?_
  obtain ⟨κ, ρ, μ, he, hs, hw⟩ := q
  refine ⟨κ, ρ, μ, he, hs, hw.bind.mono fun x μ1 κ1 H1 e1 s1 h1 v rv => ?_⟩
  refine ⟨κ1, ρ, μ1, he.ext e1, s1, h1.bind.mono fun xs μ2 κ2 H2 e2 s2 h2 vs rvs => ?_⟩
  exact h2 κ2 H2 Ext.refl s2 (v :: vs) (RelL.cons (rv.ext e2) rvs)
/-- a list's length lets it be -/
def okLen (n : Nat) : Bool := decide (n ≤ sizeLine)
def eTup (r : DA) : DE := fun ρ μ => (r ρ μ).bind fun xs μ1 => if okLen xs.length = true then .ok (.tup xs) μ1 else .stuck
/-- a list that never changes -/
def eLst (r : DA) : DE := fun ρ μ => (r ρ μ).bind fun xs μ1 => if okLen xs.length = true then .ok (.lst xs) μ1 else .stuck
/-- a list that may change -/
def eLstC (r : DA) : DE := fun ρ μ => (r ρ μ).bind fun xs μ1 => if okLen xs.length = true then .ok (.cell μ1.length) (μ1 ++ [.lst xs]) else .stuck
theorem rel_tup {κ : KA} {H : Hp} {p : Addr} {xs : List DV} {vs : List V} {μ : Sto} {ob : Obj} (s : StoOk g κ H μ) (hp : H p = none) (hd : ob.dict = none) (r : RelL g κ H xs vs) : Rel g κ (upd H p (.frz ob (.tup vs))) (.tup xs) (.ref p) := by
  simp only [Rel]
  exact ⟨p, vs, rfl, .inl ⟨ob, hd, upd_same, s.fresh hp⟩, r.ext (Ext.new s hp)⟩
theorem rel_lst {κ : KA} {H : Hp} {p : Addr} {xs : List DV} {vs : List V} {μ : Sto} (s : StoOk g κ H μ) (hp : H p = none) (r : RelL g κ H xs vs) : Rel g κ (upd H p (.lst vs)) (.lst xs) (.ref p) := by
  simp only [Rel]
  exact ⟨p, vs, rfl, ⟨upd_same, s.fresh hp⟩, r.ext (Ext.new s hp)⟩
theorem ge_tup {k : Nat} (h : GA g W X es fr) : GE g W X (.Tuple es k pos) (eTup fr) := by
  refine PE.imp (pe_tupF h) fun σ H Q q => ?_
  obtain ⟨κ, ρ, μ, he, hs, hw⟩ := q
  refine ⟨κ, ρ, μ, he, hs, hw.bind.mono fun xs μ1 κ1 H1 e1 s1 h1 vs rv => ?_⟩
  by_cases hl : okLen xs.length = true
  · rw [if_pos hl] at h1
    refine ⟨by rw [← rv.length]; simpa [okLen] using hl, fun p ob hp hd => ?_⟩
    exact h1 κ1 _ (Ext.new s1 hp) (s1.new hp) _ (rel_tup s1 hp hd rv)
  · rw [if_neg hl] at h1; exact h1.elim
theorem ge_lst (h : GA g W X es fr) : GE g W X (.List es pos) (eLst fr) := by
  refine PE.imp (pe_lst h) fun σ H Q q => ?_
  obtain ⟨κ, ρ, μ, he, hs, hw⟩ := q
  refine ⟨κ, ρ, μ, he, hs, hw.bind.mono fun xs μ1 κ1 H1 e1 s1 h1 vs rv => ?_⟩
  by_cases hl : okLen xs.length = true
  · rw [if_pos hl] at h1
    refine ⟨by rw [← rv.length]; simpa [okLen] using hl, fun p hp => ?_⟩
    exact h1 κ1 _ (Ext.new s1 hp) (s1.new hp) _ (rel_lst s1 hp rv)
  · rw [if_neg hl] at h1; exact h1.elim
theorem cell_new {κ : KA} {H : Hp} {p : Addr} {xs : List DV} {vs : List V} {μ : Sto} (s : StoOk g κ H μ) (hp : H p = none) (r : RelL g κ H xs vs) :
    StoOk g (κ.more p) (upd H p (.lst vs)) (μ ++ [.lst xs]) ∧ Rel g (κ.more p) (upd H p (.lst vs)) (.cell μ.length) (.ref p) := by
  refine ⟨s.newCell hp ⟨p, vs, rfl, upd_same, r.ext (Ext.newCell s hp)⟩, ?_⟩
  simp only [Rel]
  refine ⟨by simp [s.len, KA.more], fun a ha => ?_⟩
  have ha : (κ.cs ++ [some p])[μ.length]? = some (some a) := ha
  rw [← s.len, List.getElem?_append_right (Nat.le_refl _)] at ha
  simp at ha
  rw [ha]
theorem ge_lstC (h : GA g W X es fr) : GE g W X (.List es pos) (eLstC fr) := by
  refine PE.imp (pe_lst h) fun σ H Q q => ?_
  obtain ⟨κ, ρ, μ, he, hs, hw⟩ := q
  refine ⟨κ, ρ, μ, he, hs, hw.bind.mono fun xs μ1 κ1 H1 e1 s1 h1 vs rv => ?_⟩
  by_cases hl : okLen xs.length = true
  · rw [if_pos hl] at h1
    refine ⟨by rw [← rv.length]; simpa [okLen] using hl, fun p hp => ?_⟩
    obtain ⟨s2, r2⟩ := cell_new s1 hp rv
    exact h1 _ _ (Ext.newCell s1 hp) s2 _ r2
  · rw [if_neg hl] at h1; exact h1.elim

/-! ### calls of built-ins by values -/
abbrev VN := List DV → Sto → Option DV
def rN (g : Gc) (f : VN) : List V → Hp → VK → Prop := fun xs H Q => ∃ κ ds μ, RelL g κ H ds xs ∧ StoOk g κ H μ ∧ rOut g κ H μ (f ds μ) Q
def eFn (f : VN) (r : DA) : DE := fun ρ μ => (r ρ μ).bind fun xs μ1 => R.of (f xs μ1) μ1
theorem fn_read {f : VN} {σ : L2.St} {H : Hp} {Q : VK} (q : tE g W (eFn f fr) σ H Q) : tA g W fr σ H (fun vs H1 => rN g f vs H1 Q) := by
  obtain ⟨κ, ρ, μ, he, hs, hw⟩ := q
  exact ⟨κ, ρ, μ, he, hs, hw.bind.mono fun xs μ1 κ1 H1 e1 s1 h1 vs rv => ⟨κ1, xs, μ1, rv, s1, out_of h1⟩⟩
variable {x : Str} {p : Pos}
theorem ge_callB {f : VN} {id : String} (hc : CallR X (.builtin id) (rN g f)) (hg : Gl X x) (hm : X.mg x = none) (hv : bootBuiltins x = some (.builtin id)) (ha : GA g W X (e :: es) fr) (hn : x ≠ "__name__" := by decide) (hdb : (x == ("__debug__" : Str)) = false := by decide)
    (he : starEach (e :: es) X.env = (false, eval e X.env) :: starEach es X.env := by rfl) (hpl : (backTo pos (starEach es X.env)).any (·.1) = false := by rfl) : GE g W X (.Call (.Name x p) (e :: es) [] pos) (eFn f fr) :=
  PE.imp (pe_callB hc hg hm hv ha hn hdb he hpl) fun _ _ _ q => fn_read q
theorem ge_callTy {f : VN} {T : String} (hc : CallR X (.type T) (rN g f)) (hg : Gl X x) (hm : X.mg x = none) (hv : bootBuiltins x = some (.type T)) (ha : GA g W X (e :: es) fr) (hn : x ≠ "__name__" := by decide) (hdb : (x == ("__debug__" : Str)) = false := by decide)
    (he : starEach (e :: es) X.env = (false, eval e X.env) :: starEach es X.env := by rfl) (hpl : (backTo pos (starEach es X.env)).any (·.1) = false := by rfl) : GE g W X (.Call (.Name x p) (e :: es) [] pos) (eFn f fr) :=
  PE.imp (pe_callTy hc hg hm hv ha hn hdb he hpl) fun _ _ _ q => fn_read q

/-! ### subscripts, slices -/
theorem ge_ix {f : V2} (hr : IxR X (r2 g f)) (ha : GE g W X a fa) (hb : GE g W X b fb) (hs : PlainIx b := by intro _ _; rfl) : GE g W X (.Subscript a b pos) (eBin f fa fb) :=
  PE.imp (pe_ix hr ha hb hs) fun _ _ _ q => bin_read (fun _ _ _ _ h => h) q
abbrev DO := En → Sto → R (Option Int)
def tO (g : Gc) (W : WX) (f : DO) : TO := fun σ H Q => ∃ κ ρ μ, RelE g κ H ρ σ ∧ StoOk g κ H μ ∧ wpR g W σ κ H (f ρ μ) (fun o _ _ H' => Q o H')
abbrev GO (g : Gc) (W : WX) (X : Cx) (e : Option Expr) (f : DO) : Prop := PO X e (tO g W f)
theorem PO.imp {X : Cx} {e : Option Expr} {t u : TO} (h : PO X e t) (f : ∀ σ H Q, u σ H Q → t σ H Q) : PO X e u := ⟨fun pins s σ H Q I q => h.run pins s σ H Q I (f _ _ _ q)⟩
def oNone : DO := fun _ μ => .ok none μ
def asI : DV → Option Int
  | .int i => some i
  | _ => none
theorem asI_eq {d : DV} {k : Int} (h : asI d = some k) : d = .int k := by
  cases d <;> simp [asI] at h
  subst h; rfl
def oSome (a : DE) : DO := fun ρ μ => (a ρ μ).bind fun x μ1 => (R.of (asI x) μ1).bind fun i μ2 => .ok (some i) μ2
theorem go_none : GO g W X none oNone := PO.imp po_none fun σ H Q q => by
  obtain ⟨κ, ρ, μ, he, hs, hw⟩ := q
  exact hw κ H Ext.refl hs
theorem go_some (h : GE g W X e fa) : GO g W X (some e) (oSome fa) := PO.imp (po_some h) fun σ H Q q => by
  obtain ⟨κ, ρ, μ, he, hs, hw⟩ := q
  refine ⟨κ, ρ, μ, he, hs, hw.bind.mono fun x μ1 κ1 H1 e1 s1 h1 v rv => ?_⟩
  cases k : asI x with
  | none => rw [k] at h1; exact h1.elim
  | some i =>
    rw [k] at h1
    have ex := asI_eq k
    subst ex
    simp only [Rel] at rv
    exact ⟨i, rv, h1 κ1 H1 Ext.refl s1⟩
abbrev VSl := DV → Option Int → Option Int → Sto → Option DV
def rSl (g : Gc) (f : VSl) : V → Option Int → Option Int → Hp → VK → Prop := fun x lo hi H Q => ∃ κ d μ, Rel g κ H d x ∧ StoOk g κ H μ ∧ rOut g κ H μ (f d lo hi μ) Q
def eSl (f : VSl) (a : DE) (lo hi : DO) : DE := fun ρ μ => (a ρ μ).bind fun x μ1 => (lo ρ μ1).bind fun l μ2 => (hi ρ μ2).bind fun u μ3 => R.of (f x l u μ3) μ3
theorem ge_slice {f : VSl} {lo hi : Option Expr} {fl fh : DO} {p2 : Pos} (hr : SlR X (rSl g f)) (ha : GE g W X a fa) (hl : GO g W X lo fl) (hh : GO g W X hi fh) : GE g W X (.Subscript a (.Slice lo hi none p2) pos) (eSl f fa fl fh) := by
  refine PE.imp (pe_slice hr ha hl hh) fun σ H Q q => ?_
  obtain ⟨κ, ρ, μ, he, hs, hw⟩ := q
  refine ⟨κ, ρ, μ, he, hs, hw.bind.mono fun x μ1 κ1 H1 e1 s1 h1 v rv => ?_⟩
  refine ⟨κ1, ρ, μ1, he.ext e1, s1, h1.bind.mono fun l μ2 κ2 H2 e2 s2 h2 => ?_⟩
  refine ⟨κ2, ρ, μ2, (he.ext e1).ext e2, s2, h2.bind.mono fun u μ3 κ3 H3 e3 s3 h3 => ?_⟩
  exact ⟨κ3, x, μ3, rv.ext (e2.trans e3), s3, out_of h3⟩

/-! ### built-in types' methods by values: the store may change -/
abbrev VM := DV → List DV → Sto → Option (DV × Sto)
def rOutS (g : Gc) (κ : KA) (H : Hp) (o : Option (DV × Sto)) (Q : VK) : Prop := match o with
  | some (z, μ') => ∀ κ' H', Ext κ H κ' H' → StoOk g κ' H' μ' → ∀ v, Rel g κ' H' z v → Q v H'
  | none => False
def rM (g : Gc) (f : VM) : V → List V → Hp → VK → Prop := fun x xs H Q => ∃ κ d ds μ, Rel g κ H d x ∧ RelL g κ H ds xs ∧ StoOk g κ H μ ∧ rOutS g κ H (f d ds μ) Q
/-- the receiver's type, as the method's lookup wants it -/
def recv (T : String) (d : DV) (μ : Sto) : Bool := match d with
  | .str _ => T == "str"
  | .lst _ => T == "list"
  | .scr _ => T == "list"
  | .cell i => match μ[i]? with
    | some (.lst _) => T == "list"
    | _ => false
  | _ => false
theorem recv_ty {κ : KA} {H : Hp} {T : String} {d : DV} {v : V} {μ : Sto} (s : StoOk g κ H μ) (r : Rel g κ H d v) (h : recv T d μ = true) : tyV g.K T v H := by
  cases d with
  | str x => simp only [Rel] at r; subst r; exact beq_iff_eq.mp h
  | lst xs =>
    simp only [Rel] at r
    obtain ⟨a, vs, rfl, h2, h3⟩ := r
    exact .inl ⟨beq_iff_eq.mp h, vs, .inl (.inl h2.1)⟩
  | scr xs =>
    simp only [Rel] at r
    obtain ⟨a, vs, rfl, h2, h3⟩ := r
    exact .inl ⟨beq_iff_eq.mp h, vs, h2.sq⟩
  | cell i =>
    simp only [recv] at h
    cases e : μ[i]? with
    | none => rw [e] at h; cases h
    | some c =>
      rw [e] at h
      cases c with
      | lst xs =>
        simp only [Rel] at r
        obtain ⟨a, h1, h2⟩ := s.at_ i _ e
        obtain ⟨p, vs, rfl, h3, h4⟩ := h2
        rw [r.2 p h1]
        exact .inl ⟨beq_iff_eq.mp h, vs, .inl (.inl h3)⟩
      | _ => cases h
  | _ => cases h
def eBm (T : String) (f : VM) (o : DE) (r : DA) : DE := fun ρ μ => (o ρ μ).bind fun x μ1 => if recv T x μ1 = true then (r ρ μ1).bind fun xs μ2 => R.ofS (f x xs μ2) else .stuck
theorem outS_of {κ : KA} {H : Hp} {o : Option (DV × Sto)} {Q : VK} {σ : L2.St} (h : wpR g W σ κ H (R.ofS o) (fun d _ κ' H' => ∀ v, Rel g κ' H' d v → Q v H')) : rOutS g κ H o Q := by
  cases o with
  | none => exact h
  | some z => exact h
theorem ge_bm {T name' id : String} {name : Str} {f : VM} {o : Expr} {fo : DE} {apos cpos : Pos} (xg : XG g X) (pa : PlainAttrs T) (slot : Slot T name id) (hty : typeOf (.builtin id) = pure (.type "method_descriptor")) (hm : MtR X id (rM g f)) (ho : GE g W X o fo) (ha : GA g W X (e :: es) fr)
    (hbase : attributeBase o name X.env (eval o X.env) = eval o X.env := by rfl)
    (hfew : ((backTo cpos (starEach (e :: es) X.env)).all (fun x => !x.1) && (backToKw cpos (keywordEach [] X.env)).all (fun x => x.1.isSome)
      && decide ((e :: es).length + ([] : List Keyword).length + (if ([] : List Keyword).isEmpty then 0 else 1) < 30)) = true := by rfl)
    (hline : (apos.endLine == cpos.line) = true := by rfl) (hs : starEach (e :: es) X.env = (false, eval e X.env) :: starEach es X.env := by rfl) (hplain : (backTo cpos (starEach es X.env)).any (·.1) = false := by rfl) :
    GE g W X (.Call (.Attribute o name apos) (e :: es) [] cpos) (eBm T f fo fr) := by
  refine PE.imp (pe_bm pa slot hty hm ho ha hbase hfew hline hs hplain) fun σ H Q q => ?_
  obtain ⟨κ, ρ, μ, he, hs, hw⟩ := q
  refine ⟨κ, ρ, μ, he, hs, hw.bind.mono fun x μ1 κ1 H1 e1 s1 h1 v rv => ?_⟩
  by_cases hr : recv T x μ1 = true
  · rw [if_pos hr] at h1
    refine ⟨by rw [xg.K]; exact recv_ty s1 rv hr, κ1, ρ, μ1, he.ext e1, s1, h1.bind.mono fun xs μ2 κ2 H2 e2 s2 h2 vs rvs => ?_⟩
    exact ⟨κ2, x, xs, μ2, rv.ext e2, rvs, s2, outS_of h2⟩
  · rw [if_neg hr] at h1; exact h1.elim
def eBm0 (T : String) (f : VM) (o : DE) : DE := fun ρ μ => (o ρ μ).bind fun x μ1 => if recv T x μ1 = true then R.ofS (f x [] μ1) else .stuck
theorem ge_bm0 {T id : String} {name : Str} {f : VM} {o : Expr} {fo : DE} {apos cpos : Pos} (xg : XG g X) (pa : PlainAttrs T) (slot : Slot T name id) (hty : typeOf (.builtin id) = pure (.type "method_descriptor")) (hm : MtR X id (rM g f)) (ho : GE g W X o fo)
    (hbase : attributeBase o name X.env (eval o X.env) = eval o X.env := by rfl) (hline : (apos.endLine == cpos.line) = true := by rfl) :
    GE g W X (.Call (.Attribute o name apos) [] [] cpos) (eBm0 T f fo) := by
  refine PE.imp (pe_bm0 pa slot hty hm ho hbase hline) fun σ H Q q => ?_
  obtain ⟨κ, ρ, μ, he, hs, hw⟩ := q
  refine ⟨κ, ρ, μ, he, hs, hw.bind.mono fun x μ1 κ1 H1 e1 s1 h1 v rv => ?_⟩
  by_cases hr : recv T x μ1 = true
  · rw [if_pos hr] at h1
    exact ⟨by rw [xg.K]; exact recv_ty s1 rv hr, κ1, x, [], μ1, rv, RelL.nil, s1, outS_of h1⟩
  · rw [if_neg hr] at h1; exact h1.elim
/-- a tuple's method -/
def isTupD : DV → Bool
  | .tup _ => true
  | _ => false
def eTm (f : VM) (o : DE) (r : DA) : DE := fun ρ μ => (o ρ μ).bind fun x μ1 => if isTupD x = true then (r ρ μ1).bind fun xs μ2 => R.ofS (f x xs μ2) else .stuck
theorem FrT.tupF {κ : KA} {H : Hp} {a : Addr} {vs : List V} (h : FrT g κ H a vs) : TupF g.K H a vs := by
  rcases h with ⟨ob, d, h⟩ | h
  · exact .inl ⟨ob, d, h.1⟩
  · exact .inr h
theorem ge_tm {id : String} {name : Str} {f : VM} {o : Expr} {fo : DE} {apos cpos : Pos} (xg : XG g X) (slot : Slot "tuple" name id) (hty : typeOf (.builtin id) = pure (.type "method_descriptor")) (hm : MtR X id (rM g f)) (ho : GE g W X o fo) (ha : GA g W X (e :: es) fr)
    (hb : attributeBase o name X.env (eval o X.env) = eval o X.env := by rfl)
    (hf : ((backTo cpos (starEach (e :: es) X.env)).all (fun x => !x.1) && (backToKw cpos (keywordEach [] X.env)).all (fun x => x.1.isSome) && decide ((e :: es).length + ([] : List Keyword).length + (if ([] : List Keyword).isEmpty then 0 else 1) < 30)) = true := by rfl)
    (hl : (apos.endLine == cpos.line) = true := by rfl) (hs : starEach (e :: es) X.env = (false, eval e X.env) :: starEach es X.env := by rfl) (hp : (backTo cpos (starEach es X.env)).any (·.1) = false := by rfl) :
    GE g W X (.Call (.Attribute o name apos) (e :: es) [] cpos) (eTm f fo fr) := by
  refine PE.imp (pe_tm slot hty hm ho ha hb hf hl hs hp) fun σ H Q q => ?_
  obtain ⟨κ, ρ, μ, he, hs, hw⟩ := q
  refine ⟨κ, ρ, μ, he, hs, hw.bind.mono fun x μ1 κ1 H1 e1 s1 h1 v rv => ?_⟩
  cases x with
  | tup xs =>
    obtain ⟨a, zs, rfl, q2, q3⟩ := (show ∃ a vs, v = .ref a ∧ FrT g κ1 H1 a vs ∧ RelL g κ1 H1 xs vs by simpa only [Rel] using rv)
    refine ⟨a, zs, rfl, by rw [xg.K]; exact q2.tupF, ?_⟩
    have h1 : wpR g W σ κ1 H1 ((fr ρ μ1).bind fun xs' μ2 => R.ofS (f (.tup xs) xs' μ2)) _ := h1
    refine ⟨κ1, ρ, μ1, he.ext e1, s1, h1.bind.mono fun xs' μ2 κ2 H2 e2 s2 h2 vs rvs => ?_⟩
    exact ⟨κ2, .tup xs, xs', μ2, rv.ext e2, rvs, s2, outS_of h2⟩
  | _ => exact h1.elim
end
end SD

set_option Elab.async false
set_option linter.all false
set_option maxRecDepth 100000
set_option maxHeartbeats 4000000
/-! SD, third part: statements, loops, comprehensions. -/
namespace SD
open PySem PySem.Spec PyProof.Rows L2

inductive SR where
  | nx (ρ : En) (μ : Sto) | bk (ρ : En) (μ : Sto) | ct (ρ : En) (μ : Sto)
  | rt (d : DV) (μ : Sto)
  | ex (c : Nat) (ns : List Str) (xs : List DV) (ρ : En) (μ : Sto)
  | stuck
abbrev DS := En → Sto → SR
def R.toS {α : Type} (r : R α) (ρ : En) (k : α → Sto → SR) : SR := match r with
  | .ok a μ => k a μ
  | .ex c ns xs μ => .ex c ns xs ρ μ
  | .stuck => .stuck
def wpS (g : Gc) (W : WX) (D : Ends) (κ : KA) (H : Hp) (r : SR) : Prop := match r with
  | .nx ρ μ => ∀ κ' H' σ', Ext κ H κ' H' → StoOk g κ' H' μ → RelE g κ' H' ρ σ' → D.nx σ' H'
  | .bk ρ μ => ∀ κ' H' σ', Ext κ H κ' H' → StoOk g κ' H' μ → RelE g κ' H' ρ σ' → D.bk σ' H'
  | .ct ρ μ => ∀ κ' H' σ', Ext κ H κ' H' → StoOk g κ' H' μ → RelE g κ' H' ρ σ' → D.ct σ' H'
  | .rt d μ => ∀ κ' H' v, Ext κ H κ' H' → StoOk g κ' H' μ → Rel g κ' H' d v → D.rt v H'
  | .ex c ns xs ρ μ => ∀ κ' H' σ', Ext κ H κ' H' → StoOk g κ' H' μ → RelE g κ' H' ρ σ' → ∀ d vs, At κ' H' d (.xd (ns.zip vs)) → ns.length = vs.length → RelL g κ' H' xs vs → W (.ref (g.cls c)) (some d) σ' H'
  | .stuck => False
section
variable {g : Gc} {W : WX} {D : Ends} {σ : L2.St} {κ κ1 : KA} {H H1 : Hp} {ρ : En} {μ : Sto}
theorem wpS.ext {r : SR} (e : Ext κ H κ1 H1) (h : wpS g W D κ H r) : wpS g W D κ1 H1 r := by
  cases r with
  | nx ρ μ => intro κ' H' σ' e2 s q; exact h κ' H' σ' (e.trans e2) s q
  | bk ρ μ => intro κ' H' σ' e2 s q; exact h κ' H' σ' (e.trans e2) s q
  | ct ρ μ => intro κ' H' σ' e2 s q; exact h κ' H' σ' (e.trans e2) s q
  | rt d μ => intro κ' H' v e2 s q; exact h κ' H' v (e.trans e2) s q
  | ex c ns xs ρ μ => intro κ' H' σ' e2 s q; exact h κ' H' σ' (e.trans e2) s q
  | stuck => exact h
theorem wpS.bind {α : Type} {r : R α} {k : α → Sto → SR} (he : RelE g κ H ρ σ) (h : wpS g W D κ H (r.toS ρ k)) : wpR g W σ κ H r (fun a μ' κ' H' => wpS g W D κ' H' (k a μ')) := by
  cases r with
  | ok a μ' => intro κ' H' e s; exact wpS.ext e h
  | ex c ns xs μ' => intro κ' H' e s d vs h1 h2 h3; exact h κ' H' σ e s (he.ext e) d vs h1 h2 h3
  | stuck => exact h
/-- the ends changed -/
theorem wpS.ends {D' : Ends} {r : SR} (h : wpS g W D κ H r)
    (hn : ∀ ρ' μ', r = .nx ρ' μ' → ∀ κ' H' σ', Ext κ H κ' H' → StoOk g κ' H' μ' → RelE g κ' H' ρ' σ' → D'.nx σ' H')
    (hb : ∀ ρ' μ', r = .bk ρ' μ' → ∀ κ' H' σ', Ext κ H κ' H' → StoOk g κ' H' μ' → RelE g κ' H' ρ' σ' → D'.bk σ' H')
    (hc : ∀ ρ' μ', r = .ct ρ' μ' → ∀ κ' H' σ', Ext κ H κ' H' → StoOk g κ' H' μ' → RelE g κ' H' ρ' σ' → D'.ct σ' H')
    (hr : D'.rt = D.rt) : wpS g W D' κ H r := by
  cases r with
  | nx ρ μ => exact hn ρ μ rfl
  | bk ρ μ => exact hb ρ μ rfl
  | ct ρ μ => exact hc ρ μ rfl
  | rt d μ => intro κ' H' v e2 s q; rw [hr]; exact h κ' H' v e2 s q
  | ex c ns xs ρ μ => exact h
  | stuck => exact h
end
def tS (g : Gc) (W : WX) (f : DS) : TS := fun D σ H => ∃ κ ρ μ, RelE g κ H ρ σ ∧ StoOk g κ H μ ∧ wpS g W D κ H (f ρ μ)
abbrev GS (g : Gc) (W : WX) (X : Cx) (st : Stmt) (f : DS) : Prop := PS X st (tS g W f)
abbrev GSs (g : Gc) (W : WX) (X : Cx) (st : List Stmt) (f : DS) : Prop := PSs X st (tS g W f)

section
variable {g : Gc} {W : WX} {X : Cx} {a b c e : Expr} {es : List Expr} {fa fb fc : DE} {ft : DT} {fr : DA} {pos : Pos} {st : Stmt} {sts stb : List Stmt} {f h fs fu : DS}

def sNop : DS := fun ρ μ => .nx ρ μ
def sSeq (f h : DS) : DS := fun ρ μ => match f ρ μ with
  | .nx ρ' μ' => h ρ' μ'
  | r => r
theorem gss_nil : GSs g W X [] sNop := PSs.imp pss_nil fun D σ H q => by
  obtain ⟨κ, ρ, μ, he, hs, hw⟩ := q
  exact hw κ H σ Ext.refl hs he
theorem gss_cons (h1 : GS g W X st f) (h2 : GSs g W X sts h) : GSs g W X (st :: sts) (sSeq f h) := PSs.imp (pss_cons h1 h2) fun D σ H q => by
  obtain ⟨κ, ρ, μ, he, hs, hw⟩ := q
  refine ⟨κ, ρ, μ, he, hs, ?_⟩
  unfold sSeq at hw
  cases e : f ρ μ with
  | nx ρ' μ' =>
    rw [e] at hw
    intro κ' H' σ' e2 s2 q2
    exact ⟨κ', ρ', μ', q2, s2, hw.ext e2⟩
  | bk ρ' μ' => rw [e] at hw; exact hw
  | ct ρ' μ' => rw [e] at hw; exact hw
  | rt d μ' => rw [e] at hw; exact hw
  | ex c ns xs ρ' μ' => rw [e] at hw; exact hw
  | stuck => rw [e] at hw; exact hw
theorem gss_one (h1 : GS g W X st f) : GSs g W X [st] f := PSs.imp (pss_one h1) fun _ _ _ q => q
theorem gs_pass : GS g W X (.Pass pos) sNop := PS.imp ps_pass fun D σ H q => by
  obtain ⟨κ, ρ, μ, he, hs, hw⟩ := q
  exact hw κ H σ Ext.refl hs he
def sBrk : DS := fun ρ μ => .bk ρ μ
def sCnt : DS := fun ρ μ => .ct ρ μ
theorem gs_brk : GS g W X (.Break pos) sBrk := PS.imp ps_break fun D σ H q => by
  obtain ⟨κ, ρ, μ, he, hs, hw⟩ := q
  exact hw κ H σ Ext.refl hs he
theorem gs_cnt : GS g W X (.Continue pos) sCnt := PS.imp ps_continue fun D σ H q => by
  obtain ⟨κ, ρ, μ, he, hs, hw⟩ := q
  exact hw κ H σ Ext.refl hs he
def sExpr (a : DE) : DS := fun ρ μ => (a ρ μ).toS ρ fun _ μ1 => .nx ρ μ1
theorem gs_expr (he : GE g W X e fa) (hs : swapsWith e none pos.line X.env = pure false := by rfl) : GS g W X (.Expr e pos) (sExpr fa) := PS.imp (ps_expr he hs) fun D σ H q => by
  obtain ⟨κ, ρ, μ, he, hs, hw⟩ := q
  exact ⟨κ, ρ, μ, he, hs, (wpS.bind he hw).mono fun d μ1 κ1 H1 e1 s1 h1 v _ => h1 κ1 H1 σ Ext.refl s1 (he.ext e1)⟩
def sRet (a : DE) : DS := fun ρ μ => (a ρ μ).toS ρ fun d μ1 => .rt d μ1
theorem gs_ret (he : GE g W X e fa) : GS g W X (.Return (some e) pos) (sRet fa) := PS.imp (ps_ret he) fun D σ H q => by
  obtain ⟨κ, ρ, μ, he, hs, hw⟩ := q
  exact ⟨κ, ρ, μ, he, hs, (wpS.bind he hw).mono fun d μ1 κ1 H1 e1 s1 h1 v rv => h1 κ1 H1 v Ext.refl s1 rv⟩
def sRetN : DS := fun _ μ => .rt .non μ
theorem gs_retN : GS g W X (.Return none pos) sRetN := PS.imp ps_retN fun D σ H q => by
  obtain ⟨κ, ρ, μ, he, hs, hw⟩ := q
  exact hw κ H .non Ext.refl hs (by simp [Rel])
def sIf (t : DT) (f h : DS) : DS := fun ρ μ => (t ρ μ).toS ρ fun k μ1 => if k = true then f ρ μ1 else h ρ μ1
theorem gs_if (hc : GT g W X c ft) (ha : GSs g W X sts f) (hb : GSs g W X stb h) : GS g W X (.If c sts stb pos) (sIf ft f h) := PS.imp (ps_if hc ha hb) fun D σ H q => by
  obtain ⟨κ, ρ, μ, he, hs, hw⟩ := q
  refine ⟨κ, ρ, μ, he, hs, (wpS.bind he hw).mono fun k μ1 κ1 H1 e1 s1 h1 => ?_⟩
  cases k with
  | true => rw [if_pos rfl] at h1 ⊢; exact ⟨κ1, ρ, μ1, he.ext e1, s1, h1⟩
  | false => rw [if_neg (by decide)] at h1 ⊢; exact ⟨κ1, ρ, μ1, he.ext e1, s1, h1⟩
def sDoc : DS := sNop
theorem gs_doc {x j pos'} : GS g W X (.Expr (.Constant (.str x) j pos) pos') sNop := PS.imp ps_doc fun D σ H q => by
  obtain ⟨κ, ρ, μ, he, hs, hw⟩ := q
  exact hw κ H σ Ext.refl hs he

/-! ### targets -/
abbrev DG := DV → En → Sto → Option En
abbrev DGs := List DV → En → Sto → Option En
/-- sl: the slots that are stored -/
def tG (g : Gc) (sl : List Nat) (f : DG) : TG := fun v σ H Q => ∃ κ d ρ μ, Rel g κ H d v ∧ RelE g κ H ρ σ ∧ StoOk g κ H μ ∧ match f d ρ μ with
  | some ρ' => ∀ σ', RelE g κ H ρ' σ' → σ'.length = σ.length → (∀ i, i ∉ sl → σ'[i]? = σ[i]?) → Q σ' H
  | none => False
def tGs (g : Gc) (sl : List Nat) (f : DGs) : TGs := fun vs σ H Q => ∃ κ ds ρ μ, RelL g κ H ds vs ∧ RelE g κ H ρ σ ∧ StoOk g κ H μ ∧ match f ds ρ μ with
  | some ρ' => ∀ σ', RelE g κ H ρ' σ' → σ'.length = σ.length → (∀ i, i ∉ sl → σ'[i]? = σ[i]?) → Q σ' H
  | none => False
abbrev GG (g : Gc) (X : Cx) (tg : Expr) (sl : List Nat) (f : DG) : Prop := PG X tg (tG g sl f)
abbrev GGs (g : Gc) (X : Cx) (tg : List Expr) (sl : List Nat) (f : DGs) : Prop := PGs X tg (tGs g sl f)
theorem PG.imp {X : Cx} {e : Expr} {t u : TG} (h : PG X e t) (f : ∀ v σ H Q, u v σ H Q → t v σ H Q) : PG X e u := ⟨fun pins s σ H v w Q I r q => h.run pins s σ H v w Q I r (f _ _ _ _ q)⟩
theorem PGs.imp {X : Cx} {e : List Expr} {t u : TGs} (h : PGs X e t) (f : ∀ v σ H Q, u v σ H Q → t v σ H Q) : PGs X e u := ⟨fun pins s σ H v w Q I r q => h.run pins s σ H v w Q I r (f _ _ _ _ q)⟩
def gN (i : Nat) : DG := fun d ρ _ => some (ρ.set i (some d))
theorem gg_name {i : Nat} {x : Str} (h : PG X (.Name x pos) (gName i)) : GG g X (.Name x pos) [i] (gN i) := PG.imp h fun v σ H Q q => by
  obtain ⟨κ, d, ρ, μ, r, he, hs, hw⟩ := q
  refine hw _ (he.set r) (by simp) fun j hj => ?_
  rw [List.getElem?_set_ne (fun e => hj (by simp [e]))]
def gNil' : DGs := fun ds ρ _ => match ds with
  | [] => some ρ
  | _ => none
def gCons' (f : DG) (fs : DGs) : DGs := fun ds ρ μ => match ds with
  | [] => none
  | d :: r => (f d ρ μ).bind fun ρ' => fs r ρ' μ
theorem ggs_nil : GGs g X [] [] gNil' := PGs.imp pgs_nil fun vs σ H Q q => by
  obtain ⟨κ, ds, ρ, μ, r, he, hs, hw⟩ := q
  cases ds with
  | nil => exact ⟨r.of_nil, hw σ he rfl fun _ _ => rfl⟩
  | cons d ds => exact hw.elim
theorem ggs_cons {e : Expr} {es : List Expr} {t : DG} {u : DGs} {s1 s2 : List Nat} (h1 : GG g X e s1 t) (h2 : GGs g X es s2 u)
    (hs : (assignEach (e :: es) X.env).map (·.2) = assign e X.env :: (assignEach es X.env).map (·.2) := by rfl) : GGs g X (e :: es) (s1 ++ s2) (gCons' t u) := PGs.imp (pgs_cons h1 h2 hs) fun vs σ H Q q => by
  obtain ⟨κ, ds, ρ, μ, r, he, hs, hw⟩ := q
  cases ds with
  | nil => exact hw.elim
  | cons d ds =>
    obtain ⟨v, vr, rfl, rv, rr⟩ := r.of_cons
    refine ⟨v, vr, rfl, κ, d, ρ, μ, rv, he, hs, ?_⟩
    simp only [gCons'] at hw
    cases e : t d ρ μ with
    | none => rw [e] at hw; exact hw.elim
    | some ρ' =>
      rw [e] at hw
      intro σ' he' hl hk
      refine ⟨κ, ds, ρ', μ, rr, he', hs, ?_⟩
      have hw : match u ds ρ' μ with
        | some ρ' => ∀ σ', RelE g κ H ρ' σ' → σ'.length = σ.length → (∀ i, i ∉ s1 ++ s2 → σ'[i]? = σ[i]?) → Q σ' H
        | none => False := hw
      cases e2 : u ds ρ' μ with
      | none => rw [e2] at hw; exact hw
      | some ρ2 =>
        rw [e2] at hw
        exact fun σ2 he2 hl2 hk2 => hw σ2 he2 (hl2.trans hl) fun i hi => (hk2 i fun m => hi (List.mem_append_right _ m)).trans (hk i fun m => hi (List.mem_append_left _ m))
def asT : DV → Option (List DV)
  | .tup xs => some xs
  | _ => none
def gTup' (f : DGs) (n : Nat) : DG := fun d ρ μ => match asT d with
  | some xs => if xs.length = n then f xs ρ μ else none
  | none => none
theorem gg_tup {es : List Expr} {k : Nat} {t : DGs} {n : Nat} {sl : List Nat} (xg : XG g X) (hc : X.calm = true) (h : GGs g X es sl t)
    (hn : (assignEach es X.env).length = n := by rfl) (hst : (assignEach es X.env).findIdx? (·.1) = none := by rfl) : GG g X (.Tuple es k pos) sl (gTup' t n) := PG.imp (pg_tup hc h hn hst) fun v σ H Q q => by
  obtain ⟨κ, d, ρ, μ, r, he, hs, hw⟩ := q
  cases d with
  | tup xs =>
    simp only [Rel] at r
    obtain ⟨a, vs, rfl, h2, h3⟩ := r
    simp only [gTup', asT] at hw
    by_cases hl : xs.length = n
    · rw [if_pos hl] at hw
      exact ⟨a, vs, rfl, by rw [xg.K]; exact h2.sq, by rw [← h3.length]; exact hl, κ, xs, ρ, μ, h3, he, hs, hw⟩
    · rw [if_neg hl] at hw; exact hw.elim
  | _ => exact hw.elim
def sAsg (a : DE) (t : DG) : DS := fun ρ μ => (a ρ μ).toS ρ fun d μ1 => match t d ρ μ1 with
  | some ρ' => .nx ρ' μ1
  | none => .stuck
theorem asg_read {t : DG} {sl : List Nat} {D : Ends} {σ : L2.St} {H : Hp} (q : tS g W (sAsg fa t) D σ H) : tAsg (tE g W fa) (tG g sl t) D σ H := by
  obtain ⟨κ, ρ, μ, he, hs, hw⟩ := q
  refine ⟨κ, ρ, μ, he, hs, (wpS.bind he hw).mono fun d μ1 κ1 H1 e1 s1 h1 v rv => ?_⟩
  refine ⟨κ1, d, ρ, μ1, rv, he.ext e1, s1, ?_⟩
  cases e : t d ρ μ1 with
  | none => rw [e] at h1; exact h1.elim
  | some ρ' => rw [e] at h1; exact fun σ' he' _ _ => h1 κ1 H1 σ' Ext.refl s1 he'
theorem gs_asg {tg : Expr} {t : DG} {sl : List Nat} (he : GE g W X e fa) (hg : GG g X tg sl t) (hs : swapsWithSole [tg] e pos.line X.env = pure false := by rfl) (hw : swappedStores [tg] e X.env = pure none := by rfl)
    (h1 : (assignEach [tg] X.env).map (·.2) = [assign tg X.env] := by rfl) : GS g W X (.Assign [tg] e pos) (sAsg fa t) := PS.imp (ps_asg he hg hs hw h1) fun D σ H q => asg_read q
/-- x, y = a, b -/
def sPar (i j : Nat) (r : DA) : DS := fun ρ μ => (r ρ μ).toS ρ fun ds μ1 => match ds with
  | [d, e] => .nx ((ρ.set i (some d)).set j (some e)) μ1
  | _ => .stuck
theorem gs_par {i j : Nat} {x y : Str} {a b : Expr} {px py pt : Pos} {kt k2 pt2} (hc : X.calm = true) (hN : X.N.Nodup) (hi : X.N[i]? = some x) (hj : X.N[j]? = some y) (hij : i ≠ j)
    (hx : X.env.scope.names.lookup x = some .local) (hy : X.env.scope.names.lookup y = some .local) (ha : GA g W X [a, b] fr)
    (hw : swappedStores [.Tuple [.Name x px, .Name y py] kt pt] (.Tuple [a, b] k2 pt2) X.env = pure (some [x, y]) := by rfl)
    (hs : swapsWithSole [.Tuple [.Name x px, .Name y py] kt pt] (.Tuple [a, b] k2 pt2) pos.line X.env = pure false := by rfl) :
    GS g W X (.Assign [.Tuple [.Name x px, .Name y py] kt pt] (.Tuple [a, b] k2 pt2) pos) (sPar i j fr) := PS.imp (ps_par hc hN hi hj hij hx hy ha hw hs) fun D σ H q => by
  obtain ⟨κ, ρ, μ, he, hs, hw⟩ := q
  refine ⟨κ, ρ, μ, he, hs, (wpS.bind he hw).mono fun ds μ1 κ1 H1 e1 s1 h1 vs rv => ?_⟩
  match ds, rv, h1 with
  | [], _, h1 => exact h1.elim
  | [_], _, h1 => exact h1.elim
  | [d, e], rv, h1 =>
    obtain ⟨v, r, rfl, q1, q2⟩ := rv.of_cons
    obtain ⟨w, r', rfl, q3, q4⟩ := q2.of_cons
    cases q4.of_nil
    exact ⟨v, w, rfl, h1 κ1 H1 _ Ext.refl s1 (((he.ext e1).set q1).set q3)⟩
  | _ :: _ :: _ :: _, _, h1 => exact h1.elim

/-! ### while -/
def loopW (t : DT) (f : DS) : Nat → DS
  | 0 => fun _ _ => .stuck
  | n + 1 => fun ρ μ => (t ρ μ).toS ρ fun k μ1 => if k = true then (match f ρ μ1 with
      | .nx ρ' μ' => loopW t f n ρ' μ'
      | .ct ρ' μ' => loopW t f n ρ' μ'
      | .bk ρ' μ' => .nx ρ' μ'
      | r => r) else .nx ρ μ1
/-- n: more than the turns -/
def sWhile (n : En → Sto → Nat) (t : DT) (f : DS) : DS := fun ρ μ => loopW t f (n ρ μ) ρ μ
theorem gs_while {n : En → Sto → Nat} (hp : PassesOwn (model X.prog X.w) X.A X.env X.xe) (hc : GT g W X c ft) (hb : GSs g W X sts f) : GS g W X (.While c sts [] pos) (sWhile n ft f) := PS.imp (ps_while hp hc hb) fun D σ H q => by
  obtain ⟨κ, ρ, μ, he, hs, hw⟩ := q
  refine ⟨fun m σ H => ∃ κ ρ μ, RelE g κ H ρ σ ∧ StoOk g κ H μ ∧ wpS g W D κ H (loopW ft f m ρ μ), ⟨_, κ, ρ, μ, he, hs, hw⟩, ?_⟩
  intro m σ H q
  obtain ⟨κ, ρ, μ, he, hs, hw⟩ := q
  cases m with
  | zero => exact hw.elim
  | succ m =>
    refine ⟨κ, ρ, μ, he, hs, (wpS.bind he hw).mono fun k μ1 κ1 H1 e1 s1 h1 => ?_⟩
    cases k with
    | false => rw [if_neg (by decide)] at h1 ⊢; exact h1 κ1 H1 σ Ext.refl s1 (he.ext e1)
    | true =>
      rw [if_pos rfl] at h1 ⊢
      refine ⟨fun σ' H' => ∃ κ ρ μ, RelE g κ H' ρ σ' ∧ StoOk g κ H' μ ∧ wpS g W D κ H' (loopW ft f m ρ μ), fun σ' H' q => ⟨m, Nat.lt_succ_self _, q⟩, κ1, ρ, μ1, he.ext e1, s1, ?_⟩
      cases e : f ρ μ1 with
      | nx ρ' μ' => rw [e] at h1; exact fun κ2 H2 σ2 e2 s2 q2 => ⟨κ2, ρ', μ', q2, s2, wpS.ext e2 h1⟩
      | ct ρ' μ' => rw [e] at h1; exact fun κ2 H2 σ2 e2 s2 q2 => ⟨κ2, ρ', μ', q2, s2, wpS.ext e2 h1⟩
      | bk ρ' μ' => rw [e] at h1; exact h1
      | rt d μ' => rw [e] at h1; exact h1
      | ex c ns xs ρ' μ' => rw [e] at h1; exact h1
      | stuck => rw [e] at h1; exact h1

/-! ### what is walked -/
/-- what is walked: an item's list that stays, or a cell that is read anew at each turn -/
inductive Wk where
  | fix (ds : List DV)
  | cell (i : Nat)
/-- the item at a turn; none inside: it is at its end -/
def wkAt : Wk → Sto → Nat → Option (Option DV)
  | .fix ds, _, k => some ds[k]?
  | .cell i, μ, k => match μ[i]? with
    | some (.lst xs) => some xs[k]?
    | _ => none
def wkLen : Wk → Sto → Nat
  | .fix ds, _ => ds.length
  | .cell i, μ => match μ[i]? with
    | some (.lst xs) => xs.length
    | _ => 0
/-- J walks it, whatever has come to pass since κ0, H0 -/
structure WkOk (g : Gc) (J : It) (κ0 : KA) (H0 : Hp) (w : Wk) : Prop where
  stop : ∀ k κ H μ, Ext0 κ0 H0 κ H → StoOk g κ H μ → wkAt w μ k = some none → J.stop k H
  go : ∀ k κ H μ d, Ext0 κ0 H0 κ H → StoOk g κ H μ → wkAt w μ k = some (some d) → J.go k H
  yld : ∀ k κ H μ d x H', Ext0 κ0 H0 κ H → StoOk g κ H μ → wkAt w μ k = some (some d) → J.yld k H x H' → Ext κ H κ H' ∧ StoOk g κ H' μ ∧ Rel g κ H' d x
abbrev DI := En → Sto → R Wk
def tI (g : Gc) (W : WX) (f : DI) : TI := fun σ H R => ∃ κ ρ μ, RelE g κ H ρ σ ∧ StoOk g κ H μ ∧ wpR g W σ κ H (f ρ μ) (fun k _ κ' H' => ∀ J, WkOk g J κ' H' k → R J H')
abbrev GI (g : Gc) (W : WX) (X : Cx) (tg iter : Expr) (f : DI) : Prop := PI X tg iter (tI g W f)
theorem PI.imp {X : Cx} {tg e : Expr} {t u : TI} (h : PI X tg e t) (f : ∀ σ H R, u σ H R → t σ H R) : PI X tg e u := ⟨fun pins s σ H R I q => h.run pins s σ H R I (f _ _ _ q)⟩
theorem PI.or {X : Cx} {tg e : Expr} {t u : TI} (h : PI X tg e t) (h' : PI X tg e u) : PI X tg e (fun σ H R => t σ H R ∨ u σ H R) := ⟨fun pins s σ H R I q => q.elim (h.run pins s σ H R I) (h'.run pins s σ H R I)⟩
/-- the items that a value gives when it is walked -/
def wkOf : DV → Sto → Option Wk
  | .lst xs, _ => some (.fix xs)
  | .scr xs, _ => some (.fix xs)
  | .tup xs, _ => some (.fix xs)
  | .str x, _ => some (.fix (x.cps.toList.map fun c => .str ⟨#[c]⟩))
  | .cell i, μ => match μ[i]? with
    | some (.lst _) => some (.cell i)
    | _ => none
  | _, _ => none
def iSeq (a : DE) : DI := fun ρ μ => (a ρ μ).bind fun d μ1 => R.of (wkOf d μ1) μ1
theorem wk_list {κ : KA} {H : Hp} {a : Addr} {ds : List DV} {vs : List V} (h : FrL g κ H a vs) (r : RelL g κ H ds vs) : WkOk g (Itl g.K a) κ H (.fix ds) where
  stop := fun k κ' H' μ e s hk => ⟨vs, (h.ext0 e).sq, by
    rw [← r.length]
    exact List.getElem?_eq_none_iff.mp (Option.some.inj hk)⟩
  go := fun k κ' H' μ d e s hk => by
    obtain ⟨v, h1, h2⟩ := r.get (Option.some.inj hk)
    exact ⟨vs, v, (h.ext0 e).sq, h1⟩
  yld := fun k κ' H' μ d x H'' e s hk y => by
    obtain ⟨rfl, y⟩ := y
    refine ⟨Ext.refl, s, ?_⟩
    obtain ⟨v, h1, h2⟩ := (r.ext0 e).get (Option.some.inj hk)
    have := y vs (h.ext0 e).sq
    rw [h1] at this; cases this
    exact h2
theorem wk_tup {κ : KA} {H : Hp} {a : Addr} {ds : List DV} {vs : List V} (h : FrT g κ H a vs) (r : RelL g κ H ds vs) : WkOk g (Itt g.K a) κ H (.fix ds) where
  stop := fun k κ' H' μ e s hk => ⟨vs, (h.ext0 e).sq, by
    rw [← r.length]
    exact List.getElem?_eq_none_iff.mp (Option.some.inj hk)⟩
  go := fun k κ' H' μ d e s hk => by
    obtain ⟨v, h1, h2⟩ := r.get (Option.some.inj hk)
    exact ⟨vs, v, (h.ext0 e).sq, h1⟩
  yld := fun k κ' H' μ d x H'' e s hk y => by
    obtain ⟨rfl, y⟩ := y
    refine ⟨Ext.refl, s, ?_⟩
    obtain ⟨v, h1, h2⟩ := (r.ext0 e).get (Option.some.inj hk)
    have := y vs (h.ext0 e).sq
    rw [h1] at this; cases this
    exact h2
theorem wk_str {κ : KA} {H : Hp} {x : Str} : WkOk g (Its x) κ H (.fix (x.cps.toList.map fun c => .str ⟨#[c]⟩)) where
  stop := fun k κ' H' μ e s hk => by
    show x.cps.size ≤ k
    have := List.getElem?_eq_none_iff.mp (Option.some.inj hk)
    simpa using this
  go := fun k κ' H' μ d e s hk => by
    show k < x.cps.size
    have := (List.getElem?_eq_some_iff.mp (Option.some.inj hk)).1
    simpa using this
  yld := fun k κ' H' μ d v H'' e s hk y => by
    obtain ⟨rfl, c, hc, rfl⟩ := y
    refine ⟨Ext.refl, s, ?_⟩
    have hd := Option.some.inj hk
    rw [List.getElem?_map] at hd
    have : x.cps.toList[k]? = some c := by simpa using hc
    rw [this] at hd
    cases hd
    simp [Rel]
theorem wk_rng {κ : KA} {H : Hp} {lo : Int} {n : Nat} : WkOk g (Itr lo n) κ H (.fix ((List.range n).map fun i => .int (lo + (i : Nat)))) where
  stop := fun k κ' H' μ e s hk => by
    show n ≤ k
    have := List.getElem?_eq_none_iff.mp (Option.some.inj hk)
    simpa using this
  go := fun k κ' H' μ d e s hk => by
    show k < n
    have := (List.getElem?_eq_some_iff.mp (Option.some.inj hk)).1
    simpa using this
  yld := fun i κ' H' μ d v H'' e s hk y => by
    obtain ⟨rfl, rfl⟩ := y
    refine ⟨Ext.refl, s, ?_⟩
    have hd := Option.some.inj hk
    rw [List.getElem?_map] at hd
    cases hr : (List.range n)[i]? with
    | none => rw [hr] at hd; cases hd
    | some j =>
      rw [hr] at hd
      have hij : j = i := by
        obtain ⟨h1, h2⟩ := List.getElem?_eq_some_iff.mp hr
        simpa using h2.symm
      cases hd
      subst hij
      simp [Rel]
theorem wk_cell {κ : KA} {H : Hp} {i : Nat} {p : Addr} (h : κ.cs[i]? = some (some p)) : WkOk g (Itl g.K p) κ H (.cell i) := by
  have key : ∀ κ' H' μ k o, Ext0 κ H κ' H' → StoOk g κ' H' μ → wkAt (.cell i) μ k = some o → ∃ xs vs, o = xs[k]? ∧ H' p = some (.lst vs) ∧ RelL g κ' H' xs vs := fun κ' H' μ k o e s hk => by
    simp only [wkAt] at hk
    cases ec : μ[i]? with
    | none => rw [ec] at hk; cases hk
    | some co =>
      rw [ec] at hk
      cases co with
      | lst xs =>
        cases hk
        obtain ⟨a, h1, h2⟩ := s.at_ i _ ec
        obtain ⟨q, vs, rfl, h3, h4⟩ := h2
        have := e.old i q (List.getElem?_eq_some_iff.mp h).1 h1
        rw [h] at this; cases this
        exact ⟨xs, vs, rfl, h3, h4⟩
      | _ => cases hk
  refine ⟨fun k κ' H' μ e s hk => ?_, fun k κ' H' μ d e s hk => ?_, fun k κ' H' μ d x H'' e s hk y => ?_⟩
  · obtain ⟨xs, vs, e1, h1, h2⟩ := key κ' H' μ k _ e s hk
    exact ⟨vs, .inl (.inl h1), by rw [← h2.length]; exact List.getElem?_eq_none_iff.mp e1.symm⟩
  · obtain ⟨xs, vs, e1, h1, h2⟩ := key κ' H' μ k _ e s hk
    obtain ⟨v, h3, h4⟩ := h2.get e1.symm
    exact ⟨vs, v, .inl (.inl h1), h3⟩
  · obtain ⟨xs, vs, e1, h1, h2⟩ := key κ' H' μ k _ e s hk
    obtain ⟨v, h3, h4⟩ := h2.get e1.symm
    obtain ⟨rfl, y⟩ := y
    have := y vs (.inl (.inl h1))
    rw [h3] at this; cases this
    exact ⟨Ext.refl, s, h4⟩
theorem gi_seq {tg : Expr} (xg : XG g X) (h : GE g W X e fa) : GI g W X tg e (iSeq fa) := PI.imp (PI.or (pi_list h) (PI.or (pi_tup h) (pi_str h))) fun σ H R q => by
  obtain ⟨κ, ρ, μ, he, hs, hw⟩ := q
  have hb := hw.bind
  cases e : fa ρ μ with
  | stuck => rw [e] at hb; exact hb.elim
  | ex c ns xs μ1 =>
    refine .inl ⟨κ, ρ, μ, he, hs, ?_⟩
    rw [e] at hb ⊢
    exact hb
  | ok d μ1 =>
    rw [e] at hb
    cases k : wkOf d μ1 with
    | none =>
      refine .inl ⟨κ, ρ, μ, he, hs, ?_⟩
      rw [e]
      intro κ1 H1 e1 s1
      have := hb κ1 H1 e1 s1
      dsimp only at this
      rw [k] at this
      exact this.elim
    | some wk =>
      have hb2 : ∀ κ1 H1, Ext κ H κ1 H1 → StoOk g κ1 H1 μ1 → ∀ J, WkOk g J κ1 H1 wk → R J H1 := fun κ1 H1 e1 s1 => by
        have := hb κ1 H1 e1 s1
        dsimp only at this
        rw [k] at this
        exact this κ1 H1 Ext.refl s1
      cases d with
      | lst xs =>
        refine .inl ⟨κ, ρ, μ, he, hs, ?_⟩
        rw [e]
        intro κ1 H1 e1 s1 v rv
        cases k
        simp only [Rel] at rv
        obtain ⟨a, vs, rfl, h2, h3⟩ := rv
        refine ⟨a, rfl, ⟨vs, .inl (.inl h2.1)⟩, ?_⟩
        rw [xg.K]
        exact hb2 κ1 H1 e1 s1 _ (wk_list (.inl h2) h3)
      | scr xs =>
        refine .inl ⟨κ, ρ, μ, he, hs, ?_⟩
        rw [e]
        intro κ1 H1 e1 s1 v rv
        cases k
        simp only [Rel] at rv
        obtain ⟨a, vs, rfl, h2, h3⟩ := rv
        refine ⟨a, rfl, ⟨vs, by rw [xg.K]; exact h2.sq⟩, ?_⟩
        rw [xg.K]
        exact hb2 κ1 H1 e1 s1 _ (wk_list h2 h3)
      | tup xs =>
        refine .inr (.inl ⟨κ, ρ, μ, he, hs, ?_⟩)
        rw [e]
        intro κ1 H1 e1 s1 v rv
        cases k
        simp only [Rel] at rv
        obtain ⟨a, vs, rfl, h2, h3⟩ := rv
        refine ⟨a, rfl, ⟨vs, by rw [xg.K]; exact h2.sq⟩, ?_⟩
        rw [xg.K]
        exact hb2 κ1 H1 e1 s1 _ (wk_tup h2 h3)
      | str x =>
        refine .inr (.inr ⟨κ, ρ, μ, he, hs, ?_⟩)
        rw [e]
        intro κ1 H1 e1 s1 v rv
        cases k
        simp only [Rel] at rv
        exact ⟨x, rv, hb2 κ1 H1 e1 s1 _ wk_str⟩
      | cell i =>
        refine .inl ⟨κ, ρ, μ, he, hs, ?_⟩
        rw [e]
        intro κ1 H1 e1 s1 v rv
        simp only [Rel] at rv
        simp only [wkOf] at k
        cases ec : μ1[i]? with
        | none => rw [ec] at k; cases k
        | some co =>
          rw [ec] at k
          cases co with
          | lst xs =>
            cases k
            obtain ⟨o, h1, h2⟩ := s1.at_ i _ ec
            obtain ⟨p, vs, rfl, h3, h4⟩ := h2
            refine ⟨p, rv.2 p h1, ⟨vs, .inl (.inl h3)⟩, ?_⟩
            rw [xg.K]
            exact hb2 κ1 H1 e1 s1 _ (wk_cell h1)
          | _ => cases k
      | _ => cases k
/-- range(n), range(a, b) -/
def inB (i : Int) : Bool := Nat.ble i.natAbs 4611686018427387903
def rngOf1 : List DV → Option Wk
  | [.int j] => if inB j = true then some (.fix ((List.range j.toNat).map fun i => .int (0 + (i : Nat)))) else none
  | _ => none
def rngOf2 : List DV → Option Wk
  | [.int i, .int j] => if inB i = true ∧ inB j = true then some (.fix ((List.range (j - i).toNat).map fun k => .int (i + (k : Nat)))) else none
  | _ => none
def iRng1' (r : DA) : DI := fun ρ μ => (r ρ μ).bind fun ds μ1 => R.of (rngOf1 ds) μ1
def iRng2' (r : DA) : DI := fun ρ μ => (r ρ μ).bind fun ds μ1 => R.of (rngOf2 ds) μ1
theorem inB_iff {i : Int} (h : inB i = true) : -(2 ^ 62) ≤ i ∧ i < 2 ^ 62 := by
  have h' : i.natAbs ≤ 4611686018427387903 := Nat.le_of_ble_eq_true h
  omega
theorem rng1_some {ds : List DV} {k : Wk} (h : rngOf1 ds = some k) : ∃ j, ds = [.int j] ∧ inB j = true ∧ k = .fix ((List.range j.toNat).map fun i => .int (0 + (i : Nat))) := by
  unfold rngOf1 at h
  split at h
  · split at h
    · rename_i j hb; cases h; exact ⟨j, rfl, hb, rfl⟩
    · cases h
  · cases h
theorem rng2_some {ds : List DV} {k : Wk} (h : rngOf2 ds = some k) : ∃ i j, ds = [.int i, .int j] ∧ inB i = true ∧ inB j = true ∧ k = .fix ((List.range (j - i).toNat).map fun k => .int (i + (k : Nat))) := by
  unfold rngOf2 at h
  split at h
  · split at h
    · rename_i i j hb; cases h; exact ⟨i, j, rfl, hb.1, hb.2, rfl⟩
    · cases h
  · cases h
theorem gi_rng1 {tg a : Expr} {p pos : Pos} (hg : Gl X "range") (hm : X.mg "range" = none) (ha : GA g W X [a] fr) (hs : starEach [a] X.env = [(false, eval a X.env)] := by rfl) : GI g W X tg (.Call (.Name "range" p) [a] [] pos) (iRng1' fr) :=
  PI.imp (pi_range1 hg hm ha hs) fun σ H R q => by
  obtain ⟨κ, ρ, μ, he, hs, hw⟩ := q
  refine ⟨κ, ρ, μ, he, hs, hw.bind.mono fun ds μ1 κ1 H1 e1 s1 h1 vs rv => ?_⟩
  cases k : rngOf1 ds with
  | none => rw [k] at h1; exact h1.elim
  | some wk =>
    rw [k] at h1
    obtain ⟨j, rfl, hb, rfl⟩ := rng1_some k
    obtain ⟨v, r, rfl, q1, q2⟩ := rv.of_cons
    cases q2.of_nil
    simp only [Rel] at q1
    subst q1
    obtain ⟨b1, b2⟩ := inB_iff hb
    exact ⟨j, rfl, b1, b2, h1 κ1 H1 Ext.refl s1 _ wk_rng⟩
theorem gi_rng2 {tg a b : Expr} {p pos : Pos} (hg : Gl X "range") (hm : X.mg "range" = none) (ha : GA g W X [a, b] fr) (hs : starEach [a, b] X.env = [(false, eval a X.env), (false, eval b X.env)] := by rfl) (hs2 : starEach [b] X.env = [(false, eval b X.env)] := by rfl) :
    GI g W X tg (.Call (.Name "range" p) [a, b] [] pos) (iRng2' fr) :=
  PI.imp (pi_range2 hg hm ha hs hs2) fun σ H R q => by
  obtain ⟨κ, ρ, μ, he, hs, hw⟩ := q
  refine ⟨κ, ρ, μ, he, hs, hw.bind.mono fun ds μ1 κ1 H1 e1 s1 h1 vs rv => ?_⟩
  cases k : rngOf2 ds with
  | none => rw [k] at h1; exact h1.elim
  | some wk =>
    rw [k] at h1
    obtain ⟨i, j, rfl, hb, hb', rfl⟩ := rng2_some k
    obtain ⟨v, r, rfl, q1, q2⟩ := rv.of_cons
    obtain ⟨v', r', rfl, q3, q4⟩ := q2.of_cons
    cases q4.of_nil
    simp only [Rel] at q1 q3
    subst q1 q3
    obtain ⟨b1, b2⟩ := inB_iff hb
    obtain ⟨b3, b4⟩ := inB_iff hb'
    exact ⟨i, j, rfl, ⟨b1, b2, b3, b4⟩, h1 κ1 H1 Ext.refl s1 _ wk_rng⟩
end
end SD

set_option Elab.async false
set_option linter.all false
set_option maxRecDepth 100000
set_option maxHeartbeats 4000000
/-! SD, fourth part: for, comprehensions. -/
namespace SD
open PySem PySem.Spec PyProof.Rows L2
section
variable {g : Gc} {W : WX} {X : Cx} {a b c e : Expr} {es : List Expr} {fa fb fc : DE} {ft : DT} {fr : DA} {pos : Pos} {st : Stmt} {sts stb : List Stmt} {f h fs fu : DS}

/-! ### for -/
def loopF (w : Wk) (t : DG) (f : DS) : Nat → Nat → DS
  | 0, _ => fun _ _ => .stuck
  | n + 1, k => fun ρ μ => match wkAt w μ k with
    | none => .stuck
    | some none => .nx ρ μ
    | some (some d) => match t d ρ μ with
      | none => .stuck
      | some ρ1 => match f ρ1 μ with
        | .nx ρ' μ' => loopF w t f n (k + 1) ρ' μ'
        | .ct ρ' μ' => loopF w t f n (k + 1) ρ' μ'
        | .bk ρ' μ' => .nx ρ' μ'
        | r => r
def sFor (it : DI) (t : DG) (f : DS) : DS := fun ρ μ => (it ρ μ).toS ρ fun w μ1 => loopF w t f (wkLen w μ1 + 1) 0 ρ μ1
theorem gs_for {tg iter : Expr} {fi : DI} {t : DG} {sl : List Nat} (hp : PassesOwn (model X.prog X.w) X.A X.env X.xe) (hc : X.calm = true) (hi : GI g W X tg iter fi) (hg : GG g X tg sl t) (hb : GSs g W X sts f)
    (hs : ∀ x, foldedSetIterable iter X.env x = pure x := by intro _; rfl) : GS g W X (.For tg iter sts [] pos) (sFor fi t f) := PS.imp (ps_for hp hc hi hg hb hs) fun D σ H q => by
  obtain ⟨κ, ρ, μ, he, hs, hw⟩ := q
  refine ⟨κ, ρ, μ, he, hs, (wpS.bind he hw).mono fun w μ1 κ1 H1 e1 s1 h1 J wk => ?_⟩
  refine ⟨fun i m σ H => ∃ κ ρ μ, Ext κ1 H1 κ H ∧ RelE g κ H ρ σ ∧ StoOk g κ H μ ∧ wpS g W D κ H (loopF w t f m i ρ μ), ⟨_, κ1, ρ, μ1, Ext.refl, he.ext e1, s1, h1⟩, ?_⟩
  intro i m σ2 H2 q
  obtain ⟨κ2, ρ2, μ2, e2, he2, s2, h2⟩ := q
  cases m with
  | zero => exact h2.elim
  | succ m =>
    unfold loopF at h2
    cases ew : wkAt w μ2 i with
    | none => rw [ew] at h2; exact h2.elim
    | some o =>
      rw [ew] at h2
      cases o with
      | none => exact .inl ⟨wk.stop i κ2 H2 μ2 e2.toExt0 s2 ew, h2 κ2 H2 σ2 Ext.refl s2 he2⟩
      | some d =>
        refine .inr ⟨wk.go i κ2 H2 μ2 d e2.toExt0 s2 ew, fun σ' H' => ∃ κ ρ μ, Ext κ1 H1 κ H' ∧ RelE g κ H' ρ σ' ∧ StoOk g κ H' μ ∧ wpS g W D κ H' (loopF w t f m (i + 1) ρ μ), fun σ' H' q => ⟨m, Nat.lt_succ_self _, q⟩, fun x H' y => ?_⟩
        obtain ⟨e3, s3, rx⟩ := wk.yld i κ2 H2 μ2 d x H' e2.toExt0 s2 ew y
        refine ⟨κ2, d, ρ2, μ2, rx, he2.ext e3, s3, ?_⟩
        simp only at h2
        cases et : t d ρ2 μ2 with
        | none => rw [et] at h2; exact h2.elim
        | some ρ3 =>
          rw [et] at h2
          intro σ3 he3 _ _
          refine ⟨κ2, ρ3, μ2, he3, s3, ?_⟩
          simp only at h2
          cases ef : f ρ3 μ2 with
          | nx ρ' μ' => rw [ef] at h2; exact fun κ4 H4 σ4 e4 s4 q4 => ⟨κ4, ρ', μ', e2.trans (e3.trans e4), q4, s4, wpS.ext (e3.trans e4) h2⟩
          | ct ρ' μ' => rw [ef] at h2; exact fun κ4 H4 σ4 e4 s4 q4 => ⟨κ4, ρ', μ', e2.trans (e3.trans e4), q4, s4, wpS.ext (e3.trans e4) h2⟩
          | bk ρ' μ' => rw [ef] at h2; exact wpS.ext e3 h2
          | rt d μ' => rw [ef] at h2; exact wpS.ext e3 h2
          | ex c ns xs ρ' μ' => rw [ef] at h2; exact wpS.ext e3 h2
          | stuck => rw [ef] at h2; exact h2

/-! ### comprehensions -/
abbrev W0 : WX := fun _ _ _ _ => False
def wipeE (ρ : En) : List Nat → En
  | [] => ρ
  | v :: vs => (wipeE ρ vs).set v none
theorem RelE.wipe {κ : KA} {H : Hp} {ρ : En} {σ : L2.St} (h : RelE g κ H ρ σ) : ∀ vs : List Nat, RelE g κ H (wipeE ρ vs) (wipe σ vs)
  | [] => h
  | v :: vs => (RelE.wipe h vs).unset
def R.nox {α : Type} (r : R α) : R α := match r with
  | .ok a μ => .ok a μ
  | _ => .stuck
/-- the items that a comprehension makes -/
def loopL (w : Wk) (t : DG) (tt : DT) (te : DE) (ρ : En) : Nat → Nat → Sto → R (List DV)
  | 0, _, _ => .stuck
  | n + 1, k, μ => match wkAt w μ k with
    | none => .stuck
    | some none => .ok [] μ
    | some (some d) => match t d ρ μ with
      | none => .stuck
      | some ρ1 => (tt ρ1 μ).nox.bind fun b μ1 => if b = true then (te ρ1 μ1).nox.bind fun y μ2 => (loopL w t tt te ρ n (k + 1) μ2).bind fun ys μ3 => .ok (y :: ys) μ3 else loopL w t tt te ρ n (k + 1) μ1
def tYes' : DT := fun _ μ => .ok true μ
def eLcL (it : DI) (t : DG) (tt : DT) (te : DE) (vs : List Nat) : En → Sto → R (List DV) := fun ρ μ => (it ρ μ).bind fun w μ1 => if okLen (wkLen w μ1 + 1) = true then loopL w t tt te (wipeE ρ vs) (wkLen w μ1 + 1) 0 μ1 else .stuck
def eLc (it : DI) (t : DG) (tt : DT) (te : DE) (vs : List Nat) : DE := fun ρ μ => (eLcL it t tt te vs ρ μ).bind fun ys μ1 => .ok (.lst ys) μ1
def eLcC (it : DI) (t : DG) (tt : DT) (te : DE) (vs : List Nat) : DE := fun ρ μ => (eLcL it t tt te vs ρ μ).bind fun ys μ1 => .ok (.cell μ1.length) (μ1 ++ [.lst ys])
abbrev GTs (g : Gc) (W : WX) (X : Cx) (ifs : List Expr) (f : DT) : Prop := PTs X ifs (tT g W f)
theorem PTs.imp {X : Cx} {ifs : List Expr} {t u : TT} (h : PTs X ifs t) (f : ∀ σ H Q, u σ H Q → t σ H Q) : PTs X ifs u := ⟨fun pins s σ H Q I q => h.run pins s σ H Q I (f _ _ _ q)⟩
theorem gts_nil : GTs g W X [] tYes' := PTs.imp pts_nil fun σ H Q q => by
  obtain ⟨κ, ρ, μ, he, hs, hw⟩ := q
  exact hw κ H Ext.refl hs
theorem gts_one (h : GT g W X c ft) : GTs g W X [c] ft := PTs.imp (pts_one h) fun _ _ _ q => q

/-- what a comprehension's end wants -/
def lcEnd (g : Gc) (W : WX) (σ : L2.St) (Q : VK) (fin : List DV → Sto → R DV) (κ : KA) (H : Hp) (r : R (List DV)) : Prop :=
  wpR g W σ κ H (r.bind fin) (fun d _ κ' H' => ∀ v, Rel g κ' H' d v → Q v H')
theorem wipe_get (i : Nat) : ∀ (vs : List Nat) (τ : L2.St), (wipe τ vs)[i]? = if i ∈ vs then (if i < τ.length then some none else none) else τ[i]?
  | [], τ => by simp [wipe]
  | v :: vs, τ => by
    unfold wipe
    by_cases hv : v = i
    · subst hv
      rw [if_pos (by simp)]
      by_cases hb : v < τ.length
      · rw [List.getElem?_set_self (by rw [wipe_length]; exact hb), if_pos hb]
      · rw [List.getElem?_eq_none (by rw [List.length_set, wipe_length]; omega), if_neg hb]
    · rw [List.getElem?_set_ne hv, wipe_get i vs τ]
      by_cases hm : i ∈ vs
      · rw [if_pos hm, if_pos (List.mem_cons_of_mem _ hm)]
      · rw [if_neg hm, if_neg (fun h => (List.mem_cons.mp h).elim (fun e => hv e.symm) hm)]
theorem wipe_eq {σ σ' : L2.St} {vs sl : List Nat} (hl : σ'.length = (wipe σ vs).length) (hk : ∀ i, i ∉ sl → σ'[i]? = (wipe σ vs)[i]?) (hsl : ∀ i ∈ sl, i ∈ vs) : wipe σ' vs = wipe σ vs := by
  apply List.ext_getElem?
  intro i
  rw [wipe_get, wipe_get]
  by_cases hm : i ∈ vs
  · rw [if_pos hm, if_pos hm, hl, wipe_length]
  · rw [if_neg hm, if_neg hm, hk i fun h => hm (hsl i h), wipe_get, if_neg hm]

/-- the heart: the list D is filled; at its end fin takes the items -/
theorem lc_read {fi : DI} {t : DG} {tt : DT} {te : DE} {vs sl : List Nat} {fin : List DV → Sto → R DV} {σ : L2.St} {H : Hp} {Q : VK} (hsl : ∀ i ∈ sl, i ∈ vs)
    (hfin : ∀ (κ1 : KA) (H1 : Hp) (κ : KA) (H : Hp) (μ1 μ : Sto) (D : Addr) (acc : List DV) (avs : List V), StoOk g κ1 H1 μ1 → H1 D = none → κ.gh = κ1.gh → Ext0 κ1 H1 (κ.hide D) H → (∀ a ∈ κ1.gh, H a = H1 a) →
      StoOk g (κ.hide D) H μ → H D = some (.lst avs) → RelL g (κ.hide D) H acc avs → wpR g W σ κ1 H1 (fin acc μ) (fun d _ κ' H' => ∀ v, Rel g κ' H' d v → Q v H') → Q (.ref D) H)
    (q : tE g W (fun ρ μ => (eLcL fi t tt te vs ρ μ).bind fin) σ H Q) : tLc (tI g W fi) (tG g sl t) (tT g W0 tt) (tE g W0 te) vs σ H Q := by
  obtain ⟨κ, ρ, μ, he, hs, hw⟩ := q
  have hw : wpR g W σ κ H ((fi ρ μ).bind fun w μ1 => (if okLen (wkLen w μ1 + 1) = true then loopL w t tt te (wipeE ρ vs) (wkLen w μ1 + 1) 0 μ1 else .stuck).bind fin) (fun d _ κ' H' => ∀ v, Rel g κ' H' d v → Q v H') := by
    have e : (eLcL fi t tt te vs ρ μ).bind fin = (fi ρ μ).bind fun w μ1 => (if okLen (wkLen w μ1 + 1) = true then loopL w t tt te (wipeE ρ vs) (wkLen w μ1 + 1) 0 μ1 else .stuck).bind fin := by
      unfold eLcL
      cases fi ρ μ <;> rfl
    rw [← e]; exact hw
  refine ⟨κ, ρ, μ, he, hs, hw.bind.mono fun w μ1 κ1 H1 e1 s1 h1 J wk D hD => ?_⟩
  by_cases hz : okLen (wkLen w μ1 + 1) = true
  case neg => rw [if_neg hz] at h1; exact h1.elim
  rw [if_pos hz] at h1
  have he1 := (he.ext e1).wipe vs
  have hz : wkLen w μ1 + 1 ≤ sizeLine := by simpa [okLen] using hz
  generalize hn : wkLen w μ1 = n at h1 hz
  -- the word
  refine ⟨fun i m H => ∃ (κ : KA) (μ : Sto) (acc : List DV) (avs : List V), κ.gh = κ1.gh ∧ Ext0 κ1 H1 (κ.hide D) H ∧ (∀ a ∈ κ1.gh, H a = H1 a) ∧ RelE g (κ.hide D) H (wipeE ρ vs) (wipe σ vs) ∧ StoOk g (κ.hide D) H μ ∧ H D = some (.lst avs) ∧ RelL g (κ.hide D) H acc avs ∧
      acc.length + m ≤ n + 1 ∧ wpR g W σ κ1 H1 ((loopL w t tt te (wipeE ρ vs) m i μ).bind fun ys μ' => fin (acc ++ ys) μ') (fun d _ κ' H' => ∀ v, Rel g κ' H' d v → Q v H'),
    ⟨n + 1, κ1, μ1, [], [], rfl, Ext0.hide hD, fun a ha => by obtain ⟨⟨u, hu⟩, _⟩ := s1.gst a ha; exact upd_ne (ne_of_none hu hD), ⟨he1.len, fun i d hd => by
      obtain ⟨v, a1, a2⟩ := he1.at_ i d hd
      exact ⟨v, a1, a2.ext0 (Ext0.hide hD)⟩⟩, s1.hide hD, upd_same, RelL.nil, by simp, h1⟩, ?_⟩
  intro i m H2 q
  obtain ⟨κ2, μ2, acc, avs, g2, x2, v2, he2, s2, hD2, ra, hm, h2⟩ := q
  cases m with
  | zero => exact h2.elim
  | succ m =>
    unfold loopL at h2
    cases ew : wkAt w μ2 i with
    | none => rw [ew] at h2; exact h2.elim
    | some o =>
      rw [ew] at h2
      cases o with
      | none =>
        refine .inl ⟨wk.stop i _ H2 μ2 x2 s2 ew, ?_⟩
        have h3 : wpR g W σ κ1 H1 (fin (acc ++ []) μ2) (fun d _ κ' H' => ∀ v, Rel g κ' H' d v → Q v H') := h2
        rw [List.append_nil] at h3
        exact hfin κ1 H1 κ2 H2 μ1 μ2 D acc avs s1 hD g2 x2 v2 s2 hD2 ra h3
      | some d =>
        refine .inr ⟨wk.go i _ H2 μ2 d x2 s2 ew, fun H => ∃ (κ : KA) (μ : Sto) (acc : List DV) (avs : List V), κ.gh = κ1.gh ∧ Ext0 κ1 H1 (κ.hide D) H ∧ (∀ a ∈ κ1.gh, H a = H1 a) ∧ RelE g (κ.hide D) H (wipeE ρ vs) (wipe σ vs) ∧ StoOk g (κ.hide D) H μ ∧ H D = some (.lst avs) ∧ RelL g (κ.hide D) H acc avs ∧
            acc.length + m ≤ n + 1 ∧ wpR g W σ κ1 H1 ((loopL w t tt te (wipeE ρ vs) m (i + 1) μ).bind fun ys μ' => fin (acc ++ ys) μ') (fun d _ κ' H' => ∀ v, Rel g κ' H' d v → Q v H'), fun H' q => ⟨m, Nat.lt_succ_self _, q⟩, fun x H' y => ?_⟩
        obtain ⟨e3, s3, rx⟩ := wk.yld i _ H2 μ2 d x H' x2 s2 ew y
        refine ⟨κ2.hide D, d, wipeE ρ vs, μ2, rx, he2.ext e3, s3, ?_⟩
        simp only at h2
        cases et : t d (wipeE ρ vs) μ2 with
        | none => rw [et] at h2; exact h2.elim
        | some ρ3 =>
          rw [et] at h2
          intro σ3 he3 hl3 hk3
          refine ⟨wipe_eq hl3 hk3 hsl, κ2.hide D, ρ3, μ2, he3, s3, ?_⟩
          have hz0 : ∀ {α : Type} {r : R α} {Φ : α → Sto → KA → Hp → Prop}, (∀ a μ, r = .ok a μ → ∀ κ' H'', Ext (κ2.hide D) H' κ' H'' → StoOk g κ' H'' μ → Φ a μ κ' H'') → (∀ c ns xs μ, r ≠ .ex c ns xs μ) → r ≠ .stuck → wpR g W0 σ3 (κ2.hide D) H' r Φ := by
            intro α r Φ h1 h2 h3
            cases r with
            | ok a μ => exact h1 a μ rfl
            | ex c ns xs μ => exact (h2 c ns xs μ rfl).elim
            | stuck => exact (h3 rfl).elim
          -- the state behind the item
          have x3 : Ext0 κ1 H1 (κ2.hide D) H' := x2.trans e3.toExt0
          have v3 : ∀ a ∈ κ1.gh, H' a = H1 a := fun a ha => (e3.ghv a (by show a ∈ D :: κ2.gh; rw [g2]; exact List.mem_cons_of_mem _ ha)).trans (v2 a ha)
          have hD3 : H' D = some (.lst avs) := (e3.ghv D (by show D ∈ D :: κ2.gh; simp)).trans hD2
          have ra3 := ra.ext e3
          have he3' := he2.ext e3
          -- hides again
          have again : ∀ {κ4 : KA}, κ4.gh = (κ2.hide D).gh → κ4 = (KA.mk κ4.cs κ2.gh).hide D := fun {κ4} e => by
            obtain ⟨cs, gh⟩ := κ4
            show KA.mk cs gh = KA.mk cs (D :: κ2.gh)
            rw [show gh = D :: κ2.gh from e]
          simp only at h2
          cases eb : tt ρ3 μ2 with
          | stuck => rw [eb] at h2; exact h2.elim
          | ex c ns xs μ3 => rw [eb] at h2; exact h2.elim
          | ok b μ3 =>
            rw [eb] at h2
            intro κ3 H3 e4 s4
            have x4 : Ext0 κ1 H1 κ3 H3 := x3.trans e4.toExt0
            have v4 : ∀ a ∈ κ1.gh, H3 a = H1 a := fun a ha => (e4.ghv a (by show a ∈ D :: κ2.gh; rw [g2]; exact List.mem_cons_of_mem _ ha)).trans (v3 a ha)
            have hD4 : H3 D = some (.lst avs) := (e4.ghv D (by show D ∈ D :: κ2.gh; simp)).trans hD3
            have k3 := again e4.ghs
            cases b with
            | false =>
              refine iteF ?_
              have h3 : wpR g W σ κ1 H1 ((loopL w t tt te (wipeE ρ vs) m (i + 1) μ3).bind fun ys μ' => fin (acc ++ ys) μ') (fun d _ κ' H' => ∀ v, Rel g κ' H' d v → Q v H') := h2
              exact ⟨KA.mk κ3.cs κ2.gh, μ3, acc, avs, g2, by rw [← k3]; exact x4, v4, by rw [← k3]; exact he3'.ext e4, by rw [← k3]; exact s4, hD4, by rw [← k3]; exact ra3.ext e4, by omega, h3⟩
            | true =>
              refine iteT ?_
              refine ⟨κ3, ρ3, μ3, he3.ext e4, s4, ?_⟩
              cases ey : te ρ3 μ3 with
              | stuck => 
                have h3 : wpR g W σ κ1 H1 (((te ρ3 μ3).nox.bind fun y μ2 => (loopL w t tt te (wipeE ρ vs) m (i + 1) μ2).bind fun ys μ3 => .ok (y :: ys) μ3).bind fun ys μ' => fin (acc ++ ys) μ') (fun d _ κ' H' => ∀ v, Rel g κ' H' d v → Q v H') := h2
                rw [ey] at h3; exact h3.elim
              | ex c ns xs μ4 =>
                have h3 : wpR g W σ κ1 H1 (((te ρ3 μ3).nox.bind fun y μ2 => (loopL w t tt te (wipeE ρ vs) m (i + 1) μ2).bind fun ys μ3 => .ok (y :: ys) μ3).bind fun ys μ' => fin (acc ++ ys) μ') (fun d _ κ' H' => ∀ v, Rel g κ' H' d v → Q v H') := h2
                rw [ey] at h3; exact h3.elim
              | ok yv μ4 =>
                have h3 : wpR g W σ κ1 H1 (((te ρ3 μ3).nox.bind fun y μ2 => (loopL w t tt te (wipeE ρ vs) m (i + 1) μ2).bind fun ys μ3 => .ok (y :: ys) μ3).bind fun ys μ' => fin (acc ++ ys) μ') (fun d _ κ' H' => ∀ v, Rel g κ' H' d v → Q v H') := h2
                rw [ey] at h3
                have h4 : wpR g W σ κ1 H1 ((loopL w t tt te (wipeE ρ vs) m (i + 1) μ4).bind fun ys μ' => fin ((acc ++ [yv]) ++ ys) μ') (fun d _ κ' H' => ∀ v, Rel g κ' H' d v → Q v H') := by
                  have e : (loopL w t tt te (wipeE ρ vs) m (i + 1) μ4).bind (fun ys μ' => fin ((acc ++ [yv]) ++ ys) μ') = (((R.ok yv μ4 : R DV).nox.bind fun y μ2 => (loopL w t tt te (wipeE ρ vs) m (i + 1) μ2).bind fun ys μ3 => .ok (y :: ys) μ3).bind fun ys μ' => fin (acc ++ ys) μ') := by
                    show _ = ((loopL w t tt te (wipeE ρ vs) m (i + 1) μ4).bind fun ys μ3 => R.ok (yv :: ys) μ3).bind fun ys μ' => fin (acc ++ ys) μ'
                    cases loopL w t tt te (wipeE ρ vs) m (i + 1) μ4 with
                    | ok ys μ5 => show fin ((acc ++ [yv]) ++ ys) μ5 = fin (acc ++ yv :: ys) μ5; rw [List.append_assoc]; rfl
                    | ex c ns xs μ5 => rfl
                    | stuck => rfl
                  rw [e]; exact h3
                intro κ4 H4 e5 s5 v rv
                have x5 : Ext0 κ1 H1 κ4 H4 := x4.trans e5.toExt0
                have gh4 : κ4.gh = (κ2.hide D).gh := e5.ghs.trans e4.ghs
                have mD : D ∈ κ4.gh := by rw [gh4]; show D ∈ D :: κ2.gh; simp
                have v5 : ∀ a ∈ κ1.gh, H4 a = H1 a := fun a ha => (e5.ghv a (by rw [e4.ghs]; show a ∈ D :: κ2.gh; rw [g2]; exact List.mem_cons_of_mem _ ha)).trans (v4 a ha)
                have hD5 : H4 D = some (.lst avs) := (e5.ghv D (by rw [e4.ghs]; show D ∈ D :: κ2.gh; simp)).trans hD4
                have k4 := again gh4
                have ra5 := (ra3.ext e4).ext e5
                have xw : Ext0 κ4 H4 κ4 (upd H4 D (.lst (avs ++ [v]))) := Ext0.write (.inr mD)
                have dn : ∀ a ∈ κ1.gh, a ≠ D := fun a ha e => by
                  obtain ⟨⟨u, hu⟩, _⟩ := s1.gst a ha
                  rw [e, hD] at hu; cases hu
                refine ⟨avs, hD5, ?_, ?_⟩
                · have := ra5.length; omega
                · have heX := (he3'.ext e4).ext e5
                  have he6 : RelE g κ4 (upd H4 D (.lst (avs ++ [v]))) (wipeE ρ vs) (wipe σ vs) := ⟨heX.len, fun i d hd => by
                    obtain ⟨v', a1, a2⟩ := heX.at_ i d hd
                    exact ⟨v', a1, a2.ext0 xw⟩⟩
                  exact ⟨KA.mk κ4.cs κ2.gh, μ4, acc ++ [yv], avs ++ [v], g2, by rw [← k4]; exact x5.trans xw, fun a ha => by rw [upd_ne (dn a ha)]; exact v5 a ha, by rw [← k4]; exact he6, by rw [← k4]; exact s5.fill mD, upd_same, by rw [← k4]; exact RelL.append (ra5.ext0 xw) (RelL.cons (rv.ext0 xw) RelL.nil), by simp; omega, h4⟩
theorem lcL_unf {fi : DI} {t : DG} {tt : DT} {te : DE} {vs : List Nat} : eLc fi t tt te vs = fun ρ μ => (eLcL fi t tt te vs ρ μ).bind fun ys μ1 => .ok (.lst ys) μ1 := rfl
theorem lc_frozen {fi : DI} {t : DG} {tt : DT} {te : DE} {vs sl : List Nat} {σ : L2.St} {H : Hp} {Q : VK} (hsl : ∀ i ∈ sl, i ∈ vs) (q : tE g W (eLc fi t tt te vs) σ H Q) : tLc (tI g W fi) (tG g sl t) (tT g W0 tt) (tE g W0 te) vs σ H Q := by
  refine lc_read hsl (fun κ1 H1 κ H μ1 μ D acc avs s1 hD g2 x v s hD2 ra h => ?_) q
  have nD : ¬ κ.has D := fun m => m.elim (fun m => (s.gst D (by show D ∈ D :: κ.gh; simp)).2 m) fun m => by
    rw [g2] at m
    obtain ⟨⟨u, hu⟩, _⟩ := s1.gst D m
    rw [hD] at hu; cases hu
  have ex : Ext κ1 H1 κ H := ⟨x.trans Ext0.show', g2, v⟩
  refine h κ H ex s.show' (.ref D) ?_
  simp only [Rel]
  exact ⟨D, avs, rfl, ⟨hD2, nD⟩, ra.ext0 Ext0.show'⟩
/-- the hidden list becomes a cell -/
theorem unhide_cell {κ : KA} {H : Hp} {μ : Sto} {D : Addr} {acc : List DV} {avs : List V} (s : StoOk g (κ.hide D) H μ) (nD : ¬ κ.has D) (hD : H D = some (.lst avs)) (ra : RelL g (κ.hide D) H acc avs) :
    StoOk g (κ.more D) H (μ ++ [.lst acc]) ∧ Ext0 (κ.hide D) H (κ.more D) H ∧ Rel g (κ.more D) H (.cell μ.length) (.ref D) := by
  have xe : Ext0 (κ.hide D) H (κ.more D) H := {
    keep := fun _ _ h _ => h
    sep := fun a o ha n m => by
      rcases m with m | m
      · rcases List.mem_append.mp m with m | m
        · exact n (.inl m)
        · have : a = D := by simpa using m
          exact n (.inr (by rw [this]; show D ∈ D :: κ.gh; simp))
      · exact n (.inr (List.mem_cons_of_mem _ m))
    len := by show κ.cs.length ≤ (κ.cs ++ [some D]).length; simp
    old := fun i a hi e => by
      have e : (κ.cs ++ [some D])[i]? = some (some a) := e
      have hi : i < κ.cs.length := hi
      rwa [List.getElem?_append_left hi] at e }
  have sl : κ.cs.length = μ.length := s.len
  refine ⟨{ len := ?_, inj := ?_, at_ := ?_, gst := ?_ }, xe, ?_⟩
  · show (κ.cs ++ [some D]).length = _; simp [sl]
  · intro i j a hi hj
    have key : ∀ (i : Nat), (κ.cs ++ [some D])[i]? = some (some a) → (i < κ.cs.length ∧ κ.cs[i]? = some (some a)) ∨ (i = κ.cs.length ∧ a = D) := fun i hi => by
      by_cases hl : i < κ.cs.length
      · rw [List.getElem?_append_left hl] at hi; exact .inl ⟨hl, hi⟩
      · rw [List.getElem?_append_right (by omega)] at hi
        have : i - κ.cs.length = 0 := by
          have := (List.getElem?_eq_some_iff.mp hi).1
          simp at this; omega
        rw [this] at hi
        have e : D = a := by simpa using hi
        exact .inr ⟨by omega, e.symm⟩
    have nk : ∀ i : Nat, κ.cs[i]? = some (some D) → False := fun i hi => nD (.inl (List.mem_of_getElem? hi))
    rcases key i hi with ⟨h1, h2⟩ | ⟨h1, h2⟩ <;> rcases key j hj with ⟨h3, h4⟩ | ⟨h3, h4⟩
    · exact s.inj i j a h2 h4
    · rw [h4] at h2; exact (nk _ h2).elim
    · rw [h2] at h4; exact (nk _ h4).elim
    · omega
  · intro i c' hc'
    show ∃ a, (κ.cs ++ [some D])[i]? = some a ∧ _
    by_cases hl : i < μ.length
    · rw [List.getElem?_append_left hl] at hc'
      obtain ⟨a, h1, h2⟩ := s.at_ i c' hc'
      have h1 : κ.cs[i]? = some a := h1
      exact ⟨a, by rw [List.getElem?_append_left (by rw [sl]; exact hl)]; exact h1, h2.ext0 xe fun _ _ => rfl⟩
    · rw [List.getElem?_append_right (by omega)] at hc'
      have e0 : i - μ.length = 0 := by
        have := (List.getElem?_eq_some_iff.mp hc').1
        simp at this; omega
      rw [e0] at hc'
      have ec : CO.lst acc = c' := by simpa using hc'
      subst ec
      refine ⟨some D, ?_, D, avs, rfl, hD, ra.ext0 xe⟩
      rw [List.getElem?_append_right (by rw [sl]; omega), sl, e0]; rfl
  · intro a ha
    obtain ⟨h1, h2⟩ := s.gst a (List.mem_cons_of_mem _ ha)
    refine ⟨h1, fun m => ?_⟩
    rcases List.mem_append.mp m with m | m
    · exact h2 m
    · have : a = D := by simpa using m
      exact nD (.inr (this ▸ ha))
  · simp only [Rel]
    refine ⟨by show μ.length < (κ.cs ++ [some D]).length; simp [sl], fun a ha => ?_⟩
    have ha : (κ.cs ++ [some D])[μ.length]? = some (some a) := ha
    rw [← sl, List.getElem?_append_right (Nat.le_refl _)] at ha
    simp at ha
    rw [ha]
theorem lc_cell {fi : DI} {t : DG} {tt : DT} {te : DE} {vs sl : List Nat} {σ : L2.St} {H : Hp} {Q : VK} (hsl : ∀ i ∈ sl, i ∈ vs) (q : tE g W (eLcC fi t tt te vs) σ H Q) : tLc (tI g W fi) (tG g sl t) (tT g W0 tt) (tE g W0 te) vs σ H Q := by
  refine lc_read hsl (fun κ1 H1 κ H μ1 μ D acc avs s1 hD g2 x v s hD2 ra h => ?_) q
  have nD : ¬ κ.has D := fun m => m.elim (fun m => (s.gst D (by show D ∈ D :: κ.gh; simp)).2 m) fun m => by
    rw [g2] at m
    obtain ⟨⟨u, hu⟩, _⟩ := s1.gst D m
    rw [hD] at hu; cases hu
  obtain ⟨s3, x3, r3⟩ := unhide_cell s nD hD2 ra
  exact h (κ.more D) H ⟨x.trans x3, g2, v⟩ s3 _ r3
section
variable {elt tg iter : Expr} {ifs : List Expr} {scope : Scope} {own : List (Str × Nat)} {fi : DI} {t : DG} {tt : DT} {te : DE} {sl : List Nat} {N : List Str} {sc : Scope}
theorem ge_lc (hc : X.calm = true) (hN : X.N.Nodup) (hi : GI g W X tg iter fi) (eN : X.N = N) (eS : X.env.scope = sc) (ok : blkC N sc scope own = true)
    (hg : ∀ (s : Shared) (H : Hp) (C : Addr) (cl : List (Str × Addr)) (fp : List Addr), GG g (X.blk s H scope (compEnvC scope cl C X.env) fp) tg sl t)
    (ht : ∀ (s : Shared) (H : Hp) (C : Addr) (cl : List (Str × Addr)) (fp : List Addr), GTs g W0 (X.blk s H scope (compEnvC scope cl C X.env) fp) ifs tt)
    (he : ∀ (s : Shared) (H : Hp) (C : Addr) (cl : List (Str × Addr)) (fp : List Addr), GE g W0 (X.blk s H scope (compEnvC scope cl C X.env) fp) elt te)
    (hsl : sl.all (fun i => decide (i ∈ own.map (·.2))) = true := by rfl) (hs : ∀ x, foldedSetIterable iter X.env x = pure x := by intro _; rfl) :
    GE g W X (.ListComp elt [⟨tg, iter, ifs, 0⟩] scope pos) (eLc fi t tt te (own.map (·.2))) :=
  by
  subst eN eS
  exact PE.imp (pe_lc hc hN hi (blkOk_by ok) hg ht he hs) fun _ _ _ q => lc_frozen (fun i hi => of_decide_eq_true (List.all_eq_true.mp hsl i hi)) q
theorem ge_lcC (hc : X.calm = true) (hN : X.N.Nodup) (hi : GI g W X tg iter fi) (eN : X.N = N) (eS : X.env.scope = sc) (ok : blkC N sc scope own = true)
    (hg : ∀ (s : Shared) (H : Hp) (C : Addr) (cl : List (Str × Addr)) (fp : List Addr), GG g (X.blk s H scope (compEnvC scope cl C X.env) fp) tg sl t)
    (ht : ∀ (s : Shared) (H : Hp) (C : Addr) (cl : List (Str × Addr)) (fp : List Addr), GTs g W0 (X.blk s H scope (compEnvC scope cl C X.env) fp) ifs tt)
    (he : ∀ (s : Shared) (H : Hp) (C : Addr) (cl : List (Str × Addr)) (fp : List Addr), GE g W0 (X.blk s H scope (compEnvC scope cl C X.env) fp) elt te)
    (hsl : sl.all (fun i => decide (i ∈ own.map (·.2))) = true := by rfl) (hs : ∀ x, foldedSetIterable iter X.env x = pure x := by intro _; rfl) :
    GE g W X (.ListComp elt [⟨tg, iter, ifs, 0⟩] scope pos) (eLcC fi t tt te (own.map (·.2))) :=
  by
  subst eN eS
  exact PE.imp (pe_lc hc hN hi (blkOk_by ok) hg ht he hs) fun _ _ _ q => lc_cell (fun i hi => of_decide_eq_true (List.all_eq_true.mp hsl i hi)) q
/-- name = [..] on one line -/
theorem gs_setLc {i : Nat} {y : Str} {py spos : Pos} (hc : X.calm = true) (hN : X.N.Nodup) (hy : X.N[i]? = some y) (hyl : X.env.scope.names.lookup y = some .local)
    (hsw : swapsWith (.ListComp elt [⟨tg, iter, ifs, 0⟩] scope pos) (some (.Name y py)) spos.line X.env = pure true) (hi : GI g W X tg iter fi) (eN : X.N = N) (eS : X.env.scope = sc) (ok : blkC N sc scope own = true)
    (hg : ∀ (s : Shared) (H : Hp) (C : Addr) (cl : List (Str × Addr)) (fp : List Addr), GG g (X.blk s H scope (compEnvC scope cl C X.env) fp) tg sl t)
    (ht : ∀ (s : Shared) (H : Hp) (C : Addr) (cl : List (Str × Addr)) (fp : List Addr), GTs g W0 (X.blk s H scope (compEnvC scope cl C X.env) fp) ifs tt)
    (he : ∀ (s : Shared) (H : Hp) (C : Addr) (cl : List (Str × Addr)) (fp : List Addr), GE g W0 (X.blk s H scope (compEnvC scope cl C X.env) fp) elt te)
    (hsl : sl.all (fun i => decide (i ∈ own.map (·.2))) = true := by rfl) (hs : ∀ x, foldedSetIterable iter X.env x = pure x := by intro _; rfl) :
    GS g W X (.Assign [.Name y py] (.ListComp elt [⟨tg, iter, ifs, 0⟩] scope pos) spos) (sAsg (eLc fi t tt te (own.map (·.2))) (gN i)) := by
  subst eN eS
  refine PS.imp (ps_setLc hc hN hy hyl hsw hi (blkOk_by ok) hg ht he hs) fun D σ H q => ?_
  refine lc_frozen (fun i hi => of_decide_eq_true (List.all_eq_true.mp hsl i hi)) ?_
  obtain ⟨κ, ρ, μ, he, hs, hw⟩ := q
  refine ⟨κ, ρ, μ, he, hs, (wpS.bind he hw).mono fun d μ1 κ1 H1 e1 s1 h1 v rv => ?_⟩
  exact h1 κ1 H1 _ Ext.refl s1 ((he.ext e1).set rv)
theorem gs_setLcC {i : Nat} {y : Str} {py spos : Pos} (hc : X.calm = true) (hN : X.N.Nodup) (hy : X.N[i]? = some y) (hyl : X.env.scope.names.lookup y = some .local)
    (hsw : swapsWith (.ListComp elt [⟨tg, iter, ifs, 0⟩] scope pos) (some (.Name y py)) spos.line X.env = pure true) (hi : GI g W X tg iter fi) (eN : X.N = N) (eS : X.env.scope = sc) (ok : blkC N sc scope own = true)
    (hg : ∀ (s : Shared) (H : Hp) (C : Addr) (cl : List (Str × Addr)) (fp : List Addr), GG g (X.blk s H scope (compEnvC scope cl C X.env) fp) tg sl t)
    (ht : ∀ (s : Shared) (H : Hp) (C : Addr) (cl : List (Str × Addr)) (fp : List Addr), GTs g W0 (X.blk s H scope (compEnvC scope cl C X.env) fp) ifs tt)
    (he : ∀ (s : Shared) (H : Hp) (C : Addr) (cl : List (Str × Addr)) (fp : List Addr), GE g W0 (X.blk s H scope (compEnvC scope cl C X.env) fp) elt te)
    (hsl : sl.all (fun i => decide (i ∈ own.map (·.2))) = true := by rfl) (hs : ∀ x, foldedSetIterable iter X.env x = pure x := by intro _; rfl) :
    GS g W X (.Assign [.Name y py] (.ListComp elt [⟨tg, iter, ifs, 0⟩] scope pos) spos) (sAsg (eLcC fi t tt te (own.map (·.2))) (gN i)) := by
  subst eN eS
  refine PS.imp (ps_setLc hc hN hy hyl hsw hi (blkOk_by ok) hg ht he hs) fun D σ H q => ?_
  refine lc_cell (fun i hi => of_decide_eq_true (List.all_eq_true.mp hsl i hi)) ?_
  obtain ⟨κ, ρ, μ, he, hs, hw⟩ := q
  refine ⟨κ, ρ, μ, he, hs, (wpS.bind he hw).mono fun d μ1 κ1 H1 e1 s1 h1 v rv => ?_⟩
  exact h1 κ1 H1 _ Ext.refl s1 ((he.ext e1).set rv)
end
end
end SD

set_option Elab.async false
set_option linter.all false
set_option maxRecDepth 100000
set_option maxHeartbeats 4000000
/-! SD, fifth part: defs and calls. -/
namespace SD
open PySem PySem.Spec PyProof.Rows L2

abbrev Fn := List DV → Sto → R DV
/-- how a def's value is handed back: fz: frozen; cl: as a new cell -/
inductive Md where | fz | cl
def finF (n : Nat) (d : DV) (μ : Sto) : R DV :=
  if μ.length = n then .ok d μ else
    if (μ.take n).all (CO.low n) = true then
      match d with
      | .cell i => if i < n then .ok (.cell i) (μ.take n) else match μ[i]? with
        | some (.lst xs) => if lowL n xs = true then .ok (.lst xs) (μ.take n) else .stuck
        | some (.ins c ns xs) => if lowL n xs = true then .ok (.obj c ns xs) (μ.take n) else .stuck
        | _ => .stuck
      | d => if d.low n = true then .ok d (μ.take n) else .stuck
    else .stuck
def finC (n : Nat) (d : DV) (μ : Sto) : R DV :=
  if (μ.take n).all (CO.low n) = true then
    match d with
    | .cell i => if i < n then .stuck else match μ[i]? with
      | some (.lst xs) => if lowL n xs = true then .ok (.cell n) (μ.take n ++ [.lst xs]) else .stuck
      | _ => .stuck
    | _ => .stuck
  else .stuck
def fin (md : Md) (n : Nat) (d : DV) (μ : Sto) : R DV := match md with
  | .fz => finF n d μ
  | .cl => finC n d μ
def finX (n c : Nat) (ns : List Str) (xs : List DV) (μ : Sto) : R DV :=
  if μ.length = n then .ex c ns xs μ else
    if ((μ.take n).all (CO.low n) && lowL n xs) = true then .ex c ns xs (μ.take n) else .stuck
/-- a def: np parameters, n slots -/
def runF (md : Md) (np n : Nat) (body : DS) : Fn := fun ds μ => if ds.length = np then
    match body (ds.map some ++ List.replicate (n - ds.length) none) μ with
    | .nx _ μ' => fin md μ.length .non μ'
    | .rt d μ' => fin md μ.length d μ'
    | .ex c ns xs _ μ' => finX μ.length c ns xs μ'
    | _ => .stuck
  else .stuck

section
variable {g : Gc} {κ κ' : KA} {H H' : Hp} {μ μ' : Sto}
theorem all_low {n : Nat} (h : (μ'.take n).all (CO.low n) = true) : ∀ c ∈ μ'.take n, c.low n = true := fun c hc => List.all_eq_true.mp h c hc
theorem finF_ok {d d' : DV} {μ'' : Sto} {v : V} (s : StoOk g κ H μ) (e : Ext κ H κ' H') (s' : StoOk g κ' H' μ') (r : Rel g κ' H' d v) (h : finF μ.length d μ' = .ok d' μ'') :
    ∃ κ'', Ext κ H κ'' H' ∧ StoOk g κ'' H' μ'' ∧ Rel g κ'' H' d' v := by
  unfold finF at h
  by_cases hl : μ'.length = μ.length
  · rw [if_pos hl] at h; cases h; exact ⟨κ', e, s', r⟩
  rw [if_neg hl] at h
  by_cases ha : (μ'.take μ.length).all (CO.low μ.length) = true
  case neg => rw [if_neg ha] at h; cases h
  rw [if_pos ha] at h
  have hn : μ.length ≤ κ'.cs.length := by rw [← s.len]; exact e.len
  have ex : Ext κ H (κ'.cut μ.length) H' := by rw [← s.len]; exact e.cut
  have so : StoOk g (κ'.cut μ.length) H' (μ'.take μ.length) := s'.cut hn (all_low ha)
  have gen : d.low μ.length = true → (R.ok d (μ'.take μ.length) : R DV) = .ok d' μ'' → ∃ κ'', Ext κ H κ'' H' ∧ StoOk g κ'' H' μ'' ∧ Rel g κ'' H' d' v := fun hb h => by
    cases h; exact ⟨_, ex, so, r.cut hn hb⟩
  cases d with
  | cell i =>
    simp only at h
    by_cases hi : i < μ.length
    · rw [if_pos hi] at h
      exact gen (by simp [DV.low, hi]) h
    · rw [if_neg hi] at h
      simp only [Rel] at r
      cases ec : μ'[i]? with
      | none => rw [ec] at h; cases h
      | some co =>
        rw [ec] at h
        obtain ⟨a, h1, h2⟩ := s'.at_ i _ ec
        have apart : ∀ p, κ'.cs[i]? = some (some p) → ¬ (κ'.cut μ.length).has p := fun p hp m => by
          rcases m with m | m
          · obtain ⟨j, hj⟩ := List.getElem?_of_mem m
            have hj : (κ'.cs.take μ.length)[j]? = some (some p) := hj
            have hlj := (List.getElem?_eq_some_iff.mp hj).1
            rw [List.length_take] at hlj
            rw [List.getElem?_take_of_lt (by omega)] at hj
            have := s'.inj i j p hp hj
            omega
          · exact (s'.gst p m).2 (List.mem_of_getElem? hp)
        cases co with
        | dead => cases h
        | lst xs =>
          simp only at h
          by_cases hx : lowL μ.length xs = true
          · rw [if_pos hx] at h
            cases h
            obtain ⟨p, vs, rfl, h3, h4⟩ := h2
            refine ⟨_, ex, so, ?_⟩
            simp only [Rel]
            exact ⟨p, vs, r.2 p h1, ⟨h3, apart p h1⟩, h4.cut hn hx⟩
          · rw [if_neg hx] at h; cases h
        | ins c ns xs =>
          simp only at h
          by_cases hx : lowL μ.length xs = true
          · rw [if_pos hx] at h
            cases h
            obtain ⟨p, dx, vs, rfl, h3, hl, h4⟩ := h2
            refine ⟨_, ex, so, ?_⟩
            simp only [Rel]
            exact ⟨p, dx, vs, r.2 p h1, ⟨h3, apart p h1⟩, hl, h4.cut hn hx⟩
          · rw [if_neg hx] at h; cases h
  | non => simp only at h; split at h; exact gen (by assumption) h; cases h
  | bl b => simp only at h; split at h; exact gen (by assumption) h; cases h
  | int i => simp only at h; split at h; exact gen (by assumption) h; cases h
  | str x => simp only at h; split at h; exact gen (by assumption) h; cases h
  | ty x => simp only at h; split at h; exact gen (by assumption) h; cases h
  | gl x => simp only at h; split at h; exact gen (by assumption) h; cases h
  | tup x => simp only at h; split at h; exact gen (by assumption) h; cases h
  | lst x => simp only at h; split at h; exact gen (by assumption) h; cases h
  | scr x => simp only at h; split at h; exact gen (by assumption) h; cases h
  | dct k x => simp only at h; split at h; exact gen (by assumption) h; cases h
  | obj c k x => simp only at h; split at h; exact gen (by assumption) h; cases h
theorem finC_ok {d d' : DV} {μ'' : Sto} {v : V} (s : StoOk g κ H μ) (e : Ext κ H κ' H') (s' : StoOk g κ' H' μ') (r : Rel g κ' H' d v) (h : finC μ.length d μ' = .ok d' μ'') :
    ∃ κ'', Ext κ H κ'' H' ∧ StoOk g κ'' H' μ'' ∧ Rel g κ'' H' d' v := by
  unfold finC at h
  by_cases ha : (μ'.take μ.length).all (CO.low μ.length) = true
  case neg => rw [if_neg ha] at h; cases h
  rw [if_pos ha] at h
  have hn : μ.length ≤ κ'.cs.length := by rw [← s.len]; exact e.len
  have ex : Ext κ H (κ'.cut μ.length) H' := by rw [← s.len]; exact e.cut
  have so : StoOk g (κ'.cut μ.length) H' (μ'.take μ.length) := s'.cut hn (all_low ha)
  cases d with
  | cell i =>
    simp only at h
    by_cases hi : i < μ.length
    · rw [if_pos hi] at h; cases h
    · rw [if_neg hi] at h
      simp only [Rel] at r
      cases ec : μ'[i]? with
      | none => rw [ec] at h; cases h
      | some co =>
        rw [ec] at h
        obtain ⟨a, h1, h2⟩ := s'.at_ i _ ec
        cases co with
        | lst xs =>
          simp only at h
          by_cases hx : lowL μ.length xs = true
          · rw [if_pos hx] at h
            cases h
            obtain ⟨p, vs, rfl, h3, h4⟩ := h2
            have apart : ¬ (κ'.cut μ.length).has p := fun m => by
              rcases m with m | m
              · obtain ⟨j, hj⟩ := List.getElem?_of_mem m
                have hj : (κ'.cs.take μ.length)[j]? = some (some p) := hj
                have hlj := (List.getElem?_eq_some_iff.mp hj).1
                rw [List.length_take] at hlj
                rw [List.getElem?_take_of_lt (by omega)] at hj
                have := s'.inj i j p h1 hj
                omega
              · exact (s'.gst p m).2 (List.mem_of_getElem? h1)
            have len : (κ'.cut μ.length).cs.length = μ.length := by show (κ'.cs.take μ.length).length = _; rw [List.length_take]; omega
            -- the hidden way: p is hidden first, then known as a cell
            have xe : Ext0 (κ'.cut μ.length) H' ((κ'.cut μ.length).hide p) H' → True := fun _ => trivial
            have hHp : ∀ q ∈ (κ'.cut μ.length).gh, q ≠ p := fun q hq e => apart (.inr (e ▸ hq))
            have rel : RelL g (κ'.cut μ.length) H' xs vs := h4.cut hn hx
            -- what stands in κ' stands apart from p as well, for p is a cell there
            have x1 : Ext0 κ' H' ((κ'.cut μ.length).more p) H' → True := fun _ => trivial
            have sep : ∀ a o, H' a = some o → ¬ κ'.has a → ¬ ((κ'.cut μ.length).more p).has a := fun a o ha n m => by
              rcases m with m | m
              · rcases List.mem_append.mp m with m | m
                · exact n (.inl (List.mem_of_mem_take m))
                · have : a = p := by simpa using m
                  exact n (.inl (by rw [this]; exact List.mem_of_getElem? h1))
              · exact n (.inr m)
            have relM : ∀ {xs : List DV} {vs : List V}, RelL g κ' H' xs vs → lowL μ.length xs = true → RelL g ((κ'.cut μ.length).more p) H' xs vs := by
              -- by a detour: cells below the bound keep their places
              have y : Ext0 (KA.mk (κ'.cs.take μ.length ++ κ'.cs.drop μ.length) κ'.gh) H' ((κ'.cut μ.length).more p) H' → True := fun _ => trivial
              have both : (∀ (d : DV) (v : V), Rel g κ' H' d v → d.low μ.length = true → Rel g ((κ'.cut μ.length).more p) H' d v) ∧ (∀ (xs : List DV) (vs : List V), RelL g κ' H' xs vs → lowL μ.length xs = true → RelL g ((κ'.cut μ.length).more p) H' xs vs) := by
                have at' : ∀ {a o}, At κ' H' a o → At ((κ'.cut μ.length).more p) H' a o := fun {a o} h => ⟨h.1, sep a o h.1 h.2⟩
                have fl : ∀ {a vs}, FrL g κ' H' a vs → FrL g ((κ'.cut μ.length).more p) H' a vs := fun {a vs} h => by
                  rcases h with h | ⟨ob, h⟩ | h
                  · exact .inl (at' h)
                  · exact .inr (.inl ⟨ob, at' h⟩)
                  · exact .inr (.inr h)
                have ft : ∀ {a vs}, FrT g κ' H' a vs → FrT g ((κ'.cut μ.length).more p) H' a vs := fun {a vs} h => by
                  rcases h with ⟨ob, d, h⟩ | h
                  · exact .inl ⟨ob, d, at' h⟩
                  · exact .inr h
                suffices hh : ∀ n : Nat, (∀ (d : DV) (v : V), sizeOf d < n → Rel g κ' H' d v → d.low μ.length = true → Rel g ((κ'.cut μ.length).more p) H' d v) ∧ (∀ (xs : List DV) (vs : List V), sizeOf xs < n → RelL g κ' H' xs vs → lowL μ.length xs = true → RelL g ((κ'.cut μ.length).more p) H' xs vs) from
                  ⟨fun d v => (hh (sizeOf d + 1)).1 d v (Nat.lt_succ_self _), fun xs vs => (hh (sizeOf xs + 1)).2 xs vs (Nat.lt_succ_self _)⟩
                intro n
                induction n with
                | zero => exact ⟨fun _ _ h => absurd h (Nat.not_lt_zero _), fun _ _ h => absurd h (Nat.not_lt_zero _)⟩
                | succ n ih =>
                  refine ⟨fun d v hs r b => ?_, fun xs vs hs r b => ?_⟩
                  · cases d with
                    | tup xs =>
                      simp only [Rel] at r ⊢; simp only [DV.low] at b
                      obtain ⟨a, vs, h1, h2, h3⟩ := r
                      exact ⟨a, vs, h1, ft h2, ih.2 xs vs (by simp at hs; omega) h3 b⟩
                    | lst xs =>
                      simp only [Rel] at r ⊢; simp only [DV.low] at b
                      obtain ⟨a, vs, h1, h2, h3⟩ := r
                      exact ⟨a, vs, h1, at' h2, ih.2 xs vs (by simp at hs; omega) h3 b⟩
                    | scr xs =>
                      simp only [Rel] at r ⊢; simp only [DV.low] at b
                      obtain ⟨a, vs, h1, h2, h3⟩ := r
                      exact ⟨a, vs, h1, fl h2, ih.2 xs vs (by simp at hs; omega) h3 b⟩
                    | dct ks xs =>
                      simp only [Rel] at r ⊢; simp only [DV.low] at b
                      obtain ⟨a, vs, h1, h2, hl, h3⟩ := r
                      exact ⟨a, vs, h1, at' h2, hl, ih.2 xs vs (by simp at hs; omega) h3 b⟩
                    | obj c ns xs =>
                      simp only [Rel] at r ⊢; simp only [DV.low] at b
                      obtain ⟨a, dx, vs, h1, h2, hl, h3⟩ := r
                      exact ⟨a, dx, vs, h1, at' h2, hl, ih.2 xs vs (by simp at hs; omega) h3 b⟩
                    | cell i =>
                      simp only [Rel] at r ⊢; simp only [DV.low, decide_eq_true_eq] at b
                      refine ⟨by show i < (κ'.cs.take μ.length ++ [some p]).length; simp; omega, fun a ha => r.2 a ?_⟩
                      have ha : (κ'.cs.take μ.length ++ [some p])[i]? = some (some a) := ha
                      rw [List.getElem?_append_left (by rw [List.length_take]; omega), List.getElem?_take_of_lt b] at ha
                      exact ha
                    | _ => simp only [Rel] at r ⊢; exact r
                  · cases xs with
                    | nil => simp only [RelL] at r ⊢; exact r
                    | cons x xs =>
                      simp only [lowL, Bool.and_eq_true] at b
                      obtain ⟨v, r', rfl, q1, q2⟩ := r.of_cons
                      exact RelL.cons (ih.1 x v (by simp at hs; omega) q1 b.1) (ih.2 xs r' (by simp at hs; omega) q2 b.2)
              exact fun {xs vs} => both.2 xs vs
            refine ⟨(κ'.cut μ.length).more p, ⟨⟨ex.keep, fun a o ha n => ?_, ?_, fun j a hj ha => ?_⟩, ex.ghs, ex.ghv⟩, ⟨?_, ?_, ?_, ?_⟩, ?_⟩
            · exact sep a o (e.keep a o ha n) (e.sep a o ha n)
            · show κ.cs.length ≤ (κ'.cs.take μ.length ++ [some p]).length
              have := s.len; simp; omega
            · have ha : (κ'.cs.take μ.length ++ [some p])[j]? = some (some a) := ha
              have hjl : j < μ.length := by rw [← s.len]; exact hj
              rw [List.getElem?_append_left (by rw [List.length_take]; omega), List.getElem?_take_of_lt hjl] at ha
              exact e.old j a hj ha
            · show (κ'.cs.take μ.length ++ [some p]).length = _
              have h1' := s'.len
              simp; omega
            · intro j k a hj hk
              have key : ∀ (i : Nat), (κ'.cs.take μ.length ++ [some p])[i]? = some (some a) → (i < μ.length ∧ κ'.cs[i]? = some (some a)) ∨ (i = μ.length ∧ a = p) := fun i hi => by
                have lt : (κ'.cs.take μ.length).length = μ.length := by rw [List.length_take]; omega
                by_cases hl : i < μ.length
                · rw [List.getElem?_append_left (by omega), List.getElem?_take_of_lt hl] at hi; exact .inl ⟨hl, hi⟩
                · rw [List.getElem?_append_right (by omega), lt] at hi
                  have : i - μ.length = 0 := by
                    have := (List.getElem?_eq_some_iff.mp hi).1
                    simp at this; omega
                  rw [this] at hi
                  have e : p = a := by simpa using hi
                  exact .inr ⟨by omega, e.symm⟩
              rcases key j hj with ⟨a1, a2⟩ | ⟨a1, a2⟩ <;> rcases key k hk with ⟨a3, a4⟩ | ⟨a3, a4⟩
              · exact s'.inj j k a a2 a4
              · rw [a4] at a2; have := s'.inj i j p h1 a2; omega
              · rw [a2] at a4; have := s'.inj i k p h1 a4; omega
              · omega
            · intro j c hc
              show ∃ a, (κ'.cs.take μ.length ++ [some p])[j]? = some a ∧ _
              have lt : (μ'.take μ.length).length = μ.length := by have := s'.len; rw [List.length_take]; omega
              have ltk : (κ'.cs.take μ.length).length = μ.length := by rw [List.length_take]; omega
              by_cases hl : j < μ.length
              · rw [List.getElem?_append_left (by omega)] at hc
                have hm := List.mem_of_getElem? hc
                rw [List.getElem?_take_of_lt hl] at hc
                obtain ⟨a, a1, a2⟩ := s'.at_ j c hc
                refine ⟨a, by rw [List.getElem?_append_left (by omega), List.getElem?_take_of_lt hl]; exact a1, ?_⟩
                have b := all_low ha c hm
                cases c with
                | dead => exact a2
                | lst xs =>
                  obtain ⟨p', vs', rfl, h5, h6⟩ := a2
                  exact ⟨p', vs', rfl, h5, relM h6 b⟩
                | ins c ns xs =>
                  obtain ⟨p', dx, vs', rfl, h5, hl, h6⟩ := a2
                  exact ⟨p', dx, vs', rfl, h5, hl, relM h6 b⟩
              · rw [List.getElem?_append_right (by omega), lt] at hc
                have e0 : j - μ.length = 0 := by
                  have := (List.getElem?_eq_some_iff.mp hc).1
                  simp at this; omega
                rw [e0] at hc
                have ec : CO.lst xs = c := by simpa using hc
                subst ec
                refine ⟨some p, by rw [List.getElem?_append_right (by omega), ltk, e0]; rfl, p, vs, rfl, h3, relM h4 hx⟩
            · intro a ha
              obtain ⟨b1, b2⟩ := s'.gst a ha
              refine ⟨b1, fun m => ?_⟩
              rcases List.mem_append.mp m with m | m
              · exact b2 (List.mem_of_mem_take m)
              · have : a = p := by simpa using m
                exact hHp a ha this
            · simp only [Rel]
              refine ⟨by show μ.length < (κ'.cs.take μ.length ++ [some p]).length; simp; omega, fun a ha => ?_⟩
              have ha : (κ'.cs.take μ.length ++ [some p])[μ.length]? = some (some a) := ha
              have ltk : (κ'.cs.take μ.length).length = μ.length := by rw [List.length_take]; omega
              rw [List.getElem?_append_right (by omega), ltk] at ha
              simp at ha
              rw [← ha]; exact r.2 p h1
          · rw [if_neg hx] at h; cases h
        | dead => cases h
        | ins c ns xs => cases h
  | _ => cases h
theorem fin_ok {md : Md} {d d' : DV} {μ'' : Sto} {v : V} (s : StoOk g κ H μ) (e : Ext κ H κ' H') (s' : StoOk g κ' H' μ') (r : Rel g κ' H' d v) (h : fin md μ.length d μ' = .ok d' μ'') :
    ∃ κ'', Ext κ H κ'' H' ∧ StoOk g κ'' H' μ'' ∧ Rel g κ'' H' d' v := by
  cases md with
  | fz => exact finF_ok s e s' r h
  | cl => exact finC_ok s e s' r h
theorem finF_no {n c : Nat} {ns : List Str} {xs : List DV} {d : DV} {μ'' : Sto} : finF n d μ' ≠ .ex c ns xs μ'' := by
  unfold finF
  intro h
  (repeat' split at h) <;> cases h
theorem finC_no {n c : Nat} {ns : List Str} {xs : List DV} {d : DV} {μ'' : Sto} : finC n d μ' ≠ .ex c ns xs μ'' := by
  unfold finC
  intro h
  (repeat' split at h) <;> cases h
end

/-! ### promises -/
abbrev WF (E : XK) : WX := fun c d _ H => E c d H
def spF (g : Gc) (F : Fn) (np : Nat) : Sp := fun vs H Q E => vs.length = np ∧ ∃ κ ds μ, RelL g κ H ds vs ∧ StoOk g κ H μ ∧ wpR g (WF E) [] κ H (F ds μ) (fun d _ κ' H' => ∀ v, Rel g κ' H' d v → Q v H')
theorem wpR.slot {α : Type} {g : Gc} {E : XK} {W : WX} {σ τ : L2.St} {κ : KA} {H : Hp} {r : R α} {Φ : α → Sto → KA → Hp → Prop} (hW : ∀ c d H, W c d σ H → E c d H) (h : wpR g W σ κ H r Φ) : wpR g (WF E) τ κ H r Φ := by
  cases r with
  | ok a μ => exact h
  | ex c ns xs μ => intro κ' H' e s d vs h1 h2 h3; exact hW _ _ _ (h κ' H' e s d vs h1 h2 h3)
  | stuck => exact h
section
variable {P : Program} {w : World} {g : Gc} {mg : Str → Option Value} {base : Heap}
theorem start_rel {κ : KA} {H : Hp} {N : List Str} {ds : List DV} {vs : List V} (r : RelL g κ H ds vs) : RelE g κ H (ds.map some ++ List.replicate (N.length - ds.length) none) (L2.start N vs) := by
  refine ⟨by unfold L2.start; simp [r.length], fun i d hd => ?_⟩
  unfold L2.start
  by_cases hi : i < ds.length
  · rw [List.getElem?_append_left (by simpa using hi), List.getElem?_map] at hd
    cases e : ds[i]? with
    | none => rw [e] at hd; cases hd
    | some d' =>
      rw [e] at hd; cases hd
      obtain ⟨v, h1, h2⟩ := r.get e
      exact ⟨v, by rw [List.getElem?_append_left (by have := r.length; simp; omega), List.getElem?_map, h1]; rfl, h2⟩
  · rw [List.getElem?_append_right (by simpa using hi), List.getElem?_replicate] at hd
    split at hd <;> cases hd
/-- a def by its body -/
theorem gf_ok {x qual : Str} {params : Arguments} {body : List Stmt} {scope : Scope} {dvs : List V} {kws : List (Str × V)} {f : Addr} {fd : FuncData} {N ps : List Str} {k : Nat} {md : Md} {fb : DS}
    (F : FunD g.K x qual params body scope dvs kws f fd) (S : FnScope N ps scope)
    (hb : ∀ (cdv : Value) (A : Around) (outer : List Env) (s : Shared) (H : Hp) (E : XK), Room k (A.deeper (envOfC qual scope s.heap.objs.size f cdv)) → GSs g (WF E) (cxOf (L2.CX P w) P w g.K mg base N qual scope f cdv A outer s H E) body fb) :
    FnOk P w g.K mg base (L2.CX P w) (k + 1) f fd ps (spF g (runF md ps.length N.length fb) ps.length) := by
  refine F.ok S (fun vs H Q E h => h.1) (fun cdv A outer s H vs Q E hr h => ⟨_, hb cdv A outer s H E hr, ?_⟩)
  obtain ⟨hl, κ, ds, μ, r, so, h⟩ := h
  have hd : ds.length = ps.length := by rw [r.length]; exact hl
  unfold runF at h
  rw [if_pos hd] at h
  refine ⟨κ, _, μ, start_rel r, so, ?_⟩
  generalize fb (ds.map some ++ List.replicate (N.length - ds.length) none) μ = out at h
  have fin' : ∀ {d : DV} {v : V} {κ' : KA} {H' : Hp} {μ' : Sto}, Ext κ H κ' H' → StoOk g κ' H' μ' → Rel g κ' H' d v → wpR g (WF E) [] κ H (fin md μ.length d μ') (fun d _ κ' H' => ∀ v, Rel g κ' H' d v → Q v H') → Q v H' := fun {d v κ' H' μ'} e s' rv h => by
    cases ef : fin md μ.length d μ' with
    | ok d' μ'' =>
      rw [ef] at h
      obtain ⟨κ'', e2, s2, r2⟩ := fin_ok so e s' rv ef
      exact h κ'' H' e2 s2 v r2
    | ex c ns xs μ'' => cases md with
      | fz => exact (finF_no ef).elim
      | cl => exact (finC_no ef).elim
    | stuck => rw [ef] at h; exact h.elim
  cases out with
  | nx ρ' μ' => intro κ' H' σ' e s' _; exact fin' e s' (by simp [Rel]) h
  | rt d μ' => intro κ' H' v e s' rv; exact fin' e s' rv h
  | bk ρ' μ' => exact h.elim
  | ct ρ' μ' => exact h.elim
  | ex c ns xs ρ' μ' =>
    intro κ' H' σ' e s' _ d vs' h1 h2 h3
    simp only at h
    unfold finX at h
    by_cases hl : μ'.length = μ.length
    · rw [if_pos hl] at h; exact h κ' H' e s' d vs' h1 h2 h3
    · rw [if_neg hl] at h
      by_cases hc : ((μ'.take μ.length).all (CO.low μ.length) && lowL μ.length xs) = true
      · rw [if_pos hc] at h
        simp only [Bool.and_eq_true] at hc
        have hn : μ.length ≤ κ'.cs.length := by rw [← so.len]; exact e.len
        exact h _ H' (by rw [← so.len]; exact e.cut) (s'.cut hn (all_low hc.1)) d vs' h1.cut h2 (h3.cut hn hc.2)
      · rw [if_neg hc] at h; exact h.elim
  | stuck => exact h.elim
/-- what never ends well keeps every promise -/
theorem fnOk_stuck {f : Addr} {fd : FuncData} {ps : List Str} {k : Nat} : FnOk P w g.K mg base (L2.CX P w) k f fd ps (spF g (fun _ _ => .stuck) ps.length) :=
  ⟨fun vs H Q E h => h.1, fun A outer s H args us vs Q E _ _ _ _ h => by obtain ⟨_, _, _, _, _, _, h⟩ := h; exact h.elim⟩

/-- a def as callers see it -/
structure FnG (P : Program) (w : World) (g : Gc) (mg : Str → Option Value) (base : Heap) (k : Nat) (x : Str) (st : Stmt) (ps : List Str) (dvs : List V) (F : Fn) : Prop where
  ex : ∃ (f : Addr) (fd : FuncData), mg x = some (.ref f) ∧ FunD g.K x x (defArgs st) (defBody st) (defScope st) dvs [] f fd ∧ FnOk P w g.K mg base (L2.CX P w) k f fd ps (spF g F ps.length)
theorem FnG.mono {k j : Nat} {x : Str} {st : Stmt} {ps : List Str} {dvs : List V} {F : Fn} (G : FnG P w g mg base k x st ps dvs F) (h : k ≤ j) : FnG P w g mg base j x st ps dvs F := by
  obtain ⟨f, fd, h1, h2, h3⟩ := G.ex
  exact ⟨f, fd, h1, h2, h3.mono h⟩
end

/-! ### calls -/
section
variable {g : Gc} {W : WX} {X : Cx} {e : Expr} {es : List Expr} {fr fk : DA} {pos p : Pos} {x : Str} {k : Nat} {st : Stmt} {ps : List Str} {dvs : List V} {F : Fn}
/-- f(..), dds: the defaults that fill up -/
def eCall (F : Fn) (r : DA) : DE := fun ρ μ => (r ρ μ).bind fun xs μ1 => F xs μ1
def eCallD (F : Fn) (dds : List DV) (r : DA) : DE := fun ρ μ => (r ρ μ).bind fun xs μ1 => F (xs ++ dds) μ1
/-- only calls with the right number of arguments end well -/
def Ar (F : Fn) (np : Nat) : Prop := ∀ ds μ, ds.length ≠ np → F ds μ = .stuck
theorem ar_run {md : Md} {np n : Nat} {b : DS} : Ar (runF md np n b) np := fun ds μ h => by unfold runF; rw [if_neg h]
theorem sp_read {σ : L2.St} {κ : KA} {H : Hp} {ds : List DV} {vs : List V} {μ : Sto} {Q : VK} {np : Nat} (ar : Ar F np) (r : RelL g κ H ds vs) (s : StoOk g κ H μ) (h : wpR g W σ κ H (F ds μ) (fun d _ κ' H' => ∀ v, Rel g κ' H' d v → Q v H')) : spF g F np vs H Q (WE W σ) := by
  refine ⟨?_, κ, ds, μ, r, s, h.slot fun _ _ _ q => q⟩
  by_cases hn : ds.length = np
  · rw [← r.length]; exact hn
  · rw [ar ds μ hn] at h; exact h.elim
theorem ge_call (G : FnG X.prog X.w g X.mg X.base k x st ps dvs F) (xg : X.K = g.K) (ar : Ar F ps.length) (hr : Room k X.A) (hg : Gl X x) (tk : Takes X W) (ha : GA g W X (e :: es) fr) (hd : dvs = [])
    (hb : ∀ (kV doc pm : Value) (an : Option Addr) (cdv ct : Value) (us : List Value), us.length = ps.length → bindArgs (PySem.W.fnOf x x (defArgs st) (defBody st) (defScope st) .none kV doc pm an cdv ct) ⟨us, []⟩ = pure (ps.zip us))
    (hdb : (x == ("__debug__" : Str)) = false := by decide) (he : starEach (e :: es) X.env = (false, eval e X.env) :: starEach es X.env := by rfl) (hpl : (backTo pos (starEach es X.env)).any (·.1) = false := by rfl) :
    GE g W X (.Call (.Name x p) (e :: es) [] pos) (eCall F fr) := by
  obtain ⟨K, cls⟩ := g
  obtain rfl : X.K = K := xg
  subst hd
  obtain ⟨f, fd, h1, h2, h3⟩ := G.ex
  have bn : Binds X.K fd ps [] := h2.bindsN hb
  refine PE.imp (pe_callSD (E := fun σ => WE W σ) h3 hr hg h1 h2.kp bn .nil (fun σ => passAt tk σ) ha hdb he hpl) fun σ H Q q => ?_
  obtain ⟨κ, ρ, μ, he, hs, hw⟩ := q
  refine ⟨κ, ρ, μ, he, hs, hw.bind.mono fun xs μ1 κ1 H1 e1 s1 hh vs rv => ?_⟩
  show spF _ F ps.length (vs ++ []) H1 Q (WE W σ)
  rw [List.append_nil]
  exact sp_read ar rv s1 hh
/-- f() -/
theorem ge_call0 (G : FnG X.prog X.w g X.mg X.base k x st [] dvs F) (xg : X.K = g.K) (ar : Ar F 0) (hr : Room k X.A) (hg : Gl X x) (tk : Takes X W) (hd : dvs = [])
    (hb : ∀ (kV doc pm : Value) (an : Option Addr) (cdv ct : Value) (us : List Value), us.length = 0 → bindArgs (PySem.W.fnOf x x (defArgs st) (defBody st) (defScope st) .none kV doc pm an cdv ct) ⟨us, []⟩ = pure (([] : List Str).zip us))
    (hdb : (x == ("__debug__" : Str)) = false := by decide) : GE g W X (.Call (.Name x p) [] [] pos) (eCall F aNil) := by
  obtain ⟨K, cls⟩ := g
  obtain rfl : X.K = K := xg
  subst hd
  obtain ⟨f, fd, h1, h2, h3⟩ := G.ex
  have bn : Binds X.K fd [] [] := h2.bindsN hb
  refine ⟨fun pins s σ H Q I h => ?_⟩
  obtain ⟨κ, ρ, μ, he, hs, hw⟩ := h
  refine wpAny_Call_Name_kw (ld_glob I hg h1 ?_ hdb)
  refine PySem.W.callWith_K0 I.kIn h2.kp (run_fnSD (E := fun σ => WE W σ) (us := []) (vs := []) (dvs := []) (ds := []) h3 hr bn .nil (passAt tk σ) I .nil ?_)
  exact sp_read ar RelL.nil hs hw
/-- some of the defaults fill up -/
theorem ge_callD {dds : List DV} {n j : Nat} (G : FnG X.prog X.w g X.mg X.base k x st ps dvs F) (xg : X.K = g.K) (ar : Ar F ps.length) (hr : Room k X.A) (hg : Gl X x) (tk : Takes X W) (ha : GA g W X (e :: es) fr) (hd : dvs ≠ [])
    (hn : n + (dvs.length - j) = ps.length) (hdd : ∀ κ H, RelL g κ H dds (dvs.drop j))
    (hb : ∀ (T : Addr) (kV doc pm : Value) (an : Option Addr) (cdv ct : Value) (us its : List Value), us.length = n → its.length = dvs.length →
      ∃ k, bindArgs (PySem.W.fnOf x x (defArgs st) (defBody st) (defScope st) (.ref T) kV doc pm an cdv ct) ⟨us, []⟩ = seqItems? (.ref T) >>= k ∧ k (some its.toArray) = pure (ps.zip (us ++ its.drop j)))
    (hdb : (x == ("__debug__" : Str)) = false := by decide) (he : starEach (e :: es) X.env = (false, eval e X.env) :: starEach es X.env := by rfl) (hpl : (backTo pos (starEach es X.env)).any (·.1) = false := by rfl) :
    GE g W X (.Call (.Name x p) (e :: es) [] pos) (eCallD F dds fr) := by
  obtain ⟨K, cls⟩ := g
  obtain rfl : X.K = K := xg
  obtain ⟨f, fd, h1, h2, h3⟩ := G.ex
  obtain ⟨ds, rd, bn⟩ := h2.binds1 n j hd hn hb
  refine PE.imp (pe_callSD (E := fun σ => WE W σ) h3 hr hg h1 h2.kp bn rd (fun σ => passAt tk σ) ha hdb he hpl) fun σ H Q q => ?_
  obtain ⟨κ, ρ, μ, he, hs, hw⟩ := q
  refine ⟨κ, ρ, μ, he, hs, hw.bind.mono fun xs μ1 κ1 H1 e1 s1 hh vs rv => ?_⟩
  show spF _ F ps.length (vs ++ dvs.drop j) H1 Q (WE W σ)
  exact sp_read ar (rv.append (hdd κ1 H1)) s1 hh
/-- keywords -/
abbrev GK (g : Gc) (W : WX) (X : Cx) (kws : List Keyword) (f : DA) : Prop := PK X kws (tA g W f)
theorem PK.imp {X : Cx} {es : List Keyword} {t u : TA} (h : PK X es t) (f : ∀ σ H Q, u σ H Q → t σ H Q) : PK X es u := ⟨fun pos pins s σ H Q I q => h.run pos pins s σ H Q I (f _ _ _ q)⟩
theorem gk_nil : GK g W X [] aNil := PK.imp pk_nil fun σ H Q q => by
  obtain ⟨κ, ρ, μ, he, hs, hw⟩ := q
  exact hw κ H Ext.refl hs [] RelL.nil
theorem gk_cons {fa : DE} {kws : List Keyword} {nm : Option Str} {kpos : Pos} (ha : GE g W X e fa) (hr : GK g W X kws fr) : GK g W X (⟨nm, e, kpos⟩ :: kws) (aCons fa fr) := by
  refine PK.imp (pk_cons ha hr) fun σ H Q q => ?_
  obtain ⟨κ, ρ, μ, he, hs, hw⟩ := q
  refine ⟨κ, ρ, μ, he, hs, hw.bind.mono fun x μ1 κ1 H1 e1 s1 h1 v rv => ?_⟩
  refine ⟨κ1, ρ, μ1, he.ext e1, s1, h1.bind.mono fun xs μ2 κ2 H2 e2 s2 h2 vs rvs => ?_⟩
  exact h2 κ2 H2 Ext.refl s2 (v :: vs) (RelL.cons (rv.ext e2) rvs)
/-- values in the parameters' order -/
def permL {α : Type} (ix : List Nat) (l : List α) : List α := ix.filterMap fun i => l[i]?
theorem permL_vals {ix : List Nat} {vs : List V} {us : List Value} (r : Vals vs us) : Vals (permL ix vs) (permL ix us) := by
  induction ix with
  | nil => exact .nil
  | cons i ix ih =>
    unfold permL at ih ⊢
    simp only [List.filterMap_cons]
    cases e : vs[i]? with
    | none => rw [r.none_of e]; exact ih
    | some v =>
      obtain ⟨u, h1, h2⟩ := r.get e
      rw [h1]; exact .cons h2 ih
theorem permL_rel {ix : List Nat} {κ : KA} {H : Hp} {ds : List DV} {vs : List V} (r : RelL g κ H ds vs) : RelL g κ H (permL ix ds) (permL ix vs) := by
  induction ix with
  | nil => exact RelL.nil
  | cons i ix ih =>
    unfold permL at ih ⊢
    simp only [List.filterMap_cons]
    cases e : ds[i]? with
    | none =>
      have : vs[i]? = none := by
        have h1 := List.getElem?_eq_none_iff.mp e
        exact List.getElem?_eq_none_iff.mpr (by rw [← r.length]; exact h1)
      rw [this]; exact ih
    | some d =>
      obtain ⟨v, h1, h2⟩ := r.get e
      rw [h1]; exact RelL.cons h2 ih
def eCallK (F : Fn) (ix : List Nat) (n m : Nat) (r k : DA) : DE := fun ρ μ => (r ρ μ).bind fun xs μ1 => (k ρ μ1).bind fun ys μ2 => if xs.length = n ∧ ys.length = m then F (permL ix (xs ++ ys)) μ2 else .stuck
theorem callN0 {CX : CXT} {fd : FuncData} {f : Addr} {ks : List Str} {sp : Sp} {E : L2.St → XK} {gg : List Value → List Value → List Value} {gV : List V → List V → List V} {kws : List Keyword} {t tk : TA} {n : Nat} (F : FnOk X.prog X.w X.K X.mg X.base CX k f fd ps sp) (hr : Room k X.A) (hg : Gl X x) (hm : X.mg x = some (.ref f)) (hk : PySem.W.keepIn X.K (.ref f) = true) (hb : KBn X.K fd ps n ks gg gV) (hx : ∀ σ, PassesAt CX X σ (E σ)) (hn : n = 0)
    (hkw : PK X kws tk) (hall : (backToKw pos (keywordEach kws X.env)).all (·.1.isSome) = true) (hks : (backToKw pos (keywordEach kws X.env)).filterMap (·.1) = ks)
    (hdb : (x == ("__debug__" : Str)) = false) (hpl : ((backTo pos (starEach [] X.env)).any (·.1) || (backToKw pos (keywordEach kws X.env)).any (·.1.isNone)) = false) :
    PE X (.Call (.Name x p) [] kws pos) (fun σ H Q => tk σ H fun zs H2 => zs.length = ks.length ∧ sp (gV [] zs) H2 Q (E σ)) := by
  subst hn
  refine ⟨fun pins s σ H Q I h => ?_⟩
  refine wpAny_Call_Name_kw (ld_glob I hg hm ?_ hdb)
  refine PySem.W.callWith_KW0 (h₀ := X.base) I.ok.mod.kin hk hall ?_ hpl
  refine thn (hkw.run pos pins s σ H _ I h) fun ws s2 ⟨zs, H2, I2, rz, l2, q2⟩ => ⟨I2.kIn, ?_⟩
  rw [hks]
  have r2 := hb.rel .nil rz
  refine wpAny_call (codeAny_mono (F.run X.A X.stack s2 H2 ⟨[], ks.zip ws⟩ (gg [] ws) (gV [] zs) Q (E σ) hr I2.env0 (hb.to s2 [] ws I2.kIn rfl (rz.length.symm.trans l2)) r2 q2) fun r s' hq => ?_)
  cases r with
  | error e => exact hx σ pins H2 s2 e s' I2 hq
  | ok fl =>
    cases fl with
    | ret u => exact I2.after hq
    | next => exact False.elim hq
    | brk => exact False.elim hq
    | cont => exact False.elim hq
theorem ge_callK0 {kws : List Keyword} {ix : List Nat} {ks : List Str} (G : FnG X.prog X.w g X.mg X.base k x st ps dvs F) (xg : X.K = g.K) (ar : Ar F ps.length) (hr : Room k X.A) (hg : Gl X x) (tk : Takes X W) (hk : GK g W X kws fk) (hd : dvs = [])
    (hb : ∀ (kV doc pm : Value) (an : Option Addr) (cdv ct : Value) (ws : List Value), ws.length = ks.length → bindArgs (PySem.W.fnOf x x (defArgs st) (defBody st) (defScope st) .none kV doc pm an cdv ct) ⟨[], ks.zip ws⟩ = pure (ps.zip (permL ix ws)))
    (hall : (backToKw pos (keywordEach kws X.env)).all (·.1.isSome) = true := by rfl) (hks : (backToKw pos (keywordEach kws X.env)).filterMap (·.1) = ks := by rfl) (hdb : (x == ("__debug__" : Str)) = false := by decide)
    (hpl : ((backTo pos (starEach [] X.env)).any (·.1) || (backToKw pos (keywordEach kws X.env)).any (·.1.isNone)) = false := by rfl) :
    GE g W X (.Call (.Name x p) [] kws pos) (eCallK F ix 0 ks.length aNil fk) := by
  obtain ⟨K, cls⟩ := g
  obtain rfl : X.K = K := xg
  subst hd
  obtain ⟨f, fd, h1, h2, h3⟩ := G.ex
  have bn : KBn X.K fd ps 0 ks (fun us ws => permL ix (us ++ ws)) (fun vs zs => permL ix (vs ++ zs)) := by
    obtain ⟨oc, od, dV, kV, doc, pm, an, cdv, ct, osl, rfl, lk, hcd, hD, hK⟩ := h2.ex
    rcases hD with ⟨_, rfl⟩ | ⟨e, _⟩
    · refine ⟨fun s us ws X l1 l2 => ?_, fun r1 r2 => permL_vals (r1.append r2)⟩
      have : us = [] := List.length_eq_zero_iff.mp l1
      subst this
      exact .of_eq (hb kV doc pm an cdv ct ws l2)
    · exact absurd rfl e
  refine PE.imp (callN0 (E := fun σ => WE W σ) (t := tNil) h3 hr hg h1 h2.kp bn (fun σ => passAt tk σ) rfl hk hall hks hdb hpl) fun σ H Q q => ?_
  obtain ⟨κ, ρ, μ, he, hs, hw⟩ := q
  have hw : wpR _ W σ κ H ((fk ρ μ).bind fun ys μ2 => if ([] : List DV).length = 0 ∧ ys.length = ks.length then F (permL ix ([] ++ ys)) μ2 else .stuck) _ := hw
  refine ⟨κ, ρ, μ, he, hs, hw.bind.mono fun ys μ1 κ1 H1 e1 s1 hh zs rz => ?_⟩
  by_cases hl : ([] : List DV).length = 0 ∧ ys.length = ks.length
  · rw [if_pos hl] at hh
    refine ⟨by rw [← rz.length]; exact hl.2, ?_⟩
    exact sp_read ar (permL_rel (RelL.append RelL.nil rz)) s1 hh
  · rw [if_neg hl] at hh; exact hh.elim
end
end SD

set_option Elab.async false
set_option linter.all false
set_option maxRecDepth 100000
set_option maxHeartbeats 4000000
/-! SD, sixth part: operators, built-ins and methods by values. -/
namespace SD
open PySem PySem.Spec PyProof.Rows L2

/-! ### reading a list, a tuple -/
def lstOf (μ : Sto) : DV → Option (List DV)
  | .lst xs => some xs
  | .cell i => match μ[i]? with
    | some (.lst xs) => some xs
    | _ => none
  | _ => none
def seqOf (μ : Sto) : DV → Option (List DV)
  | .scr xs => some xs
  | d => lstOf μ d
section
variable {g : Gc} {κ : KA} {H : Hp} {μ : Sto} {d e : DV} {v u : V}
theorem lstOf_rel {xs : List DV} (s : StoOk g κ H μ) (r : Rel g κ H d v) (h : lstOf μ d = some xs) : ∃ a vs, v = .ref a ∧ H a = some (.lst vs) ∧ RelL g κ H xs vs := by
  cases d with
  | lst ys =>
    cases h
    simp only [Rel] at r
    obtain ⟨a, vs, rfl, h2, h3⟩ := r
    exact ⟨a, vs, rfl, h2.1, h3⟩
  | cell i =>
    simp only [lstOf] at h
    cases ec : μ[i]? with
    | none => rw [ec] at h; cases h
    | some c =>
      rw [ec] at h
      cases c with
      | lst ys =>
        cases h
        simp only [Rel] at r
        obtain ⟨o, h1, h2⟩ := s.at_ i _ ec
        obtain ⟨p, vs, rfl, h3, h4⟩ := h2
        exact ⟨p, vs, r.2 p h1, h3, h4⟩
      | _ => cases h
  | _ => cases h
theorem seqOf_rel {xs : List DV} (s : StoOk g κ H μ) (r : Rel g κ H d v) (h : seqOf μ d = some xs) : ∃ a vs, v = .ref a ∧ SqL g.K H a vs ∧ RelL g κ H xs vs := by
  cases d with
  | scr ys =>
    cases h
    simp only [Rel] at r
    obtain ⟨a, vs, rfl, h2, h3⟩ := r
    exact ⟨a, vs, rfl, h2.sq, h3⟩
  | _ =>
    obtain ⟨a, vs, e, h2, h3⟩ := lstOf_rel s r h
    exact ⟨a, vs, e, .inl (.inl h2), h3⟩
theorem tup_rel {xs : List DV} (r : Rel g κ H (.tup xs) v) : ∃ a vs, v = .ref a ∧ SqT g.K H a vs ∧ RelL g κ H xs vs := by
  simp only [Rel] at r
  obtain ⟨a, vs, rfl, h2, h3⟩ := r
  exact ⟨a, vs, rfl, h2.sq, h3⟩
/-- the end of a reading: a value without an object; a new tuple; a new list -/
theorem rOut.flat {z : DV} {w : V} {Q : VK} (s : StoOk g κ H μ) (h : rOut g κ H μ (some z) Q) (r : Rel g κ H z w) : Q w H := h κ H Ext.refl s w r
theorem rOut.newT {xs : List DV} {vs : List V} {Q : VK} {p : Addr} {ob : Obj} (s : StoOk g κ H μ) (h : rOut g κ H μ (some (.tup xs)) Q) (r : RelL g κ H xs vs) (hp : H p = none) (hd : ob.dict = none) : Q (.ref p) (upd H p (.frz ob (.tup vs))) :=
  h κ _ (Ext.new s hp) (s.new hp) _ (rel_tup s hp hd r)
theorem rOut.newL {xs : List DV} {vs : List V} {Q : VK} {p : Addr} (s : StoOk g κ H μ) (h : rOut g κ H μ (some (.lst xs)) Q) (r : RelL g κ H xs vs) (hp : H p = none) : Q (.ref p) (upd H p (.lst vs)) :=
  h κ _ (Ext.new s hp) (s.new hp) _ (rel_lst s hp r)
end
theorem okLen_iff {n : Nat} : okLen n = true ↔ n ≤ sizeLine := by simp [okLen]

/-! ### + - * // % ** -/
def vAdd : V2 := fun d e μ => match d, e with
  | .int i, .int j => some (.int (i + j))
  | .str a, .str b => if okLen (a.length + b.length) = true then some (.str (a ++ b)) else none
  | .tup xs, .tup ys => if okLen (xs.length + ys.length) = true then some (.tup (xs ++ ys)) else none
  | d, e => match lstOf μ d, lstOf μ e with
    | some xs, some ys => if okLen (xs.length + ys.length) = true then some (.lst (xs ++ ys)) else none
    | _, _ => none
def vSub : V2 := fun d e _ => match d, e with
  | .int i, .int j => some (.int (i - j))
  | _, _ => none
def mulOk (i j : Int) : Bool := (decide (i.natAbs < 2 ^ 64) || decide (j.natAbs < 2 ^ 64)) || decide (i.natAbs.log2 + j.natAbs.log2 < 1000000)
def vMul : V2 := fun d e μ => match d, e with
  | .int i, .int j => if mulOk i j = true then some (.int (i * j)) else none
  | d, .int k => match lstOf μ d with
    | some xs => if (decide (-(2 ^ 63) ≤ k) && decide (k < 2 ^ 63) && okLen (xs.length * k.toNat)) = true then some (.lst (List.replicate k.toNat xs).flatten) else none
    | none => none
  | _, _ => none
def vDiv : V2 := fun d e _ => match d, e with
  | .int i, .int j => if decide (0 < j) && decide (j < 1073741824) = true then some (.int (i / j)) else none
  | _, _ => none
def vMod : V2 := fun d e _ => match d, e with
  | .int i, .int j => if decide (0 < j) = true then some (.int (i % j)) else none
  | _, _ => none
def vPow : V2 := fun d e _ => match d, e with
  | .int i, .int j => if (decide (0 ≤ j) && decide (j ≤ 1000000) && decide (i.natAbs < 2 ^ 64)) = true then some (.int (i ^ j.toNat)) else none
  | _, _ => none
section
variable {g : Gc} {X : Cx}
theorem relL_rep {κ : KA} {H : Hp} {xs : List DV} {vs : List V} (r : RelL g κ H xs vs) : ∀ k : Nat, RelL g κ H (List.replicate k xs).flatten (List.replicate k vs).flatten
  | 0 => RelL.nil
  | k + 1 => by
    rw [List.replicate_succ, List.replicate_succ, List.flatten_cons, List.flatten_cons]
    exact r.append (relL_rep r k)
theorem opAdd (xg : XG g X) : OpR X (binaryOp .Add) (r2 g vAdd) := by
  intro pins s σ H x y v u Q I rx ry h
  obtain ⟨κ, d, e, μ, rd, re, so, ho⟩ := h
  unfold vAdd at ho
  split at ho
  · simp only [Rel] at rd re
    subst rd re
    exact op_add pins s σ H _ _ v u Q I rx ry ⟨_, _, rfl, rfl, ho.flat so (by simp [Rel])⟩
  · simp only [Rel] at rd re
    subst rd re
    split at ho
    · rename_i hz
      exact op_add_str pins s σ H _ _ v u Q I rx ry ⟨_, _, rfl, rfl, okLen_iff.mp hz, ho.flat so (by simp [Rel])⟩
    · exact ho.elim
  · rename_i xs ys
    obtain ⟨a, vs, rfl, h1, h2⟩ := tup_rel rd
    obtain ⟨b, ws, rfl, h3, h4⟩ := tup_rel re
    split at ho
    · rename_i hz
      have hz := okLen_iff.mp hz
      refine op_catF pins s σ H _ _ v u Q I rx ry ⟨a, b, vs, ws, rfl, rfl, by rw [xg.K]; exact h1, by rw [xg.K]; exact h3, by rw [← h2.length, ← h4.length]; exact hz, fun e => ?_, fun e1 e => ?_, fun e1 e2 p ob hp hd => ho.newT so (h2.append h4) hp hd⟩
      · subst e
        have : xs = [] := by have := h2.length; simpa using this
        subst this
        exact ho.flat so re
      · subst e
        have : ys = [] := by have := h4.length; simpa using this
        subst this
        rw [List.append_nil] at ho
        exact ho.flat so rd
    · exact ho.elim
  · split at ho
    · rename_i xs ys hx hy
      split at ho
      · rename_i hz
        obtain ⟨a, vs, rfl, h1, h2⟩ := lstOf_rel so rd hx
        obtain ⟨b, ws, rfl, h3, h4⟩ := lstOf_rel so re hy
        exact op_cat pins s σ H _ _ v u Q I rx ry ⟨a, b, vs, ws, rfl, rfl, h1, h3, by rw [← h2.length, ← h4.length]; exact okLen_iff.mp hz, fun p hp => ho.newL so (h2.append h4) hp⟩
      · exact ho.elim
    · exact ho.elim
theorem opSub : OpR X (binaryOp .Sub) (r2 g vSub) := by
  intro pins s σ H x y v u Q I rx ry h
  obtain ⟨κ, d, e, μ, rd, re, so, ho⟩ := h
  unfold vSub at ho
  split at ho
  · simp only [Rel] at rd re
    subst rd re
    exact op_sub pins s σ H _ _ v u Q I rx ry ⟨_, _, rfl, rfl, ho.flat so (by simp [Rel])⟩
  · exact ho.elim
theorem opMul : OpR X (binaryOp .Mult) (r2 g vMul) := by
  intro pins s σ H x y v u Q I rx ry h
  obtain ⟨κ, d, e, μ, rd, re, so, ho⟩ := h
  unfold vMul at ho
  split at ho
  · rename_i i j
    simp only [Rel] at rd re
    subst rd re
    split at ho
    · rename_i hz
      simp only [mulOk, Bool.or_eq_true, decide_eq_true_eq] at hz
      rcases hz with hz | hz
      · exact op_mul pins s σ H _ _ v u Q I rx ry ⟨_, _, rfl, rfl, by unfold CMul; omega, ho.flat so (by simp [Rel])⟩
      · exact op_mulW pins s σ H _ _ v u Q I rx ry ⟨_, _, rfl, rfl, hz, ho.flat so (by simp [Rel])⟩
    · exact ho.elim
  · rename_i k _
    split at ho
    · rename_i xs hx
      split at ho
      · rename_i hz
        simp only [Bool.and_eq_true, decide_eq_true_eq, okLen_iff] at hz
        obtain ⟨a, vs, rfl, h1, h2⟩ := lstOf_rel so rd hx
        simp only [Rel] at re
        subst re
        exact op_rep pins s σ H _ _ v u Q I rx ry ⟨a, k, vs, rfl, rfl, h1, hz.1.1, hz.1.2, by rw [← h2.length]; exact hz.2, fun p hp => ho.newL so (relL_rep h2 _) hp⟩
      · exact ho.elim
    · exact ho.elim
  · exact ho.elim
theorem opDiv : OpR X (binaryOp .FloorDiv) (r2 g vDiv) := by
  intro pins s σ H x y v u Q I rx ry h
  obtain ⟨κ, d, e, μ, rd, re, so, ho⟩ := h
  unfold vDiv at ho
  split at ho
  · simp only [Rel] at rd re
    subst rd re
    split at ho
    · rename_i hz
      simp only [Bool.and_eq_true, decide_eq_true_eq] at hz
      exact op_fdiv pins s σ H _ _ v u Q I rx ry ⟨_, _, rfl, rfl, hz, ho.flat so (by simp [Rel])⟩
    · exact ho.elim
  · exact ho.elim
theorem opMod : OpR X (binaryOp .Mod) (r2 g vMod) := by
  intro pins s σ H x y v u Q I rx ry h
  obtain ⟨κ, d, e, μ, rd, re, so, ho⟩ := h
  unfold vMod at ho
  split at ho
  · simp only [Rel] at rd re
    subst rd re
    split at ho
    · rename_i hz
      simp only [decide_eq_true_eq] at hz
      exact op_mod pins s σ H _ _ v u Q I rx ry ⟨_, _, rfl, rfl, hz, ho.flat so (by simp [Rel])⟩
    · exact ho.elim
  · exact ho.elim
theorem opPow : OpR X (binaryOp .Pow) (r2 g vPow) := by
  intro pins s σ H x y v u Q I rx ry h
  obtain ⟨κ, d, e, μ, rd, re, so, ho⟩ := h
  unfold vPow at ho
  split at ho
  · simp only [Rel] at rd re
    subst rd re
    split at ho
    · rename_i hz
      simp only [Bool.and_eq_true, decide_eq_true_eq] at hz
      exact op_pow pins s σ H _ _ v u Q I rx ry ⟨_, _, rfl, rfl, ⟨hz.1.1, hz.1.2, hz.2⟩, ho.flat so (by simp [Rel])⟩
    · exact ho.elim
  · exact ho.elim
def vNeg : V1 := fun d _ => match d with
  | .int i => some (.int (-i))
  | _ => none
theorem unNeg : UnR X (unaryOp .USub) (r1 g vNeg) := by
  intro pins s σ H x v Q I rx h
  obtain ⟨κ, d, μ, rd, so, ho⟩ := h
  unfold vNeg at ho
  split at ho
  · simp only [Rel] at rd
    subst rd
    exact un_neg pins s σ H _ v Q I rx ⟨_, rfl, ho.flat so (by simp [Rel])⟩
  · exact ho.elim

/-! ### comparisons -/
mutual
def toPy : DV → Option PyData
  | .non => some .none
  | .bl b => some (.bool b)
  | .int i => some (.int i)
  | .str x => some (.str x)
  | .tup xs => (toPyL xs).map .tuple
  | .lst xs => (toPyL xs).map .list
  | .scr xs => (toPyL xs).map .list
  | _ => none
def toPyL : List DV → Option (List PyData)
  | [] => some []
  | x :: xs => match toPy x, toPyL xs with
    | some p, some ps => some (p :: ps)
    | _, _ => none
end
def toPyC (μ : Sto) : DV → Option PyData
  | .cell i => match μ[i]? with
    | some (.lst xs) => (toPyL xs).map .list
    | _ => none
  | d => toPy d
mutual
theorem dp_of {κ : KA} {H : Hp} : ∀ {d : DV} {v : V} {p : PyData}, Rel g κ H d v → toPy d = some p → Dp g.K H v p
  | .non, _, _, r, h => by simp only [Rel] at r; subst r; cases h; exact .non
  | .bl b, _, _, r, h => by simp only [Rel] at r; subst r; cases h; exact .bl b
  | .int i, _, _, r, h => by simp only [Rel] at r; subst r; cases h; exact .int i
  | .str x, _, _, r, h => by simp only [Rel] at r; subst r; cases h; exact .str x
  | .tup xs, v, p, r, h => by
    obtain ⟨a, vs, rfl, h1, h2⟩ := tup_rel r
    simp only [toPy, Option.map_eq_some_iff] at h
    obtain ⟨ps, h3, rfl⟩ := h
    exact .tup h1 (dpAll_of h2 h3)
  | .lst xs, v, p, r, h => by
    simp only [Rel] at r
    obtain ⟨a, vs, rfl, h1, h2⟩ := r
    simp only [toPy, Option.map_eq_some_iff] at h
    obtain ⟨ps, h3, rfl⟩ := h
    exact .lst (.inl (.inl h1.1)) (dpAll_of h2 h3)
  | .scr xs, v, p, r, h => by
    simp only [Rel] at r
    obtain ⟨a, vs, rfl, h1, h2⟩ := r
    simp only [toPy, Option.map_eq_some_iff] at h
    obtain ⟨ps, h3, rfl⟩ := h
    exact .lst h1.sq (dpAll_of h2 h3)
  | .dct _ _, _, _, _, h => by simp [toPy] at h
  | .cell _, _, _, _, h => by simp [toPy] at h
  | .obj _ _ _, _, _, _, h => by simp [toPy] at h
  | .gl _, _, _, _, h => by simp [toPy] at h
  | .ty _, _, _, _, h => by simp [toPy] at h
theorem dpAll_of {κ : KA} {H : Hp} : ∀ {xs : List DV} {vs : List V} {ps : List PyData}, RelL g κ H xs vs → toPyL xs = some ps → DpAll g.K H vs ps
  | [], _, _, r, h => by cases r.of_nil; cases h; exact .nil
  | x :: xs, _, ps, r, h => by
    obtain ⟨v, r', rfl, h1, h2⟩ := r.of_cons
    simp only [toPyL] at h
    cases e1 : toPy x with
    | none => rw [e1] at h; cases h
    | some p =>
      cases e2 : toPyL xs with
      | none => rw [e1, e2] at h; cases h
      | some q =>
        rw [e1, e2] at h
        cases h
        exact .cons (dp_of h1 e1) (dpAll_of h2 e2)
end
theorem dpC_of {κ : KA} {H : Hp} {μ : Sto} {d : DV} {v : V} {p : PyData} (s : StoOk g κ H μ) (r : Rel g κ H d v) (h : toPyC μ d = some p) : Dp g.K H v p := by
  cases d with
  | cell i =>
    simp only [toPyC] at h
    cases ec : μ[i]? with
    | none => rw [ec] at h; cases h
    | some c =>
      rw [ec] at h
      cases c with
      | lst xs =>
        simp only [Option.map_eq_some_iff] at h
        obtain ⟨ps, h3, rfl⟩ := h
        obtain ⟨a, vs, rfl, h1, h2⟩ := lstOf_rel (xs := xs) s r (by simp only [lstOf, ec])
        exact .lst (.inl (.inl h1)) (dpAll_of h2 h3)
      | _ => cases h
  | _ => exact dp_of r h
/-- == of data -/
def eqD (d e : DV) (μ : Sto) : Option Bool := match toPyC μ d, toPyC μ e with
  | some p, some q => if (SeqAt.shaped p && SeqAt.shaped q) = true then some (PyData.eqv p q) else none
  | _, _ => none
def vEq : V2 := fun d e μ => (eqD d e μ).map .bl
def vNe : V2 := fun d e μ => (eqD d e μ).map fun b => .bl (!b)
theorem eqD_some {d e : DV} {μ : Sto} {b : Bool} (h : eqD d e μ = some b) : ∃ p q, toPyC μ d = some p ∧ toPyC μ e = some q ∧ SeqAt.shaped p = true ∧ SeqAt.shaped q = true ∧ b = PyData.eqv p q := by
  unfold eqD at h
  split at h
  · split at h
    · rename_i p q h1 h2 hz
      rw [Bool.and_eq_true] at hz
      cases h
      exact ⟨p, q, h1, h2, hz.1, hz.2, rfl⟩
    · cases h
  · cases h
theorem opEq (xg : XG g X) (hu : X.A.units + 64 < cLine) : OpR X (compareOp .Eq) (r2 g vEq) := by
  intro pins s σ H x y v u Q I rx ry h
  obtain ⟨κ, d, e, μ, rd, re, so, ho⟩ := h
  unfold vEq at ho
  cases hb : eqD d e μ with
  | none => rw [hb] at ho; exact ho.elim
  | some b =>
    rw [hb] at ho
    obtain ⟨p, q, h1, h2, h3, h4, rfl⟩ := eqD_some hb
    exact op_eqD hu pins s σ H _ _ v u Q I rx ry ⟨p, q, by rw [xg.K]; exact dpC_of so rd h1, by rw [xg.K]; exact dpC_of so re h2, h3, h4, rOut.flat so ho (by simp [Rel])⟩
theorem opNe (xg : XG g X) (hu : X.A.units + 64 < cLine) : OpR X (compareOp .NotEq) (r2 g vNe) := by
  intro pins s σ H x y v u Q I rx ry h
  obtain ⟨κ, d, e, μ, rd, re, so, ho⟩ := h
  unfold vNe at ho
  cases hb : eqD d e μ with
  | none => rw [hb] at ho; exact ho.elim
  | some b =>
    rw [hb] at ho
    obtain ⟨p, q, h1, h2, h3, h4, rfl⟩ := eqD_some hb
    exact op_neD hu pins s σ H _ _ v u Q I rx ry ⟨p, q, by rw [xg.K]; exact dpC_of so rd h1, by rw [xg.K]; exact dpC_of so re h2, h3, h4, rOut.flat so ho (by simp [Rel])⟩
def vCmp (f : Int → Int → Bool) : V2 := fun d e _ => match d, e with
  | .int i, .int j => some (.bl (f i j))
  | _, _ => none
theorem cmp_int {op : CmpOp} {f : Int → Int → Bool} (ho : OpR X (compareOp op) (rI0 fun i j => .bl (f i j))) : OpR X (compareOp op) (r2 g (vCmp f)) := by
  intro pins s σ H x y v u Q I rx ry h
  obtain ⟨κ, d, e, μ, rd, re, so, h⟩ := h
  unfold vCmp at h
  split at h
  · simp only [Rel] at rd re
    subst rd re
    exact ho pins s σ H _ _ v u Q I rx ry ⟨_, _, rfl, rfl, h.flat so (by simp [Rel])⟩
  · exact h.elim
def vLt : V2 := vCmp fun i j => decide (i < j)
def vLe : V2 := vCmp fun i j => decide (i ≤ j)
def vGt : V2 := vCmp fun i j => decide (j < i)
def vGe : V2 := vCmp fun i j => decide (j ≤ i)
theorem opLt : OpR X (compareOp .Lt) (r2 g vLt) := cmp_int op_lt
theorem opLe : OpR X (compareOp .LtE) (r2 g vLe) := cmp_int op_le
theorem opGt : OpR X (compareOp .Gt) (r2 g vGt) := cmp_int op_gt
theorem opGe : OpR X (compareOp .GtE) (r2 g vGe) := cmp_int op_ge
def isNon : DV → Bool
  | .non => true
  | _ => false
theorem isNon_rel {κ : KA} {H : Hp} {d : DV} {v : V} {μ : Sto} (s : StoOk g κ H μ) (r : Rel g κ H d v) (hc : ∀ i, d = .cell i → ∃ xs, μ[i]? = some (.lst xs)) : decide (v = .non) = isNon d := by
  cases d with
  | non => simp only [Rel] at r; subst r; rfl
  | cell i =>
    obtain ⟨xs, hx⟩ := hc i rfl
    obtain ⟨a, vs, rfl, _⟩ := lstOf_rel (xs := xs) s r (by simp only [lstOf, hx])
    rfl
  | bl b => simp only [Rel] at r; subst r; rfl
  | int b => simp only [Rel] at r; subst r; rfl
  | str b => simp only [Rel] at r; subst r; rfl
  | ty b => simp only [Rel] at r; subst r; rfl
  | gl b => simp only [Rel] at r; subst r; rfl
  | tup xs => simp only [Rel] at r; obtain ⟨a, vs, rfl, _⟩ := r; rfl
  | lst xs => simp only [Rel] at r; obtain ⟨a, vs, rfl, _⟩ := r; rfl
  | scr xs => simp only [Rel] at r; obtain ⟨a, vs, rfl, _⟩ := r; rfl
  | dct ks xs => simp only [Rel] at r; obtain ⟨a, vs, rfl, _⟩ := r; rfl
  | obj c ks xs => simp only [Rel] at r; obtain ⟨a, dx, vs, rfl, _⟩ := r; rfl
def okIs (μ : Sto) : DV → Bool
  | .cell i => match μ[i]? with
    | some (.lst _) => true
    | _ => false
  | _ => true
theorem okIs_c {μ : Sto} {d : DV} (h : okIs μ d = true) : ∀ i, d = .cell i → ∃ xs, μ[i]? = some (.lst xs) := by
  rintro i rfl
  simp only [okIs] at h
  split at h
  · exact ⟨_, by assumption⟩
  · cases h
/-- is None, is not None -/
def vIs : V2 := fun d e μ => match e with
  | .non => if okIs μ d = true then some (.bl (isNon d)) else none
  | _ => none
def vIsNot : V2 := fun d e μ => match e with
  | .non => if okIs μ d = true then some (.bl (!isNon d)) else none
  | _ => none
theorem opIs : OpR X (compareOp .Is) (r2 g vIs) := by
  intro pins s σ H x y v u Q I rx ry h
  obtain ⟨κ, d, e, μ, rd, re, so, ho⟩ := h
  unfold vIs at ho
  split at ho
  · split at ho
    · rename_i hc
      simp only [Rel] at re
      subst re
      exact op_isN pins s σ H _ _ v u Q I rx ry ⟨rfl, by rw [isNon_rel so rd (okIs_c hc)]; exact ho.flat so (by simp [Rel])⟩
    · exact ho.elim
  · exact ho.elim
theorem opIsNot : OpR X (compareOp .IsNot) (r2 g vIsNot) := by
  intro pins s σ H x y v u Q I rx ry h
  obtain ⟨κ, d, e, μ, rd, re, so, ho⟩ := h
  unfold vIsNot at ho
  split at ho
  · split at ho
    · rename_i hc
      simp only [Rel] at re
      subst re
      exact op_notN pins s σ H _ _ v u Q I rx ry ⟨rfl, by rw [isNon_rel so rd (okIs_c hc)]; exact ho.flat so (by simp [Rel])⟩
    · exact ho.elim
  · exact ho.elim
/-- in: one sign in a text; data in a list -/
def inL (d : DV) (xs : List DV) : Option Bool := match toPy d, toPyL xs with
  | some p, some ps => if (SeqAt.shaped p && SeqAt.shaped (.list ps)) = true then some (ps.any fun z => PyData.eqv z p) else none
  | _, _ => none
def inD (d e : DV) (μ : Sto) : Option Bool := match d, e with
  | .str a, .str b => match a.cps.toList with
    | [c] => some (decide (c ∈ b.cps.toList))
    | _ => none
  | d, e => match seqOf μ e with
    | some xs => inL d xs
    | none => none
def vIn : V2 := fun d e μ => (inD d e μ).map .bl
def vNotIn : V2 := fun d e μ => (inD d e μ).map fun b => .bl (!b)
theorem str_one {a : Str} {c : Nat} (h : a.cps.toList = [c]) : a = ⟨#[c]⟩ := by
  obtain ⟨cps⟩ := a
  have : cps = #[c] := Array.ext' (by simpa using h)
  rw [this]
theorem inL_some {d : DV} {xs : List DV} {b : Bool} (h : inL d xs = some b) : ∃ p ps, toPy d = some p ∧ toPyL xs = some ps ∧ SeqAt.shaped p = true ∧ SeqAt.shaped (.list ps) = true ∧ b = ps.any fun z => PyData.eqv z p := by
  unfold inL at h
  split at h
  · split at h
    · rename_i p q h1 h2 hz
      rw [Bool.and_eq_true] at hz
      cases h
      exact ⟨p, q, h1, h2, hz.1, hz.2, rfl⟩
    · cases h
  · cases h
theorem in_read {d e : DV} {μ : Sto} {κ : KA} {H : Hp} {x y : V} {b : Bool} (so : StoOk g κ H μ) (rd : Rel g κ H d x) (re : Rel g κ H e y) (h : inD d e μ = some b) :
    (∃ c z, x = .str ⟨#[c]⟩ ∧ y = .str z ∧ b = decide (c ∈ z.cps.toList)) ∨ (∃ p ps, Dp g.K H x p ∧ Dp g.K H y (.list ps) ∧ SeqAt.shaped p = true ∧ SeqAt.shaped (.list ps) = true ∧ b = ps.any fun z => PyData.eqv z p) := by
  unfold inD at h
  split at h
  · rename_i a b'
    split at h
    · rename_i c hc
      cases h
      simp only [Rel] at rd re
      subst rd re
      exact .inl ⟨c, b', by rw [str_one hc], rfl, rfl⟩
    · cases h
  · split at h
    · rename_i xs hx
      obtain ⟨p, ps, h1, h2, h3, h4, rfl⟩ := inL_some h
      obtain ⟨a, vs, rfl, h5, h6⟩ := seqOf_rel so re hx
      exact .inr ⟨p, ps, dp_of rd h1, .lst h5 (dpAll_of h6 h2), h3, h4, rfl⟩
    · cases h
theorem opIn (xg : XG g X) (hu : X.A.units + 65 < cLine) : OpR X (compareOp .In) (r2 g vIn) := by
  intro pins s σ H x y v u Q I rx ry h
  obtain ⟨κ, d, e, μ, rd, re, so, ho⟩ := h
  unfold vIn at ho
  cases hb : inD d e μ with
  | none => rw [hb] at ho; exact ho.elim
  | some b =>
    rw [hb] at ho
    rcases in_read so rd re hb with ⟨c, z, rfl, rfl, rfl⟩ | ⟨p, ps, h1, h2, h3, h4, rfl⟩
    · exact op_in_sign pins s σ H _ _ v u Q I rx ry ⟨c, z, rfl, rfl, rOut.flat so ho (by simp [Rel])⟩
    · exact op_inD hu pins s σ H _ _ v u Q I rx ry ⟨p, ps, by rw [xg.K]; exact h1, by rw [xg.K]; exact h2, h3, h4, rOut.flat so ho (by simp [Rel])⟩
theorem opNotIn (xg : XG g X) (hu : X.A.units + 65 < cLine) : OpR X (compareOp .NotIn) (r2 g vNotIn) := by
  intro pins s σ H x y v u Q I rx ry h
  obtain ⟨κ, d, e, μ, rd, re, so, ho⟩ := h
  unfold vNotIn at ho
  cases hb : inD d e μ with
  | none => rw [hb] at ho; exact ho.elim
  | some b =>
    rw [hb] at ho
    rcases in_read so rd re hb with ⟨c, z, rfl, rfl, rfl⟩ | ⟨p, ps, h1, h2, h3, h4, rfl⟩
    · exact op_notIn_sign pins s σ H _ _ v u Q I rx ry ⟨c, z, rfl, rfl, rOut.flat so ho (by simp [Rel])⟩
    · exact op_notInD hu pins s σ H _ _ v u Q I rx ry ⟨p, ps, by rw [xg.K]; exact h1, by rw [xg.K]; exact h2, h3, h4, rOut.flat so ho (by simp [Rel])⟩

/-! ### subscripts -/
def vIx : V2 := fun d e μ => match e with
  | .int i => match d with
    | .str z => if okLen z.length = true then (atI z.cps.toList i).map fun c => .str ⟨#[c]⟩ else none
    | .tup xs => atI xs i
    | d => match seqOf μ d with
      | some xs => atI xs i
      | none => none
  | _ => none
theorem atI_rel {κ : KA} {H : Hp} {xs : List DV} {vs : List V} {i : Int} {d : DV} (r : RelL g κ H xs vs) (h : atI xs i = some d) : ∃ v, atI vs i = some v ∧ Rel g κ H d v := by
  unfold atI at h ⊢
  rw [← r.length]
  cases e : ixN xs.length i with
  | none => rw [e] at h; cases h
  | some j =>
    rw [e] at h
    simp only [Option.bind_some] at h ⊢
    exact r.get h
theorem ixAny (xg : XG g X) : IxR X (r2 g vIx) := by
  intro value slice pins s σ H x y v u Q I rx ry h hs
  obtain ⟨κ, d, e, μ, rd, re, so, ho⟩ := h
  unfold vIx at ho
  split at ho
  · rename_i i
    simp only [Rel] at re
    subst re
    split at ho
    · rename_i z
      simp only [Rel] at rd
      subst rd
      split at ho
      · rename_i hz
        cases hc : atI z.cps.toList i with
        | none => rw [hc] at ho; exact ho.elim
        | some c =>
          rw [hc] at ho
          exact ix_str value slice pins s σ H _ _ v u Q I rx ry ⟨z, i, c, rfl, rfl, okLen_iff.mp hz, hc, rOut.flat so ho (by simp [Rel])⟩ hs
      · exact ho.elim
    · rename_i xs
      obtain ⟨a, vs, rfl, h1, h2⟩ := tup_rel rd
      cases hc : atI xs i with
      | none => rw [hc] at ho; exact ho.elim
      | some c =>
        rw [hc] at ho
        obtain ⟨w', h3, h4⟩ := atI_rel h2 hc
        exact ix_tup value slice pins s σ H _ _ v u Q I rx ry ⟨a, vs, i, w', rfl, rfl, by rw [xg.K]; exact h1, h3, rOut.flat so ho h4⟩ hs
    · split at ho
      · rename_i xs hx
        obtain ⟨a, vs, rfl, h1, h2⟩ := seqOf_rel so rd hx
        cases hc : atI xs i with
        | none => rw [hc] at ho; exact ho.elim
        | some c =>
          rw [hc] at ho
          obtain ⟨w', h3, h4⟩ := atI_rel h2 hc
          exact ix_list value slice pins s σ H _ _ v u Q I rx ry ⟨a, vs, i, w', rfl, rfl, by rw [xg.K]; exact h1, h3, rOut.flat so ho h4⟩ hs
      · exact ho.elim
  · exact ho.elim
def cutD (xs : List DV) (lo hi : Option Int) : List DV := (xs.drop (HT.sIx xs.length 0 lo)).take (HT.sIx xs.length xs.length hi - HT.sIx xs.length 0 lo)
theorem cutD_rel {κ : KA} {H : Hp} {xs : List DV} {vs : List V} {lo hi : Option Int} (r : RelL g κ H xs vs) : RelL g κ H (cutD xs lo hi) (cutV vs lo hi) := by
  unfold cutD cutV
  rw [r.length]
  exact RelL.take _ (RelL.drop _ r)
def vSlc : VSl := fun d lo hi μ => match d with
  | .str z => if okLen z.length = true then some (.str (cutS z lo hi)) else none
  | .tup xs => some (.tup (cutD xs lo hi))
  | d => match seqOf μ d with
    | some xs => some (.lst (cutD xs lo hi))
    | none => none
theorem slAny (xg : XG g X) : SlR X (rSl g vSlc) := by
  intro pins s σ H x v vl vu lo hi sl Q I rx hs pl pu h
  obtain ⟨κ, d, μ, rd, so, ho⟩ := h
  unfold vSlc at ho
  split at ho
  · rename_i z
    simp only [Rel] at rd
    subst rd
    split at ho
    · rename_i hz
      exact sl_str pins s σ H _ v vl vu lo hi sl Q I rx hs pl pu ⟨z, rfl, okLen_iff.mp hz, rOut.flat so ho (by simp [Rel])⟩
    · exact ho.elim
  · rename_i xs
    obtain ⟨a, vs, rfl, h1, h2⟩ := tup_rel rd
    refine sl_tupFA pins s σ H _ v vl vu lo hi sl Q I rx hs pl pu ⟨a, vs, rfl, by rw [xg.K]; exact h1, fun hw => ?_, fun _ p ob hp hd => ho.newT so (cutD_rel h2) hp hd⟩
    have e : cutD xs lo hi = xs := by
      unfold cutD
      rw [h2.length, hw.1, hw.2]
      simp [← h2.length]
    rw [e] at ho
    exact ho.flat so rd
  · split at ho
    · rename_i xs hx
      obtain ⟨a, vs, rfl, h1, h2⟩ := seqOf_rel so rd hx
      exact sl_list pins s σ H _ v vl vu lo hi sl Q I rx hs pl pu ⟨a, vs, rfl, by rw [xg.K]; exact h1, fun p hp => ho.newL so (cutD_rel h2) hp⟩
    · exact ho.elim
end
end SD

set_option Elab.async false
set_option linter.all false
set_option maxRecDepth 100000
set_option maxHeartbeats 4000000
/-! SD, seventh part: built-in functions, methods, stores into lists, dict displays. -/
namespace SD
open PySem PySem.Spec PyProof.Rows L2
section
variable {g : Gc} {X : Cx}

/-! ### len, abs, int, str, list, tuple, all, any, sum -/
def vLen : VN := fun ds μ => match ds with
  | [.str z] => if okLen z.length = true then some (.int z.length) else none
  | [.tup xs] => some (.int xs.length)
  | [d] => match seqOf μ d with
    | some xs => some (.int xs.length)
    | none => none
  | _ => none
theorem relL1 {κ : KA} {H : Hp} {d : DV} {vs : List V} (r : RelL g κ H [d] vs) : ∃ v, vs = [v] ∧ Rel g κ H d v := by
  obtain ⟨v, r', rfl, h1, h2⟩ := r.of_cons
  cases h2.of_nil
  exact ⟨v, rfl, h1⟩
theorem relL2 {κ : KA} {H : Hp} {d e : DV} {vs : List V} (r : RelL g κ H [d, e] vs) : ∃ v w, vs = [v, w] ∧ Rel g κ H d v ∧ Rel g κ H e w := by
  obtain ⟨v, r', rfl, h1, h2⟩ := r.of_cons
  obtain ⟨w, rfl, h3⟩ := relL1 h2
  exact ⟨v, w, rfl, h1, h3⟩
theorem cLen (xg : XG g X) : CallR X (.builtin "len") (rN g vLen) := by
  intro pins s σ H xs us Q I rx h
  obtain ⟨κ, ds, μ, rd, so, ho⟩ := h
  unfold vLen at ho
  split at ho
  · obtain ⟨v, rfl, r1⟩ := relL1 rd
    simp only [Rel] at r1
    subst r1
    split at ho
    · rename_i hz
      exact call_len_str pins s σ H _ us Q I rx ⟨_, rfl, okLen_iff.mp hz, rOut.flat so ho (by simp [Rel])⟩
    · exact ho.elim
  · obtain ⟨v, rfl, r1⟩ := relL1 rd
    obtain ⟨a, vs, rfl, h1, h2⟩ := tup_rel r1
    exact call_len_seq pins s σ H _ us Q I rx ⟨a, vs, rfl, .inr (by rw [xg.K]; exact h1), rOut.flat so ho (by simp [Rel, h2.length])⟩
  · obtain ⟨v, rfl, r1⟩ := relL1 rd
    split at ho
    · rename_i ys hy
      obtain ⟨a, vs, rfl, h1, h2⟩ := seqOf_rel so r1 hy
      exact call_len_seq pins s σ H _ us Q I rx ⟨a, vs, rfl, .inl (by rw [xg.K]; exact h1), rOut.flat so ho (by simp [Rel, h2.length])⟩
    · exact ho.elim
  · exact ho.elim
def vAbs : VN := fun ds _ => match ds with
  | [.int i] => some (.int (if i < 0 then -i else i))
  | _ => none
theorem cAbs : CallR X (.builtin "abs") (rN g vAbs) := by
  intro pins s σ H xs us Q I rx h
  obtain ⟨κ, ds, μ, rd, so, ho⟩ := h
  unfold vAbs at ho
  split at ho
  · obtain ⟨v, rfl, r1⟩ := relL1 rd
    simp only [Rel] at r1
    subst r1
    exact call_abs pins s σ H _ us Q I rx ⟨_, rfl, rOut.flat so ho (by simp [Rel])⟩
  · exact ho.elim
/-- int(n), int(flag), int(text) -/
def vInt : VN := fun ds _ => match ds with
  | [.int i] => some (.int i)
  | [.bl b] => some (.int (if b then 1 else 0))
  | [.str a] => if decide (a.length ≤ 640) = true then (PySem.intText? a).map .int else none
  | _ => none
theorem cInt : CallR X (.type "int") (rN g vInt) := by
  intro pins s σ H xs us Q I rx h
  obtain ⟨κ, ds, μ, rd, so, ho⟩ := h
  unfold vInt at ho
  split at ho
  · obtain ⟨v, rfl, r1⟩ := relL1 rd
    simp only [Rel] at r1
    subst r1
    exact call_int1 pins s σ H _ us Q I rx (.inl ⟨_, rfl, rOut.flat so ho (by simp [Rel])⟩)
  · obtain ⟨v, rfl, r1⟩ := relL1 rd
    simp only [Rel] at r1
    subst r1
    exact call_int1 pins s σ H _ us Q I rx (.inr ⟨_, rfl, rOut.flat so ho (by simp [Rel])⟩)
  · rename_i a
    obtain ⟨v, rfl, r1⟩ := relL1 rd
    simp only [Rel] at r1
    subst r1
    split at ho
    · rename_i hz
      cases hn : PySem.intText? a with
      | none => rw [hn] at ho; exact ho.elim
      | some n =>
        rw [hn] at ho
        exact call_int_str pins s σ H _ us Q I rx ⟨a, n, rfl, hn, by simpa using hz, rOut.flat so ho (by simp [Rel])⟩
    · exact ho.elim
  · exact ho.elim
def vStr : VN := fun ds _ => match ds with
  | [.int i] => if decide (i.natAbs.log2 < 1920) = true then some (.str (toString i)) else none
  | _ => none
theorem cStr : CallR X (.type "str") (rN g vStr) := by
  intro pins s σ H xs us Q I rx h
  obtain ⟨κ, ds, μ, rd, so, ho⟩ := h
  unfold vStr at ho
  split at ho
  · obtain ⟨v, rfl, r1⟩ := relL1 rd
    simp only [Rel] at r1
    subst r1
    split at ho
    · rename_i hz
      exact call_str_int pins s σ H _ us Q I rx ⟨_, rfl, by simpa using hz, rOut.flat so ho (by simp [Rel])⟩
    · exact ho.elim
  · exact ho.elim
/-- list(x), of a list, a tuple -/
def signsD (z : Str) : List DV := z.cps.toList.map fun c => .str ⟨#[c]⟩
def signsV (z : Str) : List V := z.cps.toList.map fun c => .str ⟨#[c]⟩
theorem signs_rel {g : Gc} {κ : KA} {H : Hp} : ∀ (cs : List Nat), RelL g κ H (cs.map fun c => DV.str ⟨#[c]⟩) (cs.map fun c => V.str ⟨#[c]⟩)
  | [] => RelL.nil
  | _ :: cs => RelL.cons (by simp only [Rel]) (signs_rel cs)
theorem vals_signs {z : Str} {acc : Array Value} (h : ItemsOf (SignAt z) acc z.cps.size) : Vals (signsV z) acc.toList := by
  refine vals_of_at (by unfold signsV; rw [List.length_map, Array.length_toList, Array.length_toList, h.1]) fun j x u h1 h2 => ?_
  obtain ⟨c, t, e1, e2⟩ := h.2 j u (by rw [← Array.getElem?_toList]; exact h2)
  unfold signsV at h1
  rw [List.getElem?_map, Array.getElem?_toList, e1] at h1
  cases h1
  subst e2
  exact ⟨t, rfl⟩
def vList : VN := fun ds μ => match ds with
  | [.str z] => if okLen z.cps.size = true then some (.lst (signsD z)) else none
  | [.tup xs] => some (.lst xs)
  | [d] => match seqOf μ d with
    | some xs => some (.lst xs)
    | none => none
  | _ => none
theorem cList (xg : XG g X) (hc : X.calm = true) : CallR X (.type "list") (rN g vList) := by
  intro pins s σ H xs us Q I rx h
  obtain ⟨κ, ds, μ, rd, so, ho⟩ := h
  unfold vList at ho
  split at ho
  · rename_i z
    obtain ⟨v, rfl, r1⟩ := relL1 rd
    simp only [Rel] at r1
    subst r1
    split at ho
    · rename_i hz
      have hz' := okLen_iff.mp hz
      obtain ⟨u, rfl, rz⟩ := vals1 rx
      obtain ⟨t, rfl⟩ := rz
      refine call_list_str (I.ok.hd hc) z t (fun h' tk acc' c' kp e hi => ?_) hz'
      refine ⟨.ref s.heap.objs.size, _, I.laid kp (Nat.le_refl _) (show ObjOk X.prog X.w _ h' _ (.lst (signsV z)) from ⟨?_, acc'.toList, c', vals_signs hi, ?_⟩), rfl, rOut.newL so ho (signs_rel z.cps.toList) (I.hok.fresh (Nat.le_refl _))⟩
      · unfold signsV; rw [List.length_map, Array.length_toList]; exact hz'
      · rw [Array.toArray_toList]; exact e
    · exact ho.elim
  · obtain ⟨v, rfl, r1⟩ := relL1 rd
    obtain ⟨a, vs, rfl, h1, h2⟩ := tup_rel r1
    exact call_list_of pins s σ H _ us Q I rx ⟨a, vs, rfl, .inr (by rw [xg.K]; exact h1), fun l hl => rOut.newL so ho h2 hl⟩
  · obtain ⟨v, rfl, r1⟩ := relL1 rd
    split at ho
    · rename_i ys hy
      obtain ⟨a, vs, rfl, h1, h2⟩ := seqOf_rel so r1 hy
      exact call_list_of pins s σ H _ us Q I rx ⟨a, vs, rfl, .inl (by rw [xg.K]; exact h1), fun l hl => rOut.newL so ho h2 hl⟩
    · exact ho.elim
  · exact ho.elim
def vTuple : VN := fun ds μ => match ds with
  | [.tup xs] => some (.tup xs)
  | [d] => match seqOf μ d with
    | some xs => some (.tup xs)
    | none => none
  | _ => none
theorem cTuple (xg : XG g X) : CallR X (.type "tuple") (rN g vTuple) := by
  intro pins s σ H xs us Q I rx h
  obtain ⟨κ, ds, μ, rd, so, ho⟩ := h
  unfold vTuple at ho
  split at ho
  · obtain ⟨v, rfl, r1⟩ := relL1 rd
    obtain ⟨a, vs, rfl, h1, h2⟩ := tup_rel r1
    exact call_tuple_of pins s σ H _ us Q I rx ⟨a, vs, rfl, .inr ⟨by rw [xg.K]; exact h1, rOut.flat so ho r1⟩⟩
  · obtain ⟨v, rfl, r1⟩ := relL1 rd
    split at ho
    · rename_i ys hy
      obtain ⟨a, vs, rfl, h1, h2⟩ := seqOf_rel so r1 hy
      exact call_tupleF pins s σ H _ us Q I rx ⟨a, vs, rfl, by rw [xg.K]; exact h1, fun l ob hl hd => rOut.newT so ho h2 hl hd⟩
    · exact ho.elim
  · exact ho.elim
def asBs : List DV → Option (List Bool)
  | [] => some []
  | .bl b :: r => (asBs r).map (b :: ·)
  | _ => none
def asIs : List DV → Option (List Int)
  | [] => some []
  | .int i :: r => (asIs r).map (i :: ·)
  | _ => none
def asSs : List DV → Option (List Str)
  | [] => some []
  | .str i :: r => (asSs r).map (i :: ·)
  | _ => none
theorem asBs_rel {κ : KA} {H : Hp} : ∀ {xs : List DV} {vs : List V} {bs : List Bool}, RelL g κ H xs vs → asBs xs = some bs → vs = bs.map V.bl
  | [], _, _, r, h => by cases r.of_nil; cases h; rfl
  | x :: xs, _, bs, r, h => by
    obtain ⟨v, r', rfl, h1, h2⟩ := r.of_cons
    cases x with
    | bl b =>
      simp only [asBs, Option.map_eq_some_iff] at h
      obtain ⟨cs, h3, rfl⟩ := h
      simp only [Rel] at h1
      subst h1
      rw [asBs_rel h2 h3]; rfl
    | _ => cases h
theorem asIs_rel {κ : KA} {H : Hp} : ∀ {xs : List DV} {vs : List V} {bs : List Int}, RelL g κ H xs vs → asIs xs = some bs → vs = bs.map V.int
  | [], _, _, r, h => by cases r.of_nil; cases h; rfl
  | x :: xs, _, bs, r, h => by
    obtain ⟨v, r', rfl, h1, h2⟩ := r.of_cons
    cases x with
    | int b =>
      simp only [asIs, Option.map_eq_some_iff] at h
      obtain ⟨cs, h3, rfl⟩ := h
      simp only [Rel] at h1
      subst h1
      rw [asIs_rel h2 h3]; rfl
    | _ => cases h
theorem asSs_rel {κ : KA} {H : Hp} : ∀ {xs : List DV} {vs : List V} {bs : List Str}, RelL g κ H xs vs → asSs xs = some bs → vs = bs.map V.str
  | [], _, _, r, h => by cases r.of_nil; cases h; rfl
  | x :: xs, _, bs, r, h => by
    obtain ⟨v, r', rfl, h1, h2⟩ := r.of_cons
    cases x with
    | str b =>
      simp only [asSs, Option.map_eq_some_iff] at h
      obtain ⟨cs, h3, rfl⟩ := h
      simp only [Rel] at h1
      subst h1
      rw [asSs_rel h2 h3]; rfl
    | _ => cases h
def vAll : VN := fun ds μ => match ds with
  | [d] => match seqOf μ d with
    | some xs => (asBs xs).map fun bs => .bl (bs.all id)
    | none => none
  | _ => none
def vAny : VN := fun ds μ => match ds with
  | [d] => match seqOf μ d with
    | some xs => (asBs xs).map fun bs => .bl (bs.any id)
    | none => none
  | _ => none
theorem cAll (xg : XG g X) (hc : X.calm = true) : CallR X (.builtin "all") (rN g vAll) := by
  intro pins s σ H xs us Q I rx h
  obtain ⟨κ, ds, μ, rd, so, ho⟩ := h
  unfold vAll at ho
  split at ho
  · obtain ⟨v, rfl, r1⟩ := relL1 rd
    split at ho
    · rename_i ys hy
      obtain ⟨a, vs, rfl, h1, h2⟩ := seqOf_rel so r1 hy
      cases hb : asBs ys with
      | none => rw [hb] at ho; exact ho.elim
      | some bs =>
        rw [hb] at ho
        have e := asBs_rel h2 hb
        subst e
        exact cr_all hc pins s σ H _ us Q I rx ⟨a, bs, rfl, by rw [xg.K]; exact h1, rOut.flat so ho (by simp [Rel])⟩
    · exact ho.elim
  · exact ho.elim
theorem cAny (xg : XG g X) (hc : X.calm = true) : CallR X (.builtin "any") (rN g vAny) := by
  intro pins s σ H xs us Q I rx h
  obtain ⟨κ, ds, μ, rd, so, ho⟩ := h
  unfold vAny at ho
  split at ho
  · obtain ⟨v, rfl, r1⟩ := relL1 rd
    split at ho
    · rename_i ys hy
      obtain ⟨a, vs, rfl, h1, h2⟩ := seqOf_rel so r1 hy
      cases hb : asBs ys with
      | none => rw [hb] at ho; exact ho.elim
      | some bs =>
        rw [hb] at ho
        have e := asBs_rel h2 hb
        subst e
        exact cr_any hc pins s σ H _ us Q I rx ⟨a, bs, rfl, by rw [xg.K]; exact h1, rOut.flat so ho (by simp [Rel])⟩
    · exact ho.elim
  · exact ho.elim
def vSum : VN := fun ds μ => match ds with
  | [d] => match seqOf μ d with
    | some xs => (asIs xs).map fun bs => .int bs.sum
    | none => none
  | _ => none
theorem cSum (xg : XG g X) (hc : X.calm = true) : CallR X (.builtin "sum") (rN g vSum) := by
  intro pins s σ H xs us Q I rx h
  obtain ⟨κ, ds, μ, rd, so, ho⟩ := h
  unfold vSum at ho
  split at ho
  · obtain ⟨v, rfl, r1⟩ := relL1 rd
    split at ho
    · rename_i ys hy
      obtain ⟨a, vs, rfl, h1, h2⟩ := seqOf_rel so r1 hy
      cases hb : asIs ys with
      | none => rw [hb] at ho; exact ho.elim
      | some bs =>
        rw [hb] at ho
        have e := asIs_rel h2 hb
        subst e
        exact cr_sum hc pins s σ H _ us Q I rx ⟨a, bs, rfl, by rw [xg.K]; exact h1, rOut.flat so ho (by simp [Rel])⟩
    · exact ho.elim
  · exact ho.elim

/-! ### isinstance against built-in types -/
def tyOf (μ : Sto) : DV → Option T7
  | .non => some .non
  | .bl _ => some .bl
  | .int _ => some .int
  | .str _ => some .str
  | .tup _ => some .tup
  | .lst _ => some .lst
  | .scr _ => some .lst
  | .dct _ _ => some .dct
  | .cell i => match μ[i]? with
    | some (.lst _) => some .lst
    | _ => none
  | _ => none
def T7.sub (a b : T7) : Bool := decide (a = b) || (decide (a = .bl) && decide (b = .int))
theorem kit7 (a b : T7) : kitB a.name b.name = some (a.sub b) := by
  cases a <;> cases b <;> decide +kernel
theorem tyX_of {κ : KA} {H : Hp} {μ : Sto} {d : DV} {v : V} {t : T7} (so : StoOk g κ H μ) (r : Rel g κ H d v) (h : tyOf μ d = some t) : TyX g.K H v (.type t.name) := by
  cases d with
  | non => cases h; simp only [Rel] at r; subst r; exact .base .non
  | bl b => cases h; simp only [Rel] at r; subst r; exact .base (.bl b)
  | int b => cases h; simp only [Rel] at r; subst r; exact .base (.int b)
  | str b => cases h; simp only [Rel] at r; subst r; exact .base (.str b)
  | tup xs =>
    cases h
    simp only [Rel] at r
    obtain ⟨a, vs, rfl, h2, h3⟩ := r
    rcases h2 with ⟨ob, _, h2⟩ | ⟨o, its, n, h4, h5, _⟩
    · exact .fTuple h2.1
    · exact .kTuple h4 h5
  | lst xs =>
    cases h
    simp only [Rel] at r
    obtain ⟨a, vs, rfl, h2, h3⟩ := r
    exact .base (.lst h2.1)
  | scr xs =>
    cases h
    simp only [Rel] at r
    obtain ⟨a, vs, rfl, h2, h3⟩ := r
    rcases h2 with h2 | ⟨ob, h2⟩ | ⟨o, its, n, h4, h5, _⟩
    · exact .base (.lst h2.1)
    · exact .base (.frz h2.1)
    · exact .kList h4 h5
  | dct ks xs =>
    cases h
    simp only [Rel] at r
    obtain ⟨a, vs, rfl, h2, h3⟩ := r
    exact .base (.dK h2.1)
  | cell i =>
    simp only [tyOf] at h
    cases ec : μ[i]? with
    | none => rw [ec] at h; cases h
    | some c =>
      rw [ec] at h
      cases c with
      | lst xs =>
        cases h
        obtain ⟨a, vs, rfl, h1, h2⟩ := lstOf_rel (xs := xs) so r (by simp only [lstOf, ec])
        exact .base (.lst h1)
      | _ => cases h
  | _ => cases h
def asTys : List DV → Option (List T7)
  | [] => some []
  | .ty t :: r => (asTys r).map (t :: ·)
  | _ => none
def vIsi : VN := fun ds μ => match ds with
  | [d, .ty t] => (tyOf μ d).map fun a => .bl (a.sub t)
  | [d, .tup cs] => match tyOf μ d, asTys cs with
    | some a, some ts => some (.bl (ts.any fun t => a.sub t))
    | _, _ => none
  | _ => none
theorem asTys_rel {κ : KA} {H : Hp} : ∀ {xs : List DV} {vs : List V} {ts : List T7}, RelL g κ H xs vs → asTys xs = some ts → Paired ClsV vs (ts.map fun t => Value.type t.name)
  | [], _, _, r, h => by cases r.of_nil; cases h; exact .nil
  | x :: xs, _, ts, r, h => by
    obtain ⟨v, r', rfl, h1, h2⟩ := r.of_cons
    cases x with
    | ty t =>
      simp only [asTys, Option.map_eq_some_iff] at h
      obtain ⟨cs, h3, rfl⟩ := h
      simp only [Rel] at h1
      subst h1
      exact .cons (.ty _) (asTys_rel h2 h3)
    | _ => cases h
theorem kitAny7 {K : PySem.W.Frag} (a : T7) : ∀ ts : List T7, PySem.W.kitAny K (.type a.name) (ts.map fun t => Value.type t.name) = some (ts.any fun t => a.sub t)
  | [] => kitAny_nil
  | t :: ts => by
    rw [List.map_cons, List.any_cons]
    refine kitAny_cons (kit_ty (kit7 a t)) (fun h => ?_) (fun h => by rw [h, Bool.true_or])
    rw [h, Bool.false_or]
    exact kitAny7 a ts
theorem cIsi (xg : XG g X) : CallR X (.builtin "isinstance") (rN g vIsi) := by
  intro pins s σ H xs us Q I rx h
  obtain ⟨κ, ds, μ, rd, so, ho⟩ := h
  unfold vIsi at ho
  split at ho
  · rename_i d t
    obtain ⟨v, w', rfl, r1, r2⟩ := relL2 rd
    simp only [Rel] at r2
    subst r2
    cases ht : tyOf μ d with
    | none => rw [ht] at ho; exact ho.elim
    | some a =>
      rw [ht] at ho
      exact call_isi pins s σ H _ us Q I rx ⟨v, _, _, _, _, rfl, .ty _, by rw [xg.K]; exact tyX_of so r1 ht, kit_ty (kit7 a t), rOut.flat so ho (by simp [Rel])⟩
  · rename_i d cs
    obtain ⟨v, w', rfl, r1, r2⟩ := relL2 rd
    cases ht : tyOf μ d with
    | none => rw [ht] at ho; exact ho.elim
    | some a =>
      cases hc : asTys cs with
      | none => rw [ht, hc] at ho; exact ho.elim
      | some ts =>
        rw [ht, hc] at ho
        simp only [Rel] at r2
        obtain ⟨p, vs, rfl, h2, h3⟩ := r2
        have ty : TyX X.K H v (.type a.name) := by rw [xg.K]; exact tyX_of so r1 ht
        exact call_isiS pins s σ H _ us Q I rx ⟨v, p, vs, _, _, _, rfl, by rw [xg.K]; exact h2.sq, asTys_rel h3 hc, ty, kitAny7 a ts, rOut.flat so ho (by simp [Rel])⟩
  · exact ho.elim

/-! ### methods of lists -/
/-- a cell that is a list, at its place -/
theorem cell_at {κ : KA} {H : Hp} {μ : Sto} {i : Nat} {v : V} {xs : List DV} (so : StoOk g κ H μ) (r : Rel g κ H (.cell i) v) (h : μ[i]? = some (.lst xs)) : ∃ p vs, v = .ref p ∧ κ.cs[i]? = some (some p) ∧ H p = some (.lst vs) ∧ RelL g κ H xs vs := by
  simp only [Rel] at r
  obtain ⟨o, h1, h2⟩ := so.at_ i _ h
  obtain ⟨p, vs, rfl, h3, h4⟩ := h2
  exact ⟨p, vs, r.2 p h1, h1, h3, h4⟩
theorem rOutS.write {κ : KA} {H : Hp} {μ : Sto} {i : Nat} {p : Addr} {z : DV} {xs : List DV} {vs : List V} {w : V} {Q : VK} (so : StoOk g κ H μ) (hi : κ.cs[i]? = some (some p)) (r : RelL g κ H xs vs) (rz : Rel g κ H z w) (h : rOutS g κ H (some (z, μ.set i (.lst xs))) Q) : Q w (upd H p (.lst vs)) := by
  have e := Ext.write (o := .lst vs) so hi
  exact h κ _ e (so.write hi ⟨p, vs, rfl, upd_same, r.ext e⟩) w (rz.ext e)
def mAppend : VM := fun d ds μ => match d, ds with
  | .cell i, [y] => match μ[i]? with
    | some (.lst xs) => if okLen (xs.length + 1) = true then some (.non, μ.set i (.lst (xs ++ [y]))) else none
    | _ => none
  | _, _ => none
theorem mtAppend : MtR X "list.append" (rM g mAppend) := by
  intro pins s σ H x xs v us Q I rx rs h
  obtain ⟨κ, d, ds, μ, rd, rds, so, ho⟩ := h
  unfold mAppend at ho
  split at ho
  · rename_i i y
    obtain ⟨w', rfl, ry⟩ := relL1 rds
    split at ho
    · rename_i ys hy
      split at ho
      · rename_i hz
        have hz := okLen_iff.mp hz
        obtain ⟨p, vs, rfl, h1, h2, h3⟩ := cell_at so rd hy
        exact mt_append pins s σ H _ _ v us Q I rx rs ⟨p, vs, w', rfl, rfl, h2, by rw [← h3.length]; omega, ho.write so h1 (h3.append (RelL.cons ry RelL.nil)) (by simp [Rel])⟩
      · exact ho.elim
    · exact ho.elim
  · exact ho.elim
def mInsert : VM := fun d ds μ => match d, ds with
  | .cell i, [.int k, y] => match μ[i]? with
    | some (.lst xs) => if (okLen (xs.length + 1) && (decide (0 ≤ k) && decide (k < 2 ^ 63))) = true then some (.non, μ.set i (.lst (xs.take k.toNat ++ [y] ++ xs.drop k.toNat))) else none
    | _ => none
  | _, _ => none
theorem mtInsert : MtR X "list.insert" (rM g mInsert) := by
  intro pins s σ H x xs v us Q I rx rs h
  obtain ⟨κ, d, ds, μ, rd, rds, so, ho⟩ := h
  unfold mInsert at ho
  split at ho
  · rename_i i k y
    obtain ⟨w1, w', rfl, r1, ry⟩ := relL2 rds
    simp only [Rel] at r1
    subst r1
    split at ho
    · rename_i ys hy
      split at ho
      · rename_i hz
        simp only [Bool.and_eq_true, decide_eq_true_eq, okLen_iff] at hz
        obtain ⟨p, vs, rfl, h1, h2, h3⟩ := cell_at so rd hy
        exact mt_insert pins s σ H _ _ v us Q I rx rs ⟨p, vs, k, w', rfl, rfl, h2, by rw [← h3.length]; omega, hz.2.1, hz.2.2,
          ho.write so h1 (((RelL.take _ h3).append (RelL.cons ry RelL.nil)).append (RelL.drop _ h3)) (by simp [Rel])⟩
      · exact ho.elim
    · exact ho.elim
  · exact ho.elim
theorem RelL.dropLast' {κ : KA} {H : Hp} {xs : List DV} {vs : List V} (r : RelL g κ H xs vs) : RelL g κ H xs.dropLast vs.dropLast := by
  rw [List.dropLast_eq_take, List.dropLast_eq_take, r.length]
  exact RelL.take _ r
def mPop : VM := fun d ds μ => match d, ds with
  | .cell i, [] => match μ[i]? with
    | some (.lst xs) => match xs[xs.length - 1]? with
      | some y => some (y, μ.set i (.lst xs.dropLast))
      | none => none
    | _ => none
  | _, _ => none
theorem mtPop : MtR X "list.pop" (rM g mPop) := by
  intro pins s σ H x xs v us Q I rx rs h
  obtain ⟨κ, d, ds, μ, rd, rds, so, ho⟩ := h
  unfold mPop at ho
  split at ho
  · rename_i i
    cases rds.of_nil
    split at ho
    · rename_i ys hy
      split at ho
      · rename_i y hl
        obtain ⟨p, vs, rfl, h1, h2, h3⟩ := cell_at so rd hy
        obtain ⟨w', h4, h5⟩ := h3.get hl
        exact mt_pop pins s σ H _ _ v us Q I rx rs ⟨p, vs, w', rfl, rfl, h2, by rw [← h3.length]; exact h4, ho.write so h1 (RelL.dropLast' h3) h5⟩
      · exact ho.elim
    · exact ho.elim
  · exact ho.elim
/-- xs[i] = e -/
theorem ixN_lt {n : Nat} {i : Int} {j : Nat} (h : ixN n i = some j) : j < n := (ixN_seq h).2.1
def sSetIx (e o i : DE) : DS := fun ρ μ => (e ρ μ).toS ρ fun y μ1 => (o ρ μ1).toS ρ fun d μ2 => (i ρ μ2).toS ρ fun k μ3 => match d, k with
  | .cell c, .int k => match μ3[c]? with
    | some (.lst xs) => match ixN xs.length k with
      | some j => .nx ρ (μ3.set c (.lst (xs.set j y)))
      | none => .stuck
    | _ => .stuck
  | _, _ => .stuck
theorem gs_setIx {W : WX} {e o i : Expr} {fe fo fi : DE} {pos pos' : Pos} (he : GE g W X e fe) (ho : GE g W X o fo) (hi : GE g W X i fi)
    (ha : ∀ v, assign (.Subscript o i pos') X.env v = (do
      let ov ← holding [v] (eval o X.env)
      let iv ← holding [v, ov] (eval i X.env)
      standAt pos'
      holding [v, ov, iv] (setItem ov iv v)
      release [v, ov, iv] []) := by intro _; rfl)
    (hs : swapsWithSole [.Subscript o i pos'] e pos.line X.env = pure false := by rfl) (hw : swappedStores [.Subscript o i pos'] e X.env = pure none := by rfl)
    (h1 : (assignEach [.Subscript o i pos'] X.env).map (·.2) = [assign (.Subscript o i pos') X.env] := by rfl) : GS g W X (.Assign [.Subscript o i pos'] e pos) (sSetIx fe fo fi) :=
  PS.imp (ps_asg he (pg_sub ho hi set_list ha) hs hw h1) fun D σ H q => by
  obtain ⟨κ, ρ, μ, he, hs, hw⟩ := q
  refine ⟨κ, ρ, μ, he, hs, (wpS.bind he hw).mono fun y μ1 κ1 H1 e1 s1 h1 v rv => ?_⟩
  refine ⟨κ1, ρ, μ1, he.ext e1, s1, (wpS.bind (he.ext e1) h1).mono fun d μ2 κ2 H2 e2 s2 h2 w' rw' => ?_⟩
  refine ⟨κ2, ρ, μ2, (he.ext e1).ext e2, s2, (wpS.bind ((he.ext e1).ext e2) h2).mono fun k μ3 κ3 H3 e3 s3 h3 z rz => ?_⟩
  split at h3
  · rename_i c k
    split at h3
    · rename_i xs hx
      split at h3
      · rename_i j hj
        obtain ⟨p, vs, rfl, h4, h5, h6⟩ := cell_at s3 (rw'.ext e3) hx
        simp only [Rel] at rz
        subst rz
        have ry := rv.ext (e2.trans e3)
        have ex := Ext.write (o := .lst (vs.set j v)) s3 h4
        refine ⟨p, vs, k, j, rfl, rfl, h5, by rw [← h6.length]; exact hj, ?_⟩
        exact h3 κ3 _ σ ex (s3.write h4 ⟨p, _, rfl, upd_same, (RelL.set ry j h6).ext ex⟩) ((((he.ext e1).ext e2).ext e3).ext ex)
      · exact h3.elim
    · exact h3.elim
  · exact h3.elim

/-! ### methods of texts -/
theorem outS_flat {κ : KA} {H : Hp} {μ : Sto} {z : DV} {w : V} {Q : VK} (so : StoOk g κ H μ) (h : rOutS g κ H (some (z, μ)) Q) (r : Rel g κ H z w) : Q w H := h κ H Ext.refl so w r
def mJoin : VM := fun d ds μ => match d, ds with
  | .str a, [.tup xs] => (asSs xs).bind fun ys => if decide ((ys.map (·.length)).sum + ys.length * a.length ≤ 16777216) = true then some (.str (Txt.join a ys), μ) else none
  | .str a, [e] => match seqOf μ e with
    | some xs => (asSs xs).bind fun ys => if decide ((ys.map (·.length)).sum + ys.length * a.length ≤ 16777216) = true then some (.str (Txt.join a ys), μ) else none
    | none => none
  | _, _ => none
theorem mtJoin (xg : XG g X) : MtR X "str.join" (rM g mJoin) := by
  intro pins s σ H x xs v us Q I rx rs h
  obtain ⟨κ, d, ds, μ, rd, rds, so, ho⟩ := h
  unfold mJoin at ho
  split at ho
  · rename_i a zs
    obtain ⟨w', rfl, ry⟩ := relL1 rds
    simp only [Rel] at rd
    subst rd
    obtain ⟨p, vs, rfl, h1, h2⟩ := tup_rel ry
    cases hb : asSs zs with
    | none => rw [hb] at ho; exact ho.elim
    | some ys =>
      rw [hb] at ho
      simp only [Option.bind_some] at ho
      split at ho
      · rename_i hz
        have e := asSs_rel h2 hb
        subst e
        exact mt_join pins s σ H _ _ v us Q I rx rs ⟨a, p, ys, rfl, rfl, .inr (by rw [xg.K]; exact h1), by simpa using hz, outS_flat so ho (by simp [Rel])⟩
      · exact ho.elim
  · rename_i a e _
    obtain ⟨w', rfl, ry⟩ := relL1 rds
    simp only [Rel] at rd
    subst rd
    split at ho
    · rename_i zs hx
      obtain ⟨p, vs, rfl, h1, h2⟩ := seqOf_rel so ry hx
      cases hb : asSs zs with
      | none => rw [hb] at ho; exact ho.elim
      | some ys =>
        rw [hb] at ho
        simp only [Option.bind_some] at ho
        split at ho
        · rename_i hz
          have e := asSs_rel h2 hb
          subst e
          exact mt_join pins s σ H _ _ v us Q I rx rs ⟨a, p, ys, rfl, rfl, .inl (by rw [xg.K]; exact h1), by simpa using hz, outS_flat so ho (by simp [Rel])⟩
        · exact ho.elim
    · exact ho.elim
  · exact ho.elim
def mUpper : VM := fun d ds μ => match d, ds with
  | .str a, [] => if decide (a.length ≤ 5592405) = true then some (.str (Txt.upper a), μ) else none
  | _, _ => none
theorem mtUpper : MtR X "str.upper" (rM g mUpper) := by
  intro pins s σ H x xs v us Q I rx rs h
  obtain ⟨κ, d, ds, μ, rd, rds, so, ho⟩ := h
  unfold mUpper at ho
  split at ho
  · simp only [Rel] at rd
    subst rd
    cases rds.of_nil
    split at ho
    · rename_i hz
      exact mt_upper pins s σ H _ _ v us Q I rx rs ⟨_, rfl, rfl, by simpa using hz, outS_flat so ho (by simp [Rel])⟩
    · exact ho.elim
  · exact ho.elim
def mLstrip : VM := fun d ds μ => match d, ds with
  | .str a, [.str b] => if okLen a.length = true then some (.str (Txt.lstripChars a b), μ) else none
  | _, _ => none
theorem mtLstrip : MtR X "str.lstrip" (rM g mLstrip) := by
  intro pins s σ H x xs v us Q I rx rs h
  obtain ⟨κ, d, ds, μ, rd, rds, so, ho⟩ := h
  unfold mLstrip at ho
  split at ho
  · simp only [Rel] at rd
    subst rd
    obtain ⟨w', rfl, ry⟩ := relL1 rds
    simp only [Rel] at ry
    subst ry
    split at ho
    · rename_i hz
      exact mt_lstripChars pins s σ H _ _ v us Q I rx rs ⟨_, _, rfl, rfl, okLen_iff.mp hz, outS_flat so ho (by simp [Rel])⟩
    · exact ho.elim
  · exact ho.elim
end
end SD

set_option Elab.async false
set_option linter.all false
set_option maxRecDepth 100000
set_option maxHeartbeats 4000000
/-! SD, eighth part: dict displays. -/
namespace SD
open PySem PySem.Spec PyProof.Rows L2
section
variable {g : Gc} {W : WX} {X : Cx} {pos : Pos}
def eDct0 : DE := fun _ μ => .ok (.dct [] []) μ
theorem ge_dct0 : GE g W X (.Dict [] [] pos) eDct0 := PE.imp pe_dnewK fun σ H Q q => by
  obtain ⟨κ, ρ, μ, he, hs, hw⟩ := q
  intro p hp
  refine hw κ _ (Ext.new hs hp) (hs.new hp) (.ref p) ?_
  simp only [Rel]
  exact ⟨p, [], rfl, ⟨upd_same, hs.fresh hp⟩, rfl, RelL.nil⟩
def evPs : List (DE × DE) → En → Sto → R (List (DV × DV))
  | [], _, μ => .ok [] μ
  | (k, v) :: r, ρ, μ => (k ρ μ).bind fun x μ1 => (v ρ μ1).bind fun y μ2 => (evPs r ρ μ2).bind fun ps μ3 => .ok ((x, y) :: ps) μ3
def asKey : DV → Option Key
  | .int i => some (.inl i)
  | .str x => some (.inr x)
  | _ => none
def asKeys : List (DV × DV) → Option (List Key)
  | [] => some []
  | (k, _) :: r => match asKey k, asKeys r with
    | some k, some ks => some (k :: ks)
    | _, _ => none
def nodupB : List Key → Bool
  | [] => true
  | k :: ks => !(ks.any fun j => decide (j = k)) && nodupB ks
/-- {k: v, ..}, frozen, its keys ints and texts, all different -/
def eDct (ps : List (DE × DE)) : DE := fun ρ μ => (evPs ps ρ μ).bind fun kvs μ1 => match asKeys kvs with
  | some ks => if (decide (kvs.length ≤ 15) && nodupB ks) = true then .ok (.dct ks (kvs.map (·.2))) μ1 else .stuck
  | none => .stuck
theorem putK_new {kvs : List (Key × V)} {k : Key} {v : V} (h : (kvs.any fun kv => decide (kv.1 = k)) = false) : putK kvs k v = kvs ++ [(k, v)] := by
  unfold putK
  rw [if_neg (by rw [h]; exact Bool.false_ne_true)]
theorem mergeK_nodup : ∀ (more kvs : List (Key × V)), (∀ p ∈ more, ∀ q ∈ kvs, q.1 ≠ p.1) → nodupB (more.map (·.1)) = true → mergeK kvs more = kvs ++ more
  | [], kvs, _, _ => by simp [mergeK]
  | p :: more, kvs, h, hn => by
    simp only [List.map_cons, nodupB, Bool.and_eq_true, Bool.not_eq_true'] at hn
    have h1 : mergeK kvs (p :: more) = mergeK (putK kvs p.1 p.2) more := rfl
    rw [h1, putK_new (by
      rw [List.any_eq_false]
      intro q hq
      simpa using h p (by simp) q hq)]
    rw [mergeK_nodup more (kvs ++ [(p.1, p.2)]) (fun q hq r hr => ?_) hn.2]
    · simp
    · rcases List.mem_append.mp hr with hr | hr
      · exact h q (List.mem_cons_of_mem _ hq) r hr
      · have : r = (p.1, p.2) := by simpa using hr
        subst this
        intro e
        have := List.any_eq_false.mp hn.1 q.1 (List.mem_map_of_mem hq)
        simp at this
        exact this e.symm
structure GPs (g : Gc) (W : WX) (X : Cx) (pos : Pos) (keys : List (Option Expr)) (values : List Expr) (ps : List (DE × DE)) : Prop where
  ok : PPs X pos keys values (ps.map fun p => (tE g W p.1, tE g W p.2))
  all : keys.all (·.isSome) = true
  len : keys.length = values.length
  few : keys.length = ps.length
theorem gps_nil : GPs g W X pos [] [] [] := ⟨pps_nil, rfl, rfl, rfl⟩
theorem gps_cons {k v : Expr} {fk fv : DE} {ks : List (Option Expr)} {vs : List Expr} {ps : List (DE × DE)} (hk : GE g W X k fk) (hv : GE g W X v fv) (hr : GPs g W X pos ks vs ps) : GPs g W X pos (some k :: ks) (v :: vs) ((fk, fv) :: ps) :=
  ⟨pps_cons hk hv hr.ok, by simp [hr.all], by simp [hr.len], by simp [hr.few]⟩
theorem pairs_read {σ : L2.St} {ρ : En} : ∀ (ps : List (DE × DE)) {κ : KA} {H : Hp} {μ : Sto} {Q : List (V × V) → Hp → Prop}, RelE g κ H ρ σ → StoOk g κ H μ →
    wpR g W σ κ H (evPs ps ρ μ) (fun kvs μ' κ' H' => ∀ xs ys, RelL g κ' H' (kvs.map (·.1)) xs → RelL g κ' H' (kvs.map (·.2)) ys → Q (xs.zip ys) H') → tPairs (ps.map fun p => (tE g W p.1, tE g W p.2)) σ H Q
  | [], κ, H, μ, Q, he, hs, hw => hw κ H Ext.refl hs [] [] RelL.nil RelL.nil
  | (k, v) :: ps, κ, H, μ, Q, he, hs, hw => by
    refine ⟨κ, ρ, μ, he, hs, (wpR.bind (show wpR g W σ κ H ((k ρ μ).bind fun x μ1 => (v ρ μ1).bind fun y μ2 => (evPs ps ρ μ2).bind fun ps μ3 => .ok ((x, y) :: ps) μ3) _ from hw)).mono fun x μ1 κ1 H1 e1 s1 h1 vx rx => ?_⟩
    refine ⟨κ1, ρ, μ1, he.ext e1, s1, h1.bind.mono fun y μ2 κ2 H2 e2 s2 h2 vy ry => ?_⟩
    refine pairs_read ps ((he.ext e1).ext e2) s2 (h2.bind.mono fun kvs μ3 κ3 H3 e3 s3 h3 xs ys r1 r2 => ?_)
    exact h3 κ3 H3 Ext.refl s3 (vx :: xs) (vy :: ys) (RelL.cons (rx.ext (e2.trans e3)) r1) (RelL.cons (ry.ext e3) r2)
theorem asKeys_rel {κ : KA} {H : Hp} : ∀ {kvs : List (DV × DV)} {ks : List Key} {xs : List V}, asKeys kvs = some ks → RelL g κ H (kvs.map (·.1)) xs → xs = ks.map kV ∧ ks.length = kvs.length
  | [], _, _, h, r => by cases h; cases r.of_nil; exact ⟨rfl, rfl⟩
  | (k, v) :: kvs, ks, xs, h, r => by
    obtain ⟨x, r', rfl, h1, h2⟩ := RelL.of_cons (show RelL g κ H (k :: kvs.map (·.1)) xs from r)
    simp only [asKeys] at h
    cases e1 : asKey k with
    | none => rw [e1] at h; cases h
    | some k' =>
      cases e2 : asKeys kvs with
      | none => rw [e1, e2] at h; cases h
      | some ks' =>
        rw [e1, e2] at h
        cases h
        obtain ⟨h3, h4⟩ := asKeys_rel e2 h2
        refine ⟨?_, by simp [h4]⟩
        rw [h3]
        cases k with
        | int i => cases e1; simp only [Rel] at h1; subst h1; rfl
        | str i => cases e1; simp only [Rel] at h1; subst h1; rfl
        | _ => cases e1
theorem zip_kvs {ks : List Key} {ys : List V} (h : ks.length = ys.length) : (ks.map kV).zip ys = (ks.zip ys).map fun kv => (kV kv.1, kv.2) := by
  induction ks generalizing ys with
  | nil => rfl
  | cons k ks ih =>
    cases ys with
    | nil => cases h
    | cons y ys => simp only [List.map_cons, List.zip_cons_cons]; rw [ih (by simpa using h)]
theorem zip_fst {ks : List Key} {ys : List V} (h : ks.length = ys.length) : (ks.zip ys).map (·.1) = ks := by
  induction ks generalizing ys with
  | nil => rfl
  | cons k ks ih =>
    cases ys with
    | nil => cases h
    | cons y ys => simp only [List.zip_cons_cons, List.map_cons]; rw [ih (by simpa using h)]
theorem ge_dct {keys : List (Option Expr)} {values : List Expr} {ps : List (DE × DE)} (h : GPs g W X pos keys values ps) (h0 : keys ≠ []) (h15 : keys.length ≤ 15) : GE g W X (.Dict keys values pos) (eDct ps) := by
  refine PE.imp (pe_disp h.ok h.all h.len h0 h15) fun σ H Q q => ?_
  obtain ⟨κ, ρ, μ, he, hs, hw⟩ := q
  intro p hp
  have x0 : Ext0 κ H (κ.hide p) (upd H p (.dK [])) := Ext0.hide hp
  have he1 : RelE g (κ.hide p) (upd H p (.dK [])) ρ σ := ⟨he.len, fun i d hd => by
    obtain ⟨v, a1, a2⟩ := he.at_ i d hd
    exact ⟨v, a1, a2.ext0 x0⟩⟩
  refine pairs_read ps he1 (hs.hide hp) ?_
  -- the pairs, with p hidden
  have hb : ∀ (Φ : List (DV × DV) → Sto → KA → Hp → Prop), (∀ kvs μ1, evPs ps ρ μ = .ok kvs μ1 → ∀ κ' H', Ext (κ.hide p) (upd H p (.dK [])) κ' H' → StoOk g κ' H' μ1 → Φ kvs μ1 κ' H') →
      (∀ c ns xs μ1, evPs ps ρ μ = .ex c ns xs μ1 → wpR g W σ (κ.hide p) (upd H p (.dK [])) (.ex c ns xs μ1 : R (List (DV × DV))) Φ) → evPs ps ρ μ ≠ .stuck → wpR g W σ (κ.hide p) (upd H p (.dK [])) (evPs ps ρ μ) Φ := by
    intro Φ h1 h2 h3
    cases e : evPs ps ρ μ with
    | ok a μ1 => exact h1 a μ1 e
    | ex c ns xs μ1 => exact h2 c ns xs μ1 e
    | stuck => exact (h3 e).elim
  have again : ∀ {κ' : KA}, κ'.gh = (κ.hide p).gh → κ' = (KA.mk κ'.cs κ.gh).hide p := fun {κ'} e => by
    obtain ⟨cs, gh⟩ := κ'
    show KA.mk cs gh = KA.mk cs (p :: κ.gh)
    rw [show gh = p :: κ.gh from e]
  have fin : ∀ {κ' : KA} {H' : Hp}, Ext (κ.hide p) (upd H p (.dK [])) κ' H' → Ext κ H (KA.mk κ'.cs κ.gh) H' := fun {κ' H'} e => by
    have k1 := again e.ghs
    have x1 : Ext0 κ H ((KA.mk κ'.cs κ.gh).hide p) H' := by rw [← k1]; exact x0.trans e.toExt0
    refine ⟨x1.trans Ext0.show', rfl, fun a ha => ?_⟩
    have : a ≠ p := fun z => by
      obtain ⟨⟨u, hu⟩, _⟩ := hs.gst a ha
      rw [z, hp] at hu; cases hu
    rw [e.ghv a (List.mem_cons_of_mem _ ha), upd_ne this]
  have hw : wpR g W σ κ H ((evPs ps ρ μ).bind fun kvs μ1 => match asKeys kvs with
    | some ks => if (decide (kvs.length ≤ 15) && nodupB ks) = true then .ok (.dct ks (kvs.map (·.2))) μ1 else .stuck
    | none => .stuck) (fun d _ κ' H' => ∀ v, Rel g κ' H' d v → Q v H') := hw
  refine hb _ (fun kvs μ1 e κ' H' ex so xs ys r1 r2 => ?_) (fun c ns xs μ1 e => ?_) (fun e => by rw [e] at hw; exact hw)
  · rw [e] at hw
    have hw : wpR g W σ κ H (match asKeys kvs with
      | some ks => if (decide (kvs.length ≤ 15) && nodupB ks) = true then R.ok (DV.dct ks (kvs.map (·.2))) μ1 else .stuck
      | none => .stuck) (fun d _ κ' H' => ∀ v, Rel g κ' H' d v → Q v H') := hw
    have hH : H' p = some (.dK []) := by
      rw [ex.ghv p (show p ∈ p :: κ.gh by simp), upd_same]
    refine ⟨hH, ?_⟩
    cases ek : asKeys kvs with
    | none => rw [ek] at hw; exact hw.elim
    | some ks =>
      rw [ek] at hw
      simp only at hw
      split at hw
      · rename_i hz
        simp only [Bool.and_eq_true, decide_eq_true_eq] at hz
        obtain ⟨rfl, hl⟩ := asKeys_rel ek r1
        have hly : ks.length = ys.length := by rw [hl, ← r2.length]; simp
        refine ⟨ks.zip ys, zip_kvs hly, by rw [List.length_zip]; omega, ?_⟩
        rw [mergeK_nodup _ [] (fun _ _ _ h => nomatch h) (by rw [zip_fst hly]; exact hz.2), List.nil_append]
        -- p is filled, then known
        have k1 := again ex.ghs
        have mp : p ∈ κ'.gh := by rw [ex.ghs]; show p ∈ p :: κ.gh; simp
        have xw : Ext0 κ' H' κ' (upd H' p (.dK (ks.zip ys))) := Ext0.write (.inr mp)
        have so2 : StoOk g ((KA.mk κ'.cs κ.gh).hide p) (upd H' p (.dK (ks.zip ys))) μ1 := by rw [← k1]; exact so.fill mp
        have npg : p ∉ κ.gh := fun m => by
          obtain ⟨⟨u, hu⟩, _⟩ := hs.gst p m
          rw [hp] at hu; cases hu
        have np : ¬ (KA.mk κ'.cs κ.gh).has p := fun m => m.elim (fun m => (so.gst p mp).2 m) npg
        have x2 : Ext κ H (KA.mk κ'.cs κ.gh) (upd H' p (.dK (ks.zip ys))) := by
          have f := fin ex
          have x1 : Ext0 κ H ((KA.mk κ'.cs κ.gh).hide p) (upd H' p (.dK (ks.zip ys))) := by rw [← k1]; exact (x0.trans ex.toExt0).trans xw
          exact ⟨x1.trans Ext0.show', rfl, fun a ha => by
            have hap : a ≠ p := fun z => npg (by rw [← z]; exact ha)
            rw [upd_ne hap]; exact f.ghv a ha⟩
        refine hw _ _ x2 so2.show' (.ref p) ?_
        simp only [Rel]
        refine ⟨p, ys, rfl, ⟨upd_same, np⟩, hly, ?_⟩
        have r3 : RelL g ((KA.mk κ'.cs κ.gh).hide p) (upd H' p (.dK (ks.zip ys))) (kvs.map (·.2)) ys := by rw [← k1]; exact r2.ext0 xw
        exact r3.ext0 Ext0.show'
      · exact hw.elim
  · rw [e] at hw
    intro κ' H' ex so d vs h1 h2 h3
    have k1 := again ex.ghs
    have so2 : StoOk g ((KA.mk κ'.cs κ.gh).hide p) H' μ1 := by rw [← k1]; exact so
    have h1' : At (KA.mk κ'.cs κ.gh) H' d (.xd (ns.zip vs)) := ⟨h1.1, fun m => h1.2 (m.elim .inl fun m => .inr (by rw [ex.ghs]; exact List.mem_cons_of_mem _ m))⟩
    have h3' : RelL g ((KA.mk κ'.cs κ.gh).hide p) H' xs vs := by rw [← k1]; exact h3
    exact hw _ H' (fin ex) so2.show' d vs h1' h2 (h3'.ext0 Ext0.show')
end
end SD

set_option Elab.async false
set_option linter.all false
set_option maxRecDepth 100000
set_option maxHeartbeats 4000000
/-! SD, ninth part: what a printed derivation leans on. -/
namespace SD
open PySem PySem.Spec PyProof.Rows L2
section
variable {g : Gc} {W : WX} {X : Cx} {x : Str} {pos : Pos}
theorem ge_gint {i : Int} (hm : ∃ t, X.mg x = some (.int i t)) (hg : Gl X x) (hd : (x == ("__debug__" : Str)) = false := by decide) : GE g W X (.Name x pos) (eC (.int i)) := by
  obtain ⟨t, h⟩ := hm
  exact ge_c (v := .int i) (pe_glob hg h ⟨t, rfl⟩ hd)
theorem ge_gstr {z : Str} (hm : ∃ t, X.mg x = some (.str z t)) (hg : Gl X x) (hd : (x == ("__debug__" : Str)) = false := by decide) : GE g W X (.Name x pos) (eC (.str z)) := by
  obtain ⟨t, h⟩ := hm
  exact ge_c (v := .str z) (pe_glob hg h ⟨t, rfl⟩ hd)
theorem ge_ty (t : T7) (hm : X.mg x = none) (hg : Gl X x) (hv : bootBuiltins x = some (.type t.name)) (hn : x ≠ "__name__" := by decide) (hd : (x == ("__debug__" : Str)) = false := by decide) : GE g W X (.Name x pos) (eC (.ty t)) :=
  ge_c (v := .ty t.name) (pe_bltn hg hm hv rfl hn hd)
end
theorem hu65 {k : Nat} {A : Around} (r : Room k A) : A.units + 65 < cLine := by have := r.un; omega
theorem hu64 {k : Nat} {A : Around} (r : Room k A) : A.units + 64 < cLine := r.units
/-- the facts of the head, over some heap -/
structure Hd (fa : List He.Fa) (fn : List He.DefD) (K : PySem.W.Frag) (mg : Str → Option Value) : Prop where
  ex : ∃ h : Heap, K.In h ∧ h.Ns mainGlobals mg ∧ He.SaysD fa fn K
section
variable {fa : List He.Fa} {fn : List He.DefD} {K : PySem.W.Frag} {mg : Str → Option Value}
theorem Hd.glo (T : Hd fa fn K mg) (i : Nat) {x : Str} (h : fa[i]? = some (.glo x) := by rfl) : mg x = some (.ref (He.ga K x)) := by
  obtain ⟨_, X, G, c⟩ := T.ex
  exact He.glo_ok X G (c.fact i h)
theorem Hd.free (T : Hd fa fn K mg) (i : Nat) {x : Str} (h : fa[i]? = some (.free x) := by rfl) : mg x = none := by
  obtain ⟨_, X, G, c⟩ := T.ex
  exact He.free_ok X G (c.fact i h)
theorem Hd.int (T : Hd fa fn K mg) (i : Nat) {x : Str} {k : Int} (h : fa[i]? = some (.int x k) := by rfl) : ∃ t, mg x = some (.int k t) := by
  obtain ⟨_, X, G, c⟩ := T.ex
  exact He.int_ok X G (c.fact i h)
theorem Hd.str (T : Hd fa fn K mg) (i : Nat) {x z : Str} (h : fa[i]? = some (.str x z) := by rfl) : ∃ t, mg x = some (.str z t) := by
  obtain ⟨_, X, G, c⟩ := T.ex
  exact He.str_ok X G (c.fact i h)
theorem Hd.def_ (T : Hd fa fn K mg) (i : Nat) {d : He.DefD} (h : fn[i]? = some d := by rfl) : ∃ fd, FunD K d.name d.qual d.params d.body d.scope (d.dvs K) (d.kws K) (He.fAd K d.at_) fd := by
  obtain ⟨_, X, G, c⟩ := T.ex
  exact c.def_ i h
end
/-- a global def: where it stands, and its promise by its body -/
theorem fg_of {P : Program} {w : World} {g : Gc} {mg : Str → Option Value} {base : Heap} {x : Str} {st : Stmt} {N ps : List Str} {dvs : List V} {k : Nat} {md : Md} {fb : DS} {f : Addr}
    (hm : mg x = some (.ref f)) (hF : ∃ fd, FunD g.K x x (defArgs st) (defBody st) (defScope st) dvs [] f fd) (S : FnScope N ps (defScope st))
    (hb : ∀ (cdv : Value) (A : Around) (outer : List Env) (s : Shared) (H : Hp) (E : XK), Room k (A.deeper (envOfC x (defScope st) s.heap.objs.size f cdv)) → GSs g (WF E) (cxOf (L2.CX P w) P w g.K mg base N x (defScope st) f cdv A outer s H E) (defBody st) fb) :
    FnG P w g mg base (k + 1) x st ps dvs (runF md ps.length N.length fb) := by
  obtain ⟨fd, F⟩ := hF
  exact ⟨f, fd, hm, F, gf_ok F S hb⟩
theorem fg_stuck {P : Program} {w : World} {g : Gc} {mg : Str → Option Value} {base : Heap} {x : Str} {st : Stmt} {ps : List Str} {dvs : List V} {k : Nat} {f : Addr}
    (hm : mg x = some (.ref f)) (hF : ∃ fd, FunD g.K x x (defArgs st) (defBody st) (defScope st) dvs [] f fd) : FnG P w g mg base k x st ps dvs (fun _ _ => .stuck) := by
  obtain ⟨fd, F⟩ := hF
  exact ⟨f, fd, hm, F, fnOk_stuck⟩
theorem ar_stuck {np : Nat} : Ar (fun _ _ => .stuck) np := fun _ _ _ => rfl
/-- the body's wish about exceptions -/
theorem tk_of {P : Program} {w : World} {K : PySem.W.Frag} {mg : Str → Option Value} {base : Heap} {N : List Str} {qual : Str} {scope : Scope} {f : Addr} {cdv : Value} {A : Around} {outer : List Env} {s : Shared} {H : Hp} {E : XK} :
    Takes (cxOf (L2.CX P w) P w K mg base N qual scope f cdv A outer s H E) (WF E) := takes_of rfl rfl rfl rfl
theorem po_of {P : Program} {w : World} {K : PySem.W.Frag} {mg : Str → Option Value} {base : Heap} {N : List Str} {qual : Str} {scope : Scope} {f : Addr} {cdv : Value} {A : Around} {outer : List Env} {s : Shared} {H : Hp} {E : XK} :
    PassesOwn (model P w) (cxOf (L2.CX P w) P w K mg base N qual scope f cdv A outer s H E).A (cxOf (L2.CX P w) P w K mg base N qual scope f cdv A outer s H E).env (cxOf (L2.CX P w) P w K mg base N qual scope f cdv A outer s H E).xe :=
  passes_of (X := cxOf (L2.CX P w) P w K mg base N qual scope f cdv A outer s H E) rfl
end SD

set_option Elab.async false
set_option linter.all false
set_option maxRecDepth 100000
set_option maxHeartbeats 4000000
/-! SD, tenth part: x[::-1] of a tuple, a list. -/
namespace HT2
open PySem PySem.Spec PyProof.Rows HT PySem.W
theorem filterMap_ext {α β : Type} {f g : α → Option β} : ∀ {l : List α}, (∀ a ∈ l, f a = g a) → l.filterMap f = l.filterMap g
  | [], _ => rfl
  | a :: l, h => by
    rw [List.filterMap_cons, List.filterMap_cons, h a (by simp), filterMap_ext fun b hb => h b (List.mem_cons_of_mem _ hb)]
theorem pick_rev (xs : Array Value) : ((List.range xs.size).filterMap fun (m : Nat) => xs[((((xs.size : Int) - 1)) + (m : Int) * (-1)).toNat]?).toArray = xs.toList.reverse.toArray := by
  congr 1
  have e : ∀ m ∈ List.range xs.size, (fun (m : Nat) => xs[((((xs.size : Int) - 1)) + (m : Int) * (-1)).toNat]?) m = ((fun k => xs[k]?) ∘ fun k => xs.size - 1 - k) m := fun m hm => by
    have := List.mem_range.mp hm
    show xs[((((xs.size : Int) - 1)) + (m : Int) * (-1)).toNat]? = xs[xs.size - 1 - m]?
    congr 1
    omega
  rw [filterMap_ext e, ← List.filterMap_map, krv_range, List.filterMap_reverse, krv_all]
section
variable {prog : Program} {w : World} {A : Around} {E : Value → Shared → Prop} {s : Shared}
theorem sliceApplied_rev {sl : Addr} {vl vu vs : Value} {n : Nat} {Q : Int × Int × Nat → Shared → Prop} (hs : s.heap.IsSliceOf sl vl vu vs) (pl : IsPart vl none) (pu : IsPart vu none) (ps : IsPart vs (some (-1)))
    (h : Q ((n : Int) - 1, -1, n) s) : wpAny (model prog w) A (Builtin.Slice.sliceApplied (.ref sl) (pure (n : Int))) Q E s := by
  obtain ⟨os, hos, hcs, hds⟩ := id hs
  unfold Builtin.Slice.sliceApplied Builtin.Slice.sliceFields
  refine wpAny_bind (wpAny_bind (wpAny_field hos hds (x := vl) rfl (wpAny_bind (wpAny_field hos hds (x := vu) rfl (wpAny_bind (wpAny_field hos hds (x := vs) rfl (wpAny_pure ?_)))))))
  refine wpAny_bind (slicePart_ ps ?_)
  show wpAny _ _ (if ((-1 : Int) == 0) = true then _ else _) _ _ s
  rw [if_neg (by decide)]
  refine wpAny_bind (slicePart_ pl (wpAny_bind (slicePart_ pu (wpAny_bind (wpAny_pure ?_)))))
  show wpAny _ _ (pure ((n : Int) - 1, (-1 : Int), Builtin.Slice.slicePlaces ((n : Int) - 1) (-1) (-1))) _ _ s
  have e : Builtin.Slice.slicePlaces ((n : Int) - 1) (-1) (-1) = n := by
    unfold Builtin.Slice.slicePlaces
    rw [if_neg (by decide)]
    by_cases h : (n : Int) - 1 > -1
    · rw [if_pos h]
      have : ((n : Int) - 1 - -1 - 1) / (- -1) + 1 = (n : Int) := by
        rw [show (- -1 : Int) = 1 by decide, Int.ediv_one]; omega
      rw [this]; simp
    · rw [if_neg h]
      omega
  rw [e]
  exact wpAny_pure h
theorem getItem_tuple_rev {t sl : Addr} {items : Array Value} {vl vu vs : Value} {Q : Value → Shared → Prop} (ht : IsTup s.heap t items) (hs : s.heap.IsSliceOf sl vl vu vs) (pl : IsPart vl none) (pu : IsPart vu none) (ps : IsPart vs (some (-1)))
    (h : Q (.ref s.heap.objs.size) { s with heap := s.heap.push { cls := .type "tuple", data := .seq items.toList.reverse.toArray } })
    (hsz : items.size ≤ sizeLine) : wpAny (model prog w) A (getItem (.ref t) (.ref sl)) Q E s := by
  have htake : sizeOk (.seq items.toList.reverse.toArray) := by
    show items.toList.reverse.toArray.size ≤ sizeLine
    rw [List.size_toArray, List.length_reverse, Array.length_toList]
    exact hsz
  obtain ⟨os, hos, hcs, hds⟩ := id hs
  have hTs : s.TypeIs (.ref sl) "slice" := ⟨os, hos, hcs⟩
  unfold getItem
  try with_reducible refine wpAny_holding ?_
  first | refine wpAny_bind (wpAny_pure ?_) | skip
  refine wpAny_bind (wpAny_sequenceKey ht.typeIs (by decide) ?_)
  refine wpAny_bind (wpAny_callSpecial?_slot (name := Str.ofString "__getitem__") ht.typeIs PyProof.Rows.slot_tuple_getitem
    (wpAny_call_entry PyProof.Rows.slot_tuple_getitem ht.typeIs entry_tuple_getitem ?_ (args_tuple_getitem _ _)))
  show wpAny _ _ (Builtin.Tuple.tupleItemsOf (.ref t) >>= _) _ _ s
  refine wpAny_bind (tupleItemsOf_ ht ?_)
  refine wpAny_bind (wpAny_typeOf hTs ?_)
  rw [if_pos (by decide)]
  refine wpAny_bind (sliceApplied_rev hs pl pu ps ?_)
  have hno : ¬ ((((items.size : Int) - 1) == 0 && (-1 : Int) == 1 && items.size == items.size) = true) := by
    intro q
    rw [Bool.and_eq_true, Bool.and_eq_true] at q
    exact absurd q.1.2 (by decide)
  show wpAny _ _ (if (((items.size : Int) - 1) == 0 && (-1 : Int) == 1 && items.size == items.size) = true then _ else _) _ _ s
  rw [if_neg hno, pick_rev]
  first
    | exact wpAny_bind (m := Builtin.Tuple.tupleExact _) (wpAny_newObj_type (wpAny_pure ⟨_, rfl, wpAny_pure h⟩) htake)
    | exact wpAny_bind (m := Builtin.Tuple.tupleExact _) (wpAny_newObj_type (wpAny_bind (wpAny_pure (wpAny_pure ⟨_, rfl, wpAny_pure h⟩))) htake)
    | exact wpAny_bind (wpAny_bind (m := Builtin.Tuple.tupleExact _) (wpAny_newObj_type (wpAny_pure (wpAny_pure ⟨_, rfl, wpAny_pure h⟩)) htake))
    | exact wpAny_bind (wpAny_bind (m := Builtin.Tuple.tupleExact _) (wpAny_newObj_type (wpAny_pure ⟨_, rfl, wpAny_pure h⟩) htake))
end
end HT2
namespace SD
open PySem PySem.Spec PyProof.Rows L2
section
variable {g : Gc} {W : WX} {X : Cx}
def tRevT (K : PySem.W.Frag) (te : TE) : TE := fun σ H Q => te σ H fun x H1 => ∃ a xs, x = .ref a ∧ SqT K H1 a xs ∧ ∀ (p : Addr) (ob : Obj), H1 p = none → ob.dict = none → Q (.ref p) (upd H1 p (.frz ob (.tup xs.reverse)))
theorem pe_revT {e : Expr} {te : TE} {k : Nat} {p1 p2 p3 pos : Pos} (he : PE X e te) : PE X (.Subscript e (.Slice none none (some (.UnaryOp .USub (.Constant (.int 1) k p1) p2)) p3) pos) (tRevT X.K te) := by
  refine ⟨fun pins s σ H Q I h => ?_⟩
  refine Subscript_ (thn (he.run pins s σ H _ I h) fun v s1 ⟨x, H1, I1, r1, q1⟩ => ?_)
  obtain ⟨a, xs, ex, hx, q⟩ := q1
  subst ex
  cases r1
  have hst : PO X (some (.UnaryOp .USub (.Constant (.int 1) k p1) p2)) (tPart (tUn (rU fun i => .int (-i)) (tC (.int 1)))) := po_some (pe_un un_neg pe_int)
  refine wpAny_Slice (thn (po_none.run pins s1 σ H1 (fun o H2 => o = none ∧ H2 = H1) I1 ⟨rfl, rfl⟩) fun vl s2 ⟨l, H2, I2, pl, el, e2⟩ => ?_)
  subst el e2
  refine thn (po_none.run pins s2 σ H2 (fun o H3 => o = none ∧ H3 = H2) I2 ⟨rfl, rfl⟩) fun vu s3 ⟨u, H3, I3, pu, eu, e3⟩ => ?_
  subst eu e3
  refine thn (hst.run pins s3 σ H3 (fun o H4 => o = some (-1) ∧ H4 = H3) I3 ⟨1, rfl, -1, rfl, rfl, rfl⟩) fun vs s4 ⟨o, H4, I4, ps, eo, e4⟩ => ?_
  subst eo e4
  have I5 : Inv X pins σ H4 { s4 with heap := s4.heap.push { cls := .type "slice", data := .fields #[vl, vu, vs] } } := I4.kept (t' := s4.toks) fun b ob q => Heap.get?_push_of_some _ q
  obtain ⟨its, r, ht, hz⟩ := I5.tuple hx
  have hlen := r.length
  show wpAny (model X.prog X.w) X.A (subscriptTail e (.Slice none none (some (.UnaryOp .USub (.Constant (.int 1) k p1) p2)) p3) (.ref a) (.ref s4.heap.objs.size)) (EP X pins σ Q) X.xe { s4 with heap := s4.heap.push { cls := .type "slice", data := .fields #[vl, vu, vs] } }
  refine tail_any (ops := [.ref a, .ref s4.heap.objs.size]) ht.typeIs PyProof.Rows.slot_tuple_getitem.lookup ?_ (by with_unfolding_all rfl)
  refine HT2.getItem_tuple_rev ht (Heap.IsSliceOf.new _ vl vu vs) pl pu ps ?_ (by rw [List.size_toArray]; omega)
  obtain ⟨ob, d, n, J⟩ := Inv.tupF (tk := s4.toks) (s := { s4 with heap := s4.heap.push { cls := .type "slice", data := .fields #[vl, vu, vs] } }) I5 r.reverse (by rw [List.length_reverse]; exact hz)
  exact ⟨.ref _, _, J, rfl, q _ _ n d⟩
/-- x[::-1] -/
def revD (μ : Sto) : DV → Option DV
  | .tup xs => some (.tup xs.reverse)
  | d => match seqOf μ d with
    | some xs => some (.lst xs.reverse)
    | none => none
def eRev (a : DE) : DE := eUn (fun d μ => revD μ d) a
theorem RelL.rev {κ : KA} {H : Hp} : ∀ {xs : List DV} {vs : List V}, RelL g κ H xs vs → RelL g κ H xs.reverse vs.reverse
  | [], _, r => by cases r.of_nil; exact RelL.nil
  | x :: xs, _, r => by
    obtain ⟨v, r', rfl, h1, h2⟩ := r.of_cons
    rw [List.reverse_cons, List.reverse_cons]
    exact (RelL.rev h2).append (RelL.cons h1 RelL.nil)
theorem PE.or {e : Expr} {t u : TE} (h : PE X e t) (h' : PE X e u) : PE X e (fun σ H Q => t σ H Q ∨ u σ H Q) := ⟨fun pins s σ H Q I q => q.elim (h.run pins s σ H Q I) (h'.run pins s σ H Q I)⟩
theorem ge_rev {e : Expr} {fe : DE} {k : Nat} {p1 p2 p3 pos : Pos} (xg : XG g X) (he : GE g W X e fe) : GE g W X (.Subscript e (.Slice none none (some (.UnaryOp .USub (.Constant (.int 1) k p1) p2)) p3) pos) (eRev fe) :=
  PE.imp (PE.or (pe_revT he) (pe_revL he)) fun σ H Q q => by
  obtain ⟨κ, ρ, μ, he, hs, hw⟩ := q
  have hb := wpR.bind (show wpR g W σ κ H ((fe ρ μ).bind fun x μ1 => R.of (revD μ1 x) μ1) _ from hw)
  cases e : fe ρ μ with
  | stuck => rw [e] at hb; exact hb.elim
  | ex c ns xs μ1 =>
    refine .inl ⟨κ, ρ, μ, he, hs, ?_⟩
    rw [e] at hb ⊢
    exact hb
  | ok d μ1 =>
    rw [e] at hb
    by_cases hd : ∃ xs, d = .tup xs
    · obtain ⟨xs, rfl⟩ := hd
      refine .inl ⟨κ, ρ, μ, he, hs, ?_⟩
      rw [e]
      intro κ1 H1 e1 s1 v rv
      obtain ⟨a, vs, rfl, h1, h2⟩ := tup_rel rv
      refine ⟨a, vs, rfl, by rw [xg.K]; exact h1, fun p ob hp hd => ?_⟩
      exact rOut.newT s1 (out_of (hb κ1 H1 e1 s1)) (RelL.rev h2) hp hd
    · have ed : revD μ1 d = match seqOf μ1 d with
        | some xs => some (.lst xs.reverse)
        | none => none := by
        cases d <;> first | rfl | exact absurd ⟨_, rfl⟩ hd
      refine .inr ⟨κ, ρ, μ, he, hs, ?_⟩
      rw [e]
      intro κ1 H1 e1 s1 v rv
      have h3 := out_of (hb κ1 H1 e1 s1)
      rw [ed] at h3
      cases es : seqOf μ1 d with
      | none => rw [es] at h3; exact h3.elim
      | some xs =>
        rw [es] at h3
        obtain ⟨a, vs, rfl, h1, h2⟩ := seqOf_rel s1 rv es
        refine ⟨a, vs, rfl, by rw [xg.K]; exact h1, fun p hp => ?_⟩
        exact rOut.newL s1 h3 (RelL.rev h2) hp
end
end SD
namespace SD
open PySem PySem.Spec PyProof.Rows L2
/-- the end of a law: as walk_ofE, what is let out hangs on the world -/
theorem walk_W {l : PySem.W.OpenLaw} {n k : Nat} {q : Program} {loose : List Str} {XP : (Str → Option Value) → Heap → Prop} {YP : World → Heap → Prop} {d : DefRec} {CX : World → CXT} {x : Str}
    (hn : l.most = some n) (hn2 : n ≤ sizeLine) (hdf : d.params.defaults = []) (hr : Room k callerA)
    (F : ∀ (w : World) (mg : Str → Option Value) (fa : Addr) (h : Heap), YP w h → h.Ns mainGlobals mg → mg d.name = some (.ref fa) →
      ∃ (K : PySem.W.Frag) (fd : FuncData) (sp : Sp), K.In h ∧ (∀ (s : Shared) (u : Value), BindsTo s fd ⟨[u], []⟩ [(x, u)]) ∧
        (∀ (H : Hp) (a : Addr) (ns : List Int), ns.length ≤ n → Only H → SqL K H a (ns.map V.int) → sp [.ref a] H (fun v _ => v = .bl true) fun _ _ _ => False) ∧
        ∀ base : Heap, K.In base → base.Ns mainGlobals mg → FnOk l.prog w K mg base (CX w) k fa fd [x] sp)
    (hCX : ∀ (w : World) (H : Hp) (s : Shared) (e : Value) (s' : Shared), CX w [] H s (fun _ _ _ => False) e s' → False) :
    PySem.W.WalkO q loose XP YP l.row.toRowW d [] (fun f vs => PySem.call f vs) := by
  refine Att.attach_call hn hdf fun w s₀ s₁ mg mb fa o pm cd doc a vs ns G Y ho hd hcd hmg hobj hints hlen hg => ?_
  obtain ⟨K, fd, sp, KX, hb, hsp, hF⟩ := F w mg fa _ Y G.T.g hmg
  exact law_call KX G.T.g G.T.b G.T.builtins G.T.nolimit hg hobj hints (Nat.le_trans hlen hn2) hr hF hb (fun H hO hS => hsp H a ns hlen hO hS) fun H e s' => hCX w H s₁ e s'
theorem noCX {P : Program} {w : World} {H : Hp} {s : Shared} {e : Value} {s' : Shared} (z : L2.CX P w [] H s (fun _ _ _ => False) e s') : False := by
  obtain ⟨_, _, _, _, _, _, _, _, _, _, _, _, z⟩ := z
  exact z
end SD

set_option Elab.async false
set_option linter.all false
set_option maxRecDepth 100000
set_option maxHeartbeats 4000000
/-! SD: min, max, sorted of whole numbers; lists unpacked. -/
namespace SD
open PySem PySem.Spec PyProof.Rows L2
section
variable {g : Gc} {X : Cx}
def minI : List Int → Int
  | [] => 0
  | [a] => a
  | a :: b :: r => if a ≤ minI (b :: r) then a else minI (b :: r)
def maxI : List Int → Int
  | [] => 0
  | [a] => a
  | a :: b :: r => if maxI (b :: r) ≤ a then a else maxI (b :: r)
theorem minI_mem : ∀ {l : List Int}, 0 < l.length → minI l ∈ l
  | [a], _ => by simp [minI]
  | a :: b :: r, _ => by
    have := minI_mem (l := b :: r) (by simp)
    unfold minI
    split
    · exact List.mem_cons_self
    · exact List.mem_cons_of_mem _ this
theorem minI_le : ∀ {l : List Int} {y : Int}, y ∈ l → minI l ≤ y
  | [a], y, h => by simp at h; simp [minI, h]
  | a :: b :: r, y, h => by
    unfold minI
    rcases List.mem_cons.mp h with rfl | h
    · split <;> omega
    · have := minI_le h
      split <;> omega
theorem maxI_mem : ∀ {l : List Int}, 0 < l.length → maxI l ∈ l
  | [a], _ => by simp [maxI]
  | a :: b :: r, _ => by
    have := maxI_mem (l := b :: r) (by simp)
    unfold maxI
    split
    · exact List.mem_cons_self
    · exact List.mem_cons_of_mem _ this
theorem maxI_ge : ∀ {l : List Int} {y : Int}, y ∈ l → y ≤ maxI l
  | [a], y, h => by simp at h; simp [maxI, h]
  | a :: b :: r, y, h => by
    unfold maxI
    rcases List.mem_cons.mp h with rfl | h
    · split <;> omega
    · have := maxI_ge h
      split <;> omega
/-- small lists, so insertion is enough -/
def insI (a : Int) : List Int → List Int
  | [] => [a]
  | b :: r => if a ≤ b then a :: b :: r else b :: insI a r
def sortI : List Int → List Int
  | [] => []
  | a :: r => insI a (sortI r)
theorem insI_perm (a : Int) : ∀ l : List Int, (insI a l).Perm (a :: l)
  | [] => .refl _
  | b :: r => by
    unfold insI
    split
    · exact .refl _
    · exact ((insI_perm a r).cons b).trans (.swap a b r)
theorem sortI_perm : ∀ l : List Int, (sortI l).Perm l
  | [] => .refl _
  | a :: r => (insI_perm a _).trans ((sortI_perm r).cons a)
theorem insI_sorted (a : Int) : ∀ {l : List Int}, l.Pairwise (· ≤ ·) → (insI a l).Pairwise (· ≤ ·)
  | [], _ => by simp [insI]
  | b :: r, h => by
    have hb := List.pairwise_cons.mp h
    unfold insI
    split
    · rename_i hab
      refine List.pairwise_cons.mpr ⟨fun y hy => ?_, h⟩
      rcases List.mem_cons.mp hy with rfl | hy
      · exact hab
      · exact Int.le_trans hab (hb.1 y hy)
    · rename_i hab
      refine List.pairwise_cons.mpr ⟨fun y hy => ?_, insI_sorted a hb.2⟩
      rcases List.mem_cons.mp ((insI_perm a r).mem_iff.mp hy) with rfl | hy
      · omega
      · exact hb.1 y hy
theorem sortI_sorted : ∀ l : List Int, (sortI l).Pairwise (· ≤ ·)
  | [] => .nil
  | a :: r => insI_sorted a (sortI_sorted r)
theorem sorted_eq : ∀ {l m : List Int}, l.Perm m → l.Pairwise (· ≤ ·) → m.Pairwise (· ≤ ·) → l = m
  | [], m, h, _, _ => (h.symm.eq_nil).symm
  | a :: l, [], h, _, _ => nomatch h.eq_nil
  | a :: l, b :: m, h, h1, h2 => by
    obtain ⟨p1, p2⟩ := List.pairwise_cons.mp h1
    obtain ⟨q1, q2⟩ := List.pairwise_cons.mp h2
    have e : a = b := by
      have i1 : a ≤ b := by
        rcases List.mem_cons.mp (h.mem_iff.mpr (List.mem_cons_self (a := b) (l := m))) with e | e
        · omega
        · exact p1 b e
      have i2 : b ≤ a := by
        rcases List.mem_cons.mp (h.mem_iff.mp (List.mem_cons_self (a := a) (l := l))) with e | e
        · omega
        · exact q1 a e
      omega
    subst e
    rw [sorted_eq h.cons_inv p2 q2]
def vMin : VN := fun ds μ => match ds with
  | [.int i, .int j] => some (.int (if j < i then j else i))
  | [d] => match seqOf μ d with
    | some xs => (asIs xs).bind fun ns => if 0 < ns.length then some (.int (minI ns)) else none
    | none => none
  | _ => none
def vMax : VN := fun ds μ => match ds with
  | [.int i, .int j] => some (.int (if j > i then j else i))
  | [d] => match seqOf μ d with
    | some xs => (asIs xs).bind fun ns => if 0 < ns.length then some (.int (maxI ns)) else none
    | none => none
  | _ => none
theorem cMin (xg : XG g X) (hc : X.calm = true) : CallR X (.builtin "min") (rN g vMin) := by
  intro pins s σ H xs us Q I rx h
  obtain ⟨κ, ds, μ, rd, so, ho⟩ := h
  unfold vMin at ho
  split at ho
  · obtain ⟨v, w, rfl, r1, r2⟩ := relL2 rd
    simp only [Rel] at r1 r2
    subst r1 r2
    exact call_min2 hc pins s σ H _ us Q I rx ⟨_, _, rfl, rOut.flat so ho (by simp [Rel])⟩
  · obtain ⟨v, rfl, r1⟩ := relL1 rd
    split at ho
    · rename_i ys hy
      obtain ⟨a, vs, rfl, h1, h2⟩ := seqOf_rel so r1 hy
      cases hb : asIs ys with
      | none => rw [hb] at ho; exact ho.elim
      | some bs =>
        rw [hb] at ho
        have e := asIs_rel h2 hb
        subst e
        simp only [Option.bind_some] at ho
        split at ho
        · rename_i hn
          refine cr_min hc pins s σ H _ us Q I rx ⟨a, bs, rfl, by rw [xg.K]; exact h1, hn, fun m hm hle => ?_⟩
          have : m = minI bs := Int.le_antisymm (hle _ (minI_mem hn)) (minI_le hm)
          subst this
          exact rOut.flat so ho (by simp [Rel])
        · exact ho.elim
    · exact ho.elim
  · exact ho.elim
theorem cMax (xg : XG g X) (hc : X.calm = true) : CallR X (.builtin "max") (rN g vMax) := by
  intro pins s σ H xs us Q I rx h
  obtain ⟨κ, ds, μ, rd, so, ho⟩ := h
  unfold vMax at ho
  split at ho
  · obtain ⟨v, w, rfl, r1, r2⟩ := relL2 rd
    simp only [Rel] at r1 r2
    subst r1 r2
    exact call_max2 hc pins s σ H _ us Q I rx ⟨_, _, rfl, rOut.flat so ho (by simp [Rel])⟩
  · obtain ⟨v, rfl, r1⟩ := relL1 rd
    split at ho
    · rename_i ys hy
      obtain ⟨a, vs, rfl, h1, h2⟩ := seqOf_rel so r1 hy
      cases hb : asIs ys with
      | none => rw [hb] at ho; exact ho.elim
      | some bs =>
        rw [hb] at ho
        have e := asIs_rel h2 hb
        subst e
        simp only [Option.bind_some] at ho
        split at ho
        · rename_i hn
          refine cr_max hc pins s σ H _ us Q I rx ⟨a, bs, rfl, by rw [xg.K]; exact h1, hn, fun m hm hle => ?_⟩
          have : m = maxI bs := Int.le_antisymm (maxI_ge hm) (hle _ (maxI_mem hn))
          subst this
          exact rOut.flat so ho (by simp [Rel])
        · exact ho.elim
    · exact ho.elim
  · exact ho.elim
def vSorted : VN := fun ds μ => match ds with
  | [d] => match seqOf μ d with
    | some xs => (asIs xs).map fun ns => .lst ((sortI ns).map .int)
    | none => none
  | _ => none
theorem cSorted (xg : XG g X) : CallR X (.builtin "sorted") (rN g vSorted) := by
  intro pins s σ H xs us Q I rx h
  obtain ⟨κ, ds, μ, rd, so, ho⟩ := h
  unfold vSorted at ho
  split at ho
  · obtain ⟨v, rfl, r1⟩ := relL1 rd
    split at ho
    · rename_i ys hy
      obtain ⟨a, vs, rfl, h1, h2⟩ := seqOf_rel so r1 hy
      cases hb : asIs ys with
      | none => rw [hb] at ho; exact ho.elim
      | some bs =>
        rw [hb] at ho
        have e := asIs_rel h2 hb
        subst e
        refine cr_sortedI pins s σ H _ us Q I rx ⟨a, bs, rfl, by rw [xg.K]; exact h1, fun ns' p hp hs hn => ?_⟩
        have : ns' = sortI bs := sorted_eq (hp.trans (sortI_perm bs).symm) hs (sortI_sorted bs)
        subst this
        exact rOut.newL so ho (RelL.ints _) hn
    · exact ho.elim
  · exact ho.elim
/-- a, b = [..] -/
def gUnl' (f : DGs) (n : Nat) : DG := fun d ρ μ => match seqOf μ d with
  | some xs => if xs.length = n then f xs ρ μ else none
  | none => none
theorem gg_unl {es : List Expr} {k : Nat} {t : DGs} {n : Nat} {sl : List Nat} {pos : Pos} (xg : XG g X) (hc : X.calm = true) (h : GGs g X es sl t)
    (hn : (assignEach es X.env).length = n := by rfl) (hst : (assignEach es X.env).findIdx? (·.1) = none := by rfl) : GG g X (.Tuple es k pos) sl (gUnl' t n) := PG.imp (pg_unl hc h hn hst) fun v σ H Q q => by
  obtain ⟨κ, d, ρ, μ, r, he, hs, hw⟩ := q
  unfold gUnl' at hw
  cases hd : seqOf μ d with
  | none => rw [hd] at hw; exact hw.elim
  | some xs =>
    rw [hd] at hw
    obtain ⟨a, vs, rfl, h1, h2⟩ := seqOf_rel hs r hd
    simp only at hw
    by_cases hl : xs.length = n
    · rw [if_pos hl] at hw
      exact ⟨a, vs, rfl, by rw [xg.K]; exact h1, by rw [← h2.length]; exact hl, κ, xs, ρ, μ, h2, he, hs, hw⟩
    · rw [if_neg hl] at hw; exact hw.elim
/-- x, y, z = a, b, c -/
def sPar3 (i j l : Nat) (r : DA) : DS := fun ρ μ => (r ρ μ).toS ρ fun ds μ1 => match ds with
  | [d, e, f] => .nx (((ρ.set i (some d)).set j (some e)).set l (some f)) μ1
  | _ => .stuck
theorem gs_par3 {W : WX} {fr : DA} {pos : Pos} {i j l : Nat} {x y z : Str} {a b c : Expr} {px py pz pt : Pos} {kt k2 pt2} (hc : X.calm = true) (hN : X.N.Nodup) (hi : X.N[i]? = some x) (hj : X.N[j]? = some y) (hl : X.N[l]? = some z) (hij : i ≠ j) (hil : i ≠ l) (hjl : j ≠ l)
    (hx : X.env.scope.names.lookup x = some .local) (hy : X.env.scope.names.lookup y = some .local) (hz : X.env.scope.names.lookup z = some .local) (ha : GA g W X [a, b, c] fr)
    (hw : swappedStores [.Tuple [.Name x px, .Name y py, .Name z pz] kt pt] (.Tuple [a, b, c] k2 pt2) X.env = pure (some [x, y, z]) := by rfl)
    (hs : swapsWithSole [.Tuple [.Name x px, .Name y py, .Name z pz] kt pt] (.Tuple [a, b, c] k2 pt2) pos.line X.env = pure false := by rfl) :
    GS g W X (.Assign [.Tuple [.Name x px, .Name y py, .Name z pz] kt pt] (.Tuple [a, b, c] k2 pt2) pos) (sPar3 i j l fr) := PS.imp (ps_par3 hc hN hi hj hl hij hil hjl hx hy hz ha hw hs) fun D σ H q => by
  obtain ⟨κ, ρ, μ, he, hs, hw⟩ := q
  refine ⟨κ, ρ, μ, he, hs, (wpS.bind he hw).mono fun ds μ1 κ1 H1 e1 s1 h1 vs rv => ?_⟩
  match ds, rv, h1 with
  | [d, e, f], rv, h1 =>
    obtain ⟨v, r1, rfl, q1, q2⟩ := rv.of_cons
    obtain ⟨w, r2, rfl, q3, q4⟩ := q2.of_cons
    obtain ⟨u, r3, rfl, q5, q6⟩ := q4.of_cons
    cases q6.of_nil
    exact ⟨v, w, u, rfl, h1 κ1 H1 _ Ext.refl s1 ((((he.ext e1).set q1).set q3).set q5)⟩
  | [], _, h1 => exact h1.elim
  | [_], _, h1 => exact h1.elim
  | [_, _], _, h1 => exact h1.elim
  | _ :: _ :: _ :: _ :: _, _, h1 => exact h1.elim
end
end SD

set_option Elab.async false
set_option linter.all false
set_option maxRecDepth 100000
set_option maxHeartbeats 4000000
/-! SD: p, q, *others = a tuple. -/
namespace L2
open PySem PySem.Spec PyProof.Rows
/-- the last target takes what is left, as a new list -/
theorem rest_items {prog : Program} {w : World} {A : Around} {E : Value → Shared → Prop} {s : Shared} {a : Addr} {xs : Array Value} {k : Nat} {Q : List Value → Shared → Prop} (ht : IsTup s.heap a xs) (hd : A.handled = none) (hk : k ≤ xs.size) (hz : xs.size ≤ sizeLine)
    (h : ∀ (G : Heap) (tk : Nat), (∀ b o, s.heap.get? b = some o → G.get? b = some o) → Q (xs.toList.take k ++ [.ref G.objs.size]) { s with heap := G.push { cls := .type "list", data := .seq (xs.toList.drop k).toArray }, toks := tk }) :
    wpAny (model prog w) A (unpackItems (.ref a) (k + 1) (some k)) Q E s := by
  have ne : a ≠ s.heap.objs.size := by
    obtain ⟨o, e, _⟩ := ht
    exact Nat.ne_of_lt (Heap.lt_size e)
  unfold unpackItems notIterableAtAll
  refine wpAny_bind (wpAny_bind (wpAny_specialOf ht.typeIs slot_tuple_iter.lookup (wpAny_pure ?_)))
  rw [if_neg (by decide)]
  refine wpAny_bind (wpAny_holding (iter_tuple ht (wpAny_bind (wpAny_holding ?_))))
  refine draw_tuple ne k 0 _ _ ⟨_, Heap.get?_push_size _ rfl, rfl, rfl⟩ ((ht.push _)) (by omega) fun g it st => ?_
  have tg : IsTup g a xs := (ht.push _).extBut st.extBut ne
  rw [Nat.zero_add] at it
  have it2 := it
  obtain ⟨o1, e1, _⟩ := it2
  have tg2 := tg
  obtain ⟨o2, e2, _⟩ := tg2
  have fl : (xs.toList.take k).length = k := by rw [List.length_take, Array.length_toList]; omega
  rw [List.drop_zero, if_neg (show ¬ (xs.toList.take k).length < k by omega)]
  refine wpAny_bind (wpAny_holding (PySem.W.kun_collect (s := { s with heap := g }) (T := "tuple_iterator") (.inr (.inr (.inr rfl))) (Walks.tuple (A := A.in1) hd s.heap.objs.size a ne xs) (fun _ _ z => z.1.typeIs) hk ⟨it, tg⟩ (Heap.lt_size e1) (Heap.lt_size e2) (fun g2 tk kp => ?_) hz))
  have z0 : k + 1 - 1 - k = 0 := by omega
  show wpAny _ _ (if (xs.toList.drop k).length < k + 1 - 1 - k then _ else _) _ _ _
  rw [z0, if_neg (by omega)]
  show wpAny _ _ (newList ((xs.toList.drop k).take ((xs.toList.drop k).length - 0)) >>= fun d => pure (xs.toList.take k ++ [d] ++ (xs.toList.drop k).drop ((xs.toList.drop k).length - 0))) _ _ _
  rw [Nat.sub_zero, List.take_length, List.drop_length]
  refine wpAny_bind (wpAny_newList (wpAny_pure ?_) (by rw [List.length_drop, Array.length_toList]; omega))
  rw [List.append_nil]
  exact h g2 tk fun b o e => kp b o (Nat.ne_of_lt (Heap.lt_size e)) (st.extBut b o (Nat.ne_of_lt (Heap.lt_size e)) (Heap.get?_push_of_some _ e))
/-- (a, b, .., *r) = a tuple -/
def gRst (K : PySem.W.Frag) (k : Nat) (t : TGs) : TG := fun v σ H Q => ∃ a xs, v = .ref a ∧ SqT K H a xs ∧ k ≤ xs.length ∧ ∀ p, H p = none → t (xs.take k ++ [.ref p]) σ (upd H p (.lst (xs.drop k))) Q
theorem pg_rst {X : Cx} {es : List Expr} {k m : Nat} {pos : Pos} {t : TGs} (hc : X.calm = true) (h : PGs X es t)
    (hn : (assignEach es X.env).length = k + 1 := by rfl) (hst : (assignEach es X.env).findIdx? (·.1) = some k := by rfl) : PG X (.Tuple es m pos) (gRst X.K k t) := by
  refine ⟨fun pins s σ H v u Q I r hw => ?_⟩
  obtain ⟨a, xs, e1, hq, hl, hw⟩ := hw
  subst e1
  cases r
  obtain ⟨its, rv, ht, hz⟩ := I.tuple hq
  rw [PyProof.Rows.assign_Tuple]
  refine wpAny_bind (wpAny_standAt ?_)
  unfold unpack
  rw [hn, hst]
  have hlen := rv.length
  refine wpAny_bind (wpAny_holding (rest_items ht (I.ok.hd hc) (by simp; omega) (by simp; omega) fun G tk kp => ?_))
  have no : s.heap.get? G.objs.size = none := by
    cases q : s.heap.get? G.objs.size with
    | none => rfl
    | some o => exact absurd (Heap.lt_size (kp _ o q)) (Nat.lt_irrefl _)
  have hN : H G.objs.size = none := I.hok.gone no
  have kp2 : ∀ b o, s.heap.get? b = some o → (G.push { cls := .type "list", data := .seq (its.toArray.toList.drop k).toArray }).get? b = some o := fun b o e => Heap.get?_push_of_some _ (kp b o e)
  have rd : Vals (xs.drop k) (its.toArray.toList.drop k) := by
    have := rv.drop k
    simpa using this
  have J := I.laidN (t' := tk) (a := G.objs.size) (o := .lst (xs.drop k)) kp2 no hN (show ObjOk X.prog X.w _ _ _ (.lst (xs.drop k)) from ⟨by rw [List.length_drop]; omega, its.toArray.toList.drop k, _, rd, Heap.get?_push_size _ rfl⟩)
  have rt : Vals (xs.take k ++ [V.ref G.objs.size]) (its.toArray.toList.take k ++ [Value.ref G.objs.size]) := by
    have := rv.take k
    exact Vals.append (by simpa using this) (.cons rfl .nil)
  exact h.run pins _ σ _ _ _ Q J rt (hw _ hN)
end L2
namespace SD
open PySem PySem.Spec PyProof.Rows L2
section
variable {g : Gc} {W : WX} {X : Cx} {e : Expr} {fa : DE} {pos : Pos}
def gRst' (f : DGs) (k : Nat) : DG := fun d ρ μ => match asT d with
  | some xs => if k ≤ xs.length then f (xs.take k ++ [.lst (xs.drop k)]) ρ μ else none
  | none => none
theorem gs_rst {es : List Expr} {m k : Nat} {p : Pos} {t : DGs} {sl : List Nat} (xg : XG g X) (hc : X.calm = true) (he : GE g W X e fa) (hg : GGs g X es sl t)
    (hs : swapsWithSole [.Tuple es m p] e pos.line X.env = pure false := by rfl) (hw : swappedStores [.Tuple es m p] e X.env = pure none := by rfl)
    (h1 : (assignEach [.Tuple es m p] X.env).map (·.2) = [assign (.Tuple es m p) X.env] := by rfl)
    (hn : (assignEach es X.env).length = k + 1 := by rfl) (hst : (assignEach es X.env).findIdx? (·.1) = some k := by rfl) :
    GS g W X (.Assign [.Tuple es m p] e pos) (sAsg fa (gRst' t k)) := PS.imp (ps_asg he (pg_rst hc hg hn hst) hs hw h1) fun D σ H q => by
  obtain ⟨κ, ρ, μ, hE, hS, hw⟩ := q
  refine ⟨κ, ρ, μ, hE, hS, (wpS.bind hE hw).mono fun d μ1 κ1 H1 e1 s1 h1 v rv => ?_⟩
  cases d with
  | tup xs =>
    obtain ⟨a, vs, rfl, q1, q2⟩ := tup_rel rv
    simp only [gRst', asT] at h1
    by_cases hl : k ≤ xs.length
    · rw [if_pos hl] at h1
      refine ⟨a, vs, rfl, by rw [xg.K]; exact q1, by rw [← q2.length]; exact hl, fun p hp => ?_⟩
      refine ⟨κ1, xs.take k ++ [.lst (xs.drop k)], ρ, μ1, ?_, (hE.ext e1).ext (Ext.new s1 hp), s1.new hp, ?_⟩
      · exact ((RelL.take k q2).ext (Ext.new s1 hp)).append (RelL.cons (rel_lst s1 hp (RelL.drop k q2)) RelL.nil)
      · cases et : t (xs.take k ++ [.lst (xs.drop k)]) ρ μ1 with
        | none => rw [et] at h1; exact h1.elim
        | some ρ' => rw [et] at h1; exact fun σ' hE' _ _ => h1 κ1 _ σ' (Ext.new s1 hp) (s1.new hp) hE'
    · rw [if_neg hl] at h1; exact h1.elim
  | _ => exact h1.elim
theorem ggs_star {t : Expr} {p : Pos} {sl : List Nat} {f : DGs} (h : GGs g X [t] sl f) (hs : (assignEach [.Starred t p] X.env).map (·.2) = (assignEach [t] X.env).map (·.2) := by rfl) : GGs g X [.Starred t p] sl f :=
  ⟨fun pins s σ H vs us Q I r q => by rw [hs]; exact h.run pins s σ H vs us Q I r q⟩
end
end SD

set_option Elab.async false
set_option linter.all false
set_option maxRecDepth 100000
set_option maxHeartbeats 4000000
/-! SD: the least of objects: the loop of min over what is compared by looking at the heap. -/
namespace PySem
section
variable {prog : Program} {w : World} {A : Around} {R : Result → Shared → Prop} {it : Addr} {fp wr : List Addr} {n : Nat} {P : Nat → Value → Prop} {St : Nat → Heap → Prop} {S : Addr}
/-- all but the walk's own and the keeper stay -/
def Stay (wr : List Addr) (S : Addr) (h h' : Heap) : Prop := ∀ b o, b ∉ wr → b ≠ S → h.get? b = some o → h'.get? b = some o
theorem Stay.trans {h h1 h2 : Heap} (a : Stay wr S h h1) (b : Stay wr S h1 h2) : Stay wr S h h2 := fun c o x y e => b c o x y (a c o x y e)
theorem least_loop (V : Walks prog w A.in1 it fp wr n P St) (lt : Nat → Nat → Bool) (h0 : Heap)
    (cmp : ∀ (i j : Nat) (x y : Value) (s : Shared) (Q E : Value → Shared → Prop), Stay wr S h0 s.heap → P i x → P j y → Q (.bool (lt i j)) s → wpAny (model prog w) A.in1 (richCompare .Lt x y) Q E s) (nf : S ∉ fp) :
    ∀ (k j : Nat) (s : Shared) (best : Value) (c : Nat), n - (j + 1) = k → j + 1 ≤ n → Stay wr S h0 s.heap → St (j + 1) s.heap → P (argBest lt j) best → s.heap.get? S = some { cls := .type "list", dict := none, data := .seq #[best, best] c, slots := #[] } →
      (∀ v g tk, P (argBest lt (n - 1)) v → Stay wr S s.heap g → R (.ok (.ret v)) { s with heap := g, toks := tk }) → codeAny (model prog w) A (.builtin "min.loop" ⟨[.ref it, .none, .ref S], []⟩) R s := by
  have nw : S ∉ wr := fun h => nf (V.sub _ h)
  have nm : (toString "min" ++ toString ".loop" : String) = "min.loop" := by decide
  intro k
  induction k with
  | zero =>
    intro j s best c hk hj stay st pb kS fin
    have e0 : j + 1 = n := by omega
    refine codeAny_builtin F.entry_min_loop (?_ : _); rw [Around.under_plainId F.plain_min_loop _]
    show wpAny _ A.in1 (seqItems? (.ref S) >>= _) (_) _ s
    refine wpAny_bind (wpAny_seqItems kS rfl (?_ : _)); show wpAny _ A.in1 (tryCatch (pyNext (.ref it)) _ >>= _) _ _ s
    refine wpAny_bind (wpAny_tryCatch (V.done s _ _ (e0 ▸ st) fun g tk kg => ?_))
    have kS2 := kg S _ nw kS
    show wpAny _ A.in1 (updateSeq S (fun _ => #[]) >>= _) (_) _ _
    refine wpAny_bind (wpAny_updateSeq kS2 rfl (wpAny_bind (wpAny_letGo (wpAny_pure ?_))))
    exact fin best _ tk (by rw [← e0]; exact pb) fun b o x y e => (Heap.get?_update_other _ _ (Ne.symm y)).trans (kg b o x e)
  | succ k ih =>
    intro j s best c hk hj stay st pb kS fin
    have hlt : j + 1 < n := by omega
    refine codeAny_builtin F.entry_min_loop (?_ : _); rw [Around.under_plainId F.plain_min_loop _]
    show wpAny _ A.in1 (seqItems? (.ref S) >>= _) (_) _ s
    refine wpAny_bind (wpAny_seqItems kS rfl (?_ : _)); show wpAny _ A.in1 (tryCatch (pyNext (.ref it)) _ >>= _) _ _ s
    refine wpAny_bind (wpAny_tryCatch (V.item (j + 1) s _ _ hlt st fun x g tk px st2 kg => ?_))
    have kS2 := kg S _ nw kS
    have stay2 : Stay wr S h0 g := stay.trans fun b o q1 q2 e => kg b o q1 e
    show wpAny _ A.in1 (tryCatch (holding [x, x] (richCompare .Lt x best >>= _)) _ >>= _) (_) _ _
    refine wpAny_bind (wpAny_tryCatch (wpAny_holding (wpAny_bind (cmp (j + 1) (argBest lt j) x best { s with heap := g, toks := tk } _ _ stay2 px pb ?_))))
    refine wpAny_bind (wpAny_holding (wpAny_truthy_bool (wpAny_bind (wpAny_letGo (wpAny_pure ?_)))))
    cases hb : lt (j + 1) (argBest lt j) with
    | true =>
      rw [if_pos rfl]
      refine wpAny_bind (wpAny_updateSeq kS2 rfl (wpAny_bind (wpAny_letGo ?_)))
      rw [nm]
      have up : Stay wr S g (g.update S (Obj.mapSeq fun _ => #[x, x])) := fun b o q1 q2 e => (Heap.get?_update_other _ _ (Ne.symm q2)).trans e
      refine wpAny_pure ⟨plainId_quiet F.plain_min_loop _, ih (j + 1) _ x _ (by omega) hlt (stay2.trans up) (V.frame _ _ _ st2 fun b q o e => ?_) (by simp only [argBest, hb, if_true]; exact px) (Heap.get?_update_self _ kS2 rfl) fun v g2 tk2 pv s2 => ?_⟩
      · exact (Heap.get?_update_other _ _ (fun q2 : S = b => nf (by rw [q2]; exact q))).trans e
      · exact fin v g2 tk2 pv ((Stay.trans (fun b o q1 _ e => kg b o q1 e) up).trans s2)
    | false =>
      rw [if_neg (by decide)]
      refine wpAny_bind (wpAny_letGo (?_ : _))
      rw [nm]
      refine wpAny_pure ⟨plainId_quiet F.plain_min_loop _, ih (j + 1) { s with heap := g, toks := tk } best c (by omega) hlt stay2 st2 (by simp only [argBest, hb, Bool.false_eq_true, if_false]; exact pb) kS2 fun v g2 tk2 pv s2 => ?_⟩
      exact fin v g2 tk2 pv (Stay.trans (fun b o q1 _ e => kg b o q1 e) s2)
theorem least_first (V : Walks prog w A.in1 it fp wr n P St) (lt : Nat → Nat → Bool) {s : Shared} {c : Nat}
    (cmp : ∀ (i j : Nat) (x y : Value) (s' : Shared) (Q E : Value → Shared → Prop), Stay wr S s.heap s'.heap → P i x → P j y → Q (.bool (lt i j)) s' → wpAny (model prog w) A.in1 (richCompare .Lt x y) Q E s') (nf : S ∉ fp) (hn : 0 < n)
    (st : St 0 s.heap) (kS : s.heap.get? S = some { cls := .type "list", dict := none, data := .seq #[] c, slots := #[] })
    (fin : ∀ v g tk, P (argBest lt (n - 1)) v → Stay wr S s.heap g → R (.ok (.ret v)) { s with heap := g, toks := tk }) : codeAny (model prog w) A (.builtin "min.loop" ⟨[.ref it, .none, .ref S], []⟩) R s := by
  have nw : S ∉ wr := fun h => nf (V.sub _ h)
  have nm : (toString "min" ++ toString ".loop" : String) = "min.loop" := by decide
  refine codeAny_builtin F.entry_min_loop (?_ : _); rw [Around.under_plainId F.plain_min_loop _]
  show wpAny _ A.in1 (seqItems? (.ref S) >>= _) (_) _ s
  refine wpAny_bind (wpAny_seqItems kS rfl (?_ : _)); show wpAny _ A.in1 (tryCatch (pyNext (.ref it)) _ >>= _) _ _ s
  refine wpAny_bind (wpAny_tryCatch (V.item 0 s _ _ hn st fun x g tk px st2 kg => ?_))
  have kS2 := kg S _ nw kS
  show wpAny _ A.in1 (updateSeq S (fun _ => #[x, x]) >>= _) (_) _ _
  refine wpAny_bind (wpAny_updateSeq kS2 rfl ?_)
  rw [nm]
  have s1 : Stay wr S s.heap g := fun b o q1 _ e => kg b o q1 e
  have up : Stay wr S g (g.update S (Obj.mapSeq fun _ => #[x, x])) := fun b o q1 q2 e => (Heap.get?_update_other _ _ (Ne.symm q2)).trans e
  refine wpAny_pure ⟨plainId_quiet F.plain_min_loop _, least_loop V lt s.heap cmp nf _ 0 _ x _ rfl hn (s1.trans up) (V.frame _ _ _ st2 fun b q o e => ?_) px (Heap.get?_update_self _ kS2 rfl) fun v g2 tk2 pv s2 => ?_⟩
  · exact (Heap.get?_update_other _ _ (fun q2 : S = b => nf (by rw [q2]; exact q))).trans e
  · exact fin v g2 tk2 pv ((s1.trans up).trans s2)
end
section
open PyProof.Rows
variable {prog : Program} {w : World} {A : Around} {E : Value → Shared → Prop} {s : Shared}
/-- min(t), t a tuple of objects -/
theorem least_tup {a : Addr} {xs : Array Value} {lt : Nat → Nat → Bool} {Q : Value → Shared → Prop} (ht : IsTup s.heap a xs) (hd : A.handled = none) (hn : 0 < xs.size)
    (cmp : ∀ (i j : Nat) (x y : Value) (s' : Shared) (Q E : Value → Shared → Prop), (∀ b o, s.heap.get? b = some o → s'.heap.get? b = some o) → xs[i]? = some x → xs[j]? = some y → Q (.bool (lt i j)) s' → wpAny (model prog w) A.in1 (richCompare .Lt x y) Q E s')
    (fin : ∀ v g tk, xs[argBest lt (xs.size - 1)]? = some v → (∀ b o, s.heap.get? b = some o → g.get? b = some o) → Q v { s with heap := g, toks := tk }) : wpAny (model prog w) A (call (.builtin "min") [.ref a]) Q E s := by
  have ne : a ≠ s.heap.objs.size := by
    obtain ⟨o, e, _⟩ := ht
    exact Nat.ne_of_lt (Heap.lt_size e)
  have al : a < s.heap.objs.size := by
    obtain ⟨o, e, _⟩ := ht
    exact Heap.lt_size e
  have nm : (toString "min" ++ toString ".loop" : String) = "min.loop" := by decide
  refine call_function_tree F.kind_min F.plain_min F.entry_min (F.args_min1 _) (?_ : _)
  show wpAny _ A.in1 (Builtin.Builtins.bindParams "min" ["key", "default"] 0 ⟨[], []⟩ >>= _) (_) _ s
  refine wpAny_bind (wpAny_of_eq (show Builtin.Builtins.bindParams "min" ["key", "default"] 0 ⟨[], []⟩ = pure [none, none] from rfl) (wpAny_bind (wpAny_pure ?_)))
  refine wpAny_bind (iter_tuple ht (wpAny_bind (wpAny_newObj_type ?_)))
  rw [nm]
  have old : ∀ {g : Heap}, Stay [s.heap.objs.size] ((s.heap.push { cls := .type "tuple_iterator", data := .fields #[.ref a, .int 0 0] }).objs.size) ((s.heap.push { cls := .type "tuple_iterator", data := .fields #[.ref a, .int 0 0] }).push { cls := .type "list", data := .seq #[] }) g → ∀ b o, s.heap.get? b = some o → g.get? b = some o := fun st b o e => by
    have hb := Heap.lt_size e
    refine st b o (fun m => Nat.ne_of_lt hb (List.mem_singleton.mp m)) (fun m => Nat.ne_of_lt (Nat.lt_succ_of_lt hb) (by rw [Heap.size_push] at m; exact m)) (Heap.get?_push_of_some _ (Heap.get?_push_of_some _ e))
  refine wpAny_pure ⟨plainId_quiet F.plain_min_loop _, least_first (S := (s.heap.push { cls := .type "tuple_iterator", data := .fields #[.ref a, .int 0 0] }).objs.size) (Walks.tuple (A := A.in1) hd s.heap.objs.size a ne xs) lt (fun i j x y s' Q E st => cmp i j x y s' Q E (old st)) ?_ hn ?_ (Heap.get?_push_size _ rfl) fun v g tk pv st => fin v g tk pv (old st)⟩
  · intro m
    rw [Heap.size_push] at m
    rcases List.mem_cons.mp m with m | m
    · exact Nat.succ_ne_self _ m
    · exact Nat.ne_of_lt (Nat.lt_succ_of_lt al) (List.mem_singleton.mp m).symm
  · refine ⟨?_, ?_⟩
    · exact ⟨_, Heap.get?_push_of_some _ (Heap.get?_push_size _ rfl), rfl, rfl⟩
    · exact (ht.push _).push _
end
end PySem
namespace SD
open PySem PySem.Spec PyProof.Rows L2
section
variable {g : Gc} {X : Cx}
def asIss : List DV → Option (List (List Int))
  | [] => some []
  | .tup ys :: r => match asIs ys, asIss r with
    | some n, some ns => some (n :: ns)
    | _, _ => none
  | _ => none
def ltAt (nss : List (List Int)) (i j : Nat) : Bool := HT.lexLt (nss.getD i []) (nss.getD j [])
/-- min(t), t a tuple of tuples of whole numbers; else as vMin -/
def vMinT : VN := fun ds μ => match ds with
  | [.tup xs] => match asIss xs with
    | some nss => if 0 < xs.length then xs[argBest (ltAt nss) (xs.length - 1)]? else none
    | none => none
  | _ => vMin ds μ
theorem asIss_at {κ : KA} {H : Hp} : ∀ {xs : List DV} {vs : List V} {nss : List (List Int)}, RelL g κ H xs vs → asIss xs = some nss → ∀ (i : Nat) (v : V), vs[i]? = some v → ∃ b, v = .ref b ∧ SqT g.K H b ((nss.getD i []).map V.int)
  | [], vs, nss, r, h, i, v, hv => by cases r.of_nil; simp at hv
  | x :: xs, vs, nss, r, h, i, v, hv => by
    obtain ⟨w, r', rfl, h1, h2⟩ := r.of_cons
    cases x with
    | tup ys =>
      simp only [asIss] at h
      cases e1 : asIs ys with
      | none => rw [e1] at h; cases h
      | some n =>
        cases e2 : asIss xs with
        | none => rw [e1, e2] at h; cases h
        | some ns =>
          rw [e1, e2] at h
          cases h
          obtain ⟨b, ws, rfl, q1, q2⟩ := tup_rel h1
          have e := asIs_rel q2 e1
          subst e
          cases i with
          | zero => cases hv; exact ⟨b, rfl, q1⟩
          | succ i => exact asIss_at h2 e2 i v (by simpa using hv)
    | _ => cases h
theorem vals_at {vs : List V} {us : List Value} (r : Vals vs us) {i : Nat} {u : Value} (h : us[i]? = some u) : ∃ v, vs[i]? = some v ∧ RelV v u := by
  have hl := r.length
  have hi : i < us.length := (List.getElem?_eq_some_iff.mp h).1
  obtain ⟨u', h1, h2⟩ := r.get (List.getElem?_eq_getElem (by omega : i < vs.length))
  rw [h] at h1
  cases h1
  exact ⟨_, List.getElem?_eq_getElem (by omega), h2⟩
theorem cMinT (xg : XG g X) (hc : X.calm = true) (hu : X.A.units + 64 < cLine) : CallR X (.builtin "min") (rN g vMinT) := by
  intro pins s σ H xs us Q I rx h
  obtain ⟨κ, ds, μ, rd, so, ho⟩ := h
  unfold vMinT at ho
  split at ho
  · rename_i ys
    split at ho
    · rename_i nss hn
      split at ho
      · rename_i hl
        obtain ⟨v, rfl, r1⟩ := relL1 rd
        obtain ⟨a, vs, rfl, h1, h2⟩ := tup_rel r1
        rw [Vals.ref1 rx]
        obtain ⟨its, rv, ht, hz⟩ := I.tuple (xs := vs) (a := a) (by rw [xg.K]; exact h1)
        have e1 := h2.length
        have e2 := rv.length
        have at' : ∀ (i : Nat) (x : Value), its.toArray[i]? = some x → ∃ b jts, x = .ref b ∧ IsTup s.heap b jts ∧ IntsAre jts.toList (nss.getD i []) := fun i x hx => by
          obtain ⟨v, q1, q2⟩ := vals_at rv (i := i) (u := x) (by simpa using hx)
          obtain ⟨b, rfl, q3⟩ := asIss_at h2 hn i v q1
          obtain ⟨jts, q4, q5, _⟩ := I.tuple (xs := (nss.getD i []).map V.int) (a := b) (by rw [xg.K]; exact q3)
          cases q2
          exact ⟨b, jts.toArray, rfl, q5, by simpa using intsAre_of q4⟩
        refine least_tup (lt := ltAt nss) ht (I.ok.hd hc) (by simp; omega) (fun i j x y s' Q' E' kp hx hy hq => ?_) fun v G tk hv kp => ?_
        · obtain ⟨b, j1, rfl, t1, n1⟩ := at' i x hx
          obtain ⟨c, j2, rfl, t2, n2⟩ := at' j y hy
          exact HT.lt_tupInts (t1.keeps kp) (t2.keeps kp) n1 n2 (by rw [PyProof.Rows.units_in1]; omega) hq
        · have e3 : its.toArray.size = ys.length := by simp; omega
          rw [e3] at hv
          obtain ⟨w, q1, q2⟩ := vals_at rv (i := argBest (ltAt nss) (ys.length - 1)) (u := v) (by simpa using hv)
          cases hd : ys[argBest (ltAt nss) (ys.length - 1)]? with
          | none => rw [hd] at ho; exact ho.elim
          | some d =>
            rw [hd] at ho
            obtain ⟨w', q3, q4⟩ := h2.get hd
            rw [q1] at q3
            cases q3
            exact ⟨w, H, I.kept kp, q2, rOut.flat so ho q4⟩
      · exact ho.elim
    · exact ho.elim
  · exact cMin xg hc pins s σ H xs us Q I rx ⟨κ, ds, μ, rd, so, ho⟩
end
end SD

set_option Elab.async false
set_option linter.all false
set_option maxRecDepth 100000
set_option maxHeartbeats 4000000
/-! SD: t.index(x), t a tuple of data. -/
namespace SD
open PySem PySem.Spec PyProof.Rows L2
section
variable {g : Gc} {X : Cx}
/-- the first place of an equal one -/
def idxD (p : PyData) : List PyData → Option Nat
  | [] => none
  | q :: r => if PyData.eqv q p = true then some 0 else (idxD p r).map (· + 1)
theorem idxD_ok {p : PyData} : ∀ {ps : List PyData} {j : Nat}, idxD p ps = some j → (∃ z, ps[j]? = some z ∧ PyData.eqv z p = true) ∧ ∀ (m : Nat) (z : PyData), m < j → ps[m]? = some z → PyData.eqv z p = false
  | [], j, h => by simp [idxD] at h
  | q :: r, j, h => by
    by_cases e : PyData.eqv q p = true
    · have h' : some 0 = some j := by
        rw [← h]
        exact (if_pos e).symm
      cases h'
      exact ⟨⟨q, rfl, e⟩, fun m z hm => absurd hm (Nat.not_lt_zero _)⟩
    · have h' : (idxD p r).map (· + 1) = some j := by
        rw [← h]
        exact (if_neg e).symm
      rw [Option.map_eq_some_iff] at h'
      obtain ⟨i, hi, rfl⟩ := h'
      obtain ⟨⟨z, h1, h2⟩, h3⟩ := idxD_ok hi
      refine ⟨⟨z, by simpa using h1, h2⟩, fun m z' hm hz => ?_⟩
      cases m with
      | zero =>
        have hz' : some q = some z' := hz
        cases hz'
        simpa using e
      | succ m => exact h3 m z' (by omega) (by simpa using hz)
def mIndexT : VM := fun d ds μ => match d, ds with
  | .tup xs, [y] => match toPyL xs, toPy y with
    | some ps, some p => if (SeqAt.shaped (.tuple ps) && SeqAt.shaped p) = true then (idxD p ps).map fun j => (.int (j : Int), μ) else none
    | _, _ => none
  | _, _ => none
theorem mtIndexT (xg : XG g X) (hu : X.A.units + 65 < cLine) : MtR X "tuple.index" (rM g mIndexT) := by
  intro pins s σ H x xs v us Q I rx rs h
  obtain ⟨κ, d, ds, μ, rd, rds, so, ho⟩ := h
  unfold mIndexT at ho
  split at ho
  · rename_i ys y
    split at ho
    · rename_i ps p hps hp
      split at ho
      · rename_i hz
        rw [Bool.and_eq_true] at hz
        cases hj : idxD p ps with
        | none => rw [hj] at ho; exact ho.elim
        | some j =>
          rw [hj] at ho
          obtain ⟨⟨z, z1, z2⟩, z3⟩ := idxD_ok hj
          obtain ⟨a, vs, rfl, h1, h2⟩ := tup_rel rd
          obtain ⟨w', rfl, ry⟩ := relL1 rds
          have dy : Dp X.K H w' p := by rw [xg.K]; exact dp_of ry hp
          have da : DpAll X.K H vs ps := by rw [xg.K]; exact dpAll_of h2 hps
          obtain rfl : v = Value.ref a := rx
          obtain ⟨uy, rfl, ru⟩ := vals1 rs
          obtain ⟨bs, r1⟩ := Dp.reads I p w' uy dy ru
          have lay : PyData.canLayAll0 ps = true := SeqAt.canLay_of_shaped hz.1
          have room : X.A.units + 1 + min (PyData.depthAll ps) p.depth < cLine := room_in_shaped hz.2 hu
          obtain ⟨its, rv, ⟨⟨cls, dd, data, sl⟩, o1, o2, n, o3⟩, zl⟩ := I.tuple (xs := vs) (a := a) (by rw [xg.K]; exact h1)
          simp only at o2 o3
          subst o2 o3
          obtain ⟨as, ra⟩ := Dp.readsAll I ps _ its da rv
          have l1 : its.length = ps.length := SeqAt.ReadsAll.length ps its as ra
          have mp : its.map (SeqAt.readOf s.heap) = ps := SeqAt.readsAll_map ps its as lay ra
          have jl : j < its.toArray.size := by
            have := (List.getElem?_eq_some_iff.mp z1).1
            simp
            omega
          have rd_ : ∀ (m : Nat) (hm : m < its.toArray.size), ps[m]? = some (SeqAt.readOf s.heap its.toArray[m]) := fun m hm => by
            have hm' : m < its.length := by simpa using hm
            rw [← mp, List.getElem?_map, List.getElem?_eq_getElem hm']
            simp
          refine call_meets PySem.F.slot_tuple_index ⟨_, o1, rfl⟩ PySem.F.entry_tuple_index (PySem.F.args_tuple_index_2 _ _) (TI.tuple_indexAt a its.toArray n dd sl uy (fun u => PyData.eqv (SeqAt.readOf s.heap u) p) j jl ?_ fun m hm hmj => z3 m _ hmj (rd_ m hm))
            ⟨o1, SeqAt.items_eqAt (vs := its.toArray) (show ReadsAll s.heap its.toArray.toList ps as from ra) r1 lay (SeqAt.canLay_of_shaped hz.2) room, ?_⟩
          · have := rd_ j jl
            rw [z1] at this
            cases this
            exact z2
          · exact ⟨.int (j : Nat), H, I.tok _, ⟨_, rfl⟩, outS_flat so ho (by simp [Rel])⟩
      · exact ho.elim
    · exact ho.elim
  · exact ho.elim
end
end SD

set_option Elab.async false
set_option linter.all false
set_option maxRecDepth 100000
set_option maxHeartbeats 4000000
namespace Lw
open PySem PySem.Spec PyProof.Rows L2 SD
def top (i : Nat) : Stmt := PySem.Challenge.pw_stucklots_k03_parts_judged.main.body.getD i (.Pass ⟨0, 0, 0, 0⟩)
abbrev s_is_whole : Stmt := top 2
abbrev s_is_number : Stmt := top 3
abbrev s_is_pair : Stmt := top 4
abbrev s_is_point : Stmt := top 5
abbrev s_cross : Stmt := top 7
abbrev s_left_of : Stmt := top 11
abbrev s_is_part : Stmt := top 12
abbrev s_part_told : Stmt := top 13
abbrev s_edges : Stmt := top 14
abbrev s_area_twice : Stmt := top 15
abbrev s__law_box : Stmt := top 17
abbrev s__law_take : Stmt := top 18
abbrev s__law_pick : Stmt := top 19
abbrev s__law_mixed : Stmt := top 20
abbrev s__law_same : Stmt := top 21
abbrev s__law_odd : Stmt := top 22
abbrev s__law_cross : Stmt := top 23
abbrev s__law_turn : Stmt := top 24
abbrev s__law_is_whole : Stmt := top 25
abbrev s__law_is_spot : Stmt := top 26
abbrev s__law_edges : Stmt := top 27
abbrev s__law_is_poly : Stmt := top 28
abbrev s__law_told : Stmt := top 29
abbrev s__law_area : Stmt := top 30
abbrev s__law_sent : Stmt := top 31
abbrev s__law_quarter : Stmt := top 32
abbrev s__law_flipped : Stmt := top 33
abbrev s__law_rect : Stmt := top 34
abbrev s__law_bowl : Stmt := top 35
abbrev s__law_shape : Stmt := top 36
abbrev s__law_star : Stmt := top 37
abbrev s__law_in_line : Stmt := top 38
abbrev s__law_bent : Stmt := top 39
abbrev s__law_some_poly : Stmt := top 40
abbrev s_law : Stmt := top 41
def fa : List He.Fa := [.free "int", .free "isinstance", .free "bool", .glo "is_whole", .glo "is_number", .free "tuple", .free "len", .glo "is_pair", .int "FARTHEST" 200, .glo "is_point", .glo "cross", .glo "left_of", .int "LEAST_CORNERS" 3, .int "MOST_CORNERS" 6, .free "all", .free "range", .glo "is_part", .free "min", .glo "part_told", .glo "edges", .free "sum", .glo "area_twice", .glo "_law_box", .free "abs", .glo "_law_take", .glo "_law_pick", .glo "_law_mixed", .free "list", .free "str", .free "dict", .glo "_law_same", .glo "_law_odd", .glo "_law_cross", .glo "_law_turn", .glo "_law_is_whole", .glo "_law_is_spot", .glo "_law_edges", .glo "_law_is_poly", .glo "_law_told", .glo "_law_area", .glo "_law_sent", .glo "_law_quarter", .glo "_law_flipped", .glo "_law_rect", .free "sorted", .glo "_law_bowl", .glo "_law_shape", .glo "_law_star", .glo "_law_in_line", .glo "_law_bent", .glo "_law_some_poly", .glo "law"]
def d_is_whole : He.DefD := ⟨("is_whole", none), "is_whole", "is_whole", defArgs s_is_whole, defBody s_is_whole, defScope s_is_whole, [], []⟩
def d_is_number : He.DefD := ⟨("is_number", none), "is_number", "is_number", defArgs s_is_number, defBody s_is_number, defScope s_is_number, [], []⟩
def d_is_pair : He.DefD := ⟨("is_pair", none), "is_pair", "is_pair", defArgs s_is_pair, defBody s_is_pair, defScope s_is_pair, [], []⟩
def d_is_point : He.DefD := ⟨("is_point", none), "is_point", "is_point", defArgs s_is_point, defBody s_is_point, defScope s_is_point, [], []⟩
def d_cross : He.DefD := ⟨("cross", none), "cross", "cross", defArgs s_cross, defBody s_cross, defScope s_cross, [], []⟩
def d_left_of : He.DefD := ⟨("left_of", none), "left_of", "left_of", defArgs s_left_of, defBody s_left_of, defScope s_left_of, [], []⟩
def d_is_part : He.DefD := ⟨("is_part", none), "is_part", "is_part", defArgs s_is_part, defBody s_is_part, defScope s_is_part, [], []⟩
def d_part_told : He.DefD := ⟨("part_told", none), "part_told", "part_told", defArgs s_part_told, defBody s_part_told, defScope s_part_told, [], []⟩
def d_edges : He.DefD := ⟨("edges", none), "edges", "edges", defArgs s_edges, defBody s_edges, defScope s_edges, [], []⟩
def d_area_twice : He.DefD := ⟨("area_twice", none), "area_twice", "area_twice", defArgs s_area_twice, defBody s_area_twice, defScope s_area_twice, [], []⟩
def d__law_box : He.DefD := ⟨("_law_box", none), "_law_box", "_law_box", defArgs s__law_box, defBody s__law_box, defScope s__law_box, [], []⟩
def d__law_take : He.DefD := ⟨("_law_take", none), "_law_take", "_law_take", defArgs s__law_take, defBody s__law_take, defScope s__law_take, [], []⟩
def d__law_pick : He.DefD := ⟨("_law_pick", none), "_law_pick", "_law_pick", defArgs s__law_pick, defBody s__law_pick, defScope s__law_pick, [], []⟩
def d__law_mixed : He.DefD := ⟨("_law_mixed", none), "_law_mixed", "_law_mixed", defArgs s__law_mixed, defBody s__law_mixed, defScope s__law_mixed, [], []⟩
def d__law_same : He.DefD := ⟨("_law_same", none), "_law_same", "_law_same", defArgs s__law_same, defBody s__law_same, defScope s__law_same, [], []⟩
def d__law_odd : He.DefD := ⟨("_law_odd", none), "_law_odd", "_law_odd", defArgs s__law_odd, defBody s__law_odd, defScope s__law_odd, [], []⟩
def d__law_cross : He.DefD := ⟨("_law_cross", none), "_law_cross", "_law_cross", defArgs s__law_cross, defBody s__law_cross, defScope s__law_cross, [], []⟩
def d__law_turn : He.DefD := ⟨("_law_turn", none), "_law_turn", "_law_turn", defArgs s__law_turn, defBody s__law_turn, defScope s__law_turn, [], []⟩
def d__law_is_whole : He.DefD := ⟨("_law_is_whole", none), "_law_is_whole", "_law_is_whole", defArgs s__law_is_whole, defBody s__law_is_whole, defScope s__law_is_whole, [], []⟩
def d__law_is_spot : He.DefD := ⟨("_law_is_spot", none), "_law_is_spot", "_law_is_spot", defArgs s__law_is_spot, defBody s__law_is_spot, defScope s__law_is_spot, [], []⟩
def d__law_edges : He.DefD := ⟨("_law_edges", none), "_law_edges", "_law_edges", defArgs s__law_edges, defBody s__law_edges, defScope s__law_edges, [], []⟩
def d__law_is_poly : He.DefD := ⟨("_law_is_poly", none), "_law_is_poly", "_law_is_poly", defArgs s__law_is_poly, defBody s__law_is_poly, defScope s__law_is_poly, [], []⟩
def d__law_told : He.DefD := ⟨("_law_told", none), "_law_told", "_law_told", defArgs s__law_told, defBody s__law_told, defScope s__law_told, [], []⟩
def d__law_area : He.DefD := ⟨("_law_area", none), "_law_area", "_law_area", defArgs s__law_area, defBody s__law_area, defScope s__law_area, [], []⟩
def d__law_sent : He.DefD := ⟨("_law_sent", none), "_law_sent", "_law_sent", defArgs s__law_sent, defBody s__law_sent, defScope s__law_sent, [], []⟩
def d__law_quarter : He.DefD := ⟨("_law_quarter", none), "_law_quarter", "_law_quarter", defArgs s__law_quarter, defBody s__law_quarter, defScope s__law_quarter, [], []⟩
def d__law_flipped : He.DefD := ⟨("_law_flipped", none), "_law_flipped", "_law_flipped", defArgs s__law_flipped, defBody s__law_flipped, defScope s__law_flipped, [], []⟩
def d__law_rect : He.DefD := ⟨("_law_rect", none), "_law_rect", "_law_rect", defArgs s__law_rect, defBody s__law_rect, defScope s__law_rect, [], []⟩
def d__law_bowl : He.DefD := ⟨("_law_bowl", none), "_law_bowl", "_law_bowl", defArgs s__law_bowl, defBody s__law_bowl, defScope s__law_bowl, [], []⟩
def d__law_shape : He.DefD := ⟨("_law_shape", none), "_law_shape", "_law_shape", defArgs s__law_shape, defBody s__law_shape, defScope s__law_shape, [], []⟩
def d__law_star : He.DefD := ⟨("_law_star", none), "_law_star", "_law_star", defArgs s__law_star, defBody s__law_star, defScope s__law_star, [], []⟩
def d__law_in_line : He.DefD := ⟨("_law_in_line", none), "_law_in_line", "_law_in_line", defArgs s__law_in_line, defBody s__law_in_line, defScope s__law_in_line, [], []⟩
def d__law_bent : He.DefD := ⟨("_law_bent", none), "_law_bent", "_law_bent", defArgs s__law_bent, defBody s__law_bent, defScope s__law_bent, [], []⟩
def d__law_some_poly : He.DefD := ⟨("_law_some_poly", none), "_law_some_poly", "_law_some_poly", defArgs s__law_some_poly, defBody s__law_some_poly, defScope s__law_some_poly, [], []⟩
def d_law : He.DefD := ⟨("law", none), "law", "law", defArgs s_law, defBody s_law, defScope s_law, [], []⟩
def fn : List He.DefD := [d_is_whole, d_is_number, d_is_pair, d_is_point, d_cross, d_left_of, d_is_part, d_part_told, d_edges, d_area_twice, d__law_box, d__law_take, d__law_pick, d__law_mixed, d__law_same, d__law_odd, d__law_cross, d__law_turn, d__law_is_whole, d__law_is_spot, d__law_edges, d__law_is_poly, d__law_told, d__law_area, d__law_sent, d__law_quarter, d__law_flipped, d__law_rect, d__law_bowl, d__law_shape, d__law_star, d__law_in_line, d__law_bent, d__law_some_poly, d_law]
abbrev gK (K : PySem.W.Frag) : Gc := ⟨K, fun _ => 0⟩
section
variable {P : Program} {w : World} {K : PySem.W.Frag} {mg : Str → Option Value} {base : Heap}
theorem sc_is_whole : FnScope ["value"] ["value"] (defScope s_is_whole) := ⟨rfl, rfl, rfl, by decide +kernel, rfl, by decide +kernel, by decide +kernel⟩
def b_is_whole : DS :=
  (sRet (eAnd (eFn vIsi (aCons (eVar 0) (aCons (eC (.ty .int)) aNil))) (eNot (eFn vIsi (aCons (eVar 0) (aCons (eC (.ty .bl)) aNil))))))
def f_is_whole : Fn := runF .fz 1 1 b_is_whole
theorem ar_is_whole : Ar f_is_whole 1 := ar_run
theorem fd_is_whole (T : Hd fa fn K mg) : ∃ fd, FunD (gK K).K "is_whole" "is_whole" (defArgs s_is_whole) (defBody s_is_whole) (defScope s_is_whole) [] [] (He.ga K "is_whole") fd := T.def_ 0
theorem fb_is_whole (T : Hd fa fn K mg) (cdv : Value) (A : Around) (outer : List Env) (s : Shared) (H : Hp) (E : XK) (hr : Room 0 (A.deeper (envOfC "is_whole" (defScope s_is_whole) s.heap.objs.size (He.ga K "is_whole") cdv))) : GSs (gK K) (WF E) (cxOf (L2.CX P w) P w (gK K).K mg base ["value"] "is_whole" (defScope s_is_whole) (He.ga K "is_whole") cdv A outer s H E) (defBody s_is_whole) b_is_whole := by
  have nd := sc_is_whole.nd
  have tk := tk_of (P := P) (w := w) (K := (gK K).K) (mg := mg) (base := base) (N := ["value"]) (qual := "is_whole") (scope := defScope s_is_whole) (f := He.ga K "is_whole") (cdv := cdv) (A := A) (outer := outer) (s := s) (H := H) (E := E)
  have hu := hu64 hr
  have hu5 := hu65 hr
  exact (gss_one (gs_ret (ge_and (ge_callB (cIsi ⟨rfl⟩) rfl (T.free 1) (by decide +kernel) (ga_cons (ge_var (pv 0)) (ga_cons (ge_ty .int (T.free 0) rfl (by decide +kernel)) ga_nil))) (ge_one (ge_not (ge_callB (cIsi ⟨rfl⟩) rfl (T.free 1) (by decide +kernel) (ga_cons (ge_var (pv 0)) (ga_cons (ge_ty .bl (T.free 2) rfl (by decide +kernel)) ga_nil))))))))
theorem fg_is_whole (T : Hd fa fn K mg) : FnG P w (gK K) mg base 1 "is_whole" s_is_whole ["value"] [] f_is_whole := fg_of (T.glo 3) (fd_is_whole T) sc_is_whole (fb_is_whole T)
theorem sc_is_number : FnScope ["value", "least", "most"] ["value", "least", "most"] (defScope s_is_number) := ⟨rfl, rfl, rfl, by decide +kernel, rfl, by decide +kernel, by decide +kernel⟩
def b_is_number : DS :=
  (sRet (eAnd (eCall f_is_whole (aCons (eVar 0) aNil)) (eChain vLe vLe (eVar 1) (eVar 0) (eVar 2))))
def f_is_number : Fn := runF .fz 3 3 b_is_number
theorem ar_is_number : Ar f_is_number 3 := ar_run
theorem fd_is_number (T : Hd fa fn K mg) : ∃ fd, FunD (gK K).K "is_number" "is_number" (defArgs s_is_number) (defBody s_is_number) (defScope s_is_number) [] [] (He.ga K "is_number") fd := T.def_ 1
theorem fb_is_number (T : Hd fa fn K mg) (cdv : Value) (A : Around) (outer : List Env) (s : Shared) (H : Hp) (E : XK) (hr : Room 1 (A.deeper (envOfC "is_number" (defScope s_is_number) s.heap.objs.size (He.ga K "is_number") cdv))) : GSs (gK K) (WF E) (cxOf (L2.CX P w) P w (gK K).K mg base ["value", "least", "most"] "is_number" (defScope s_is_number) (He.ga K "is_number") cdv A outer s H E) (defBody s_is_number) b_is_number := by
  have nd := sc_is_number.nd
  have tk := tk_of (P := P) (w := w) (K := (gK K).K) (mg := mg) (base := base) (N := ["value", "least", "most"]) (qual := "is_number") (scope := defScope s_is_number) (f := He.ga K "is_number") (cdv := cdv) (A := A) (outer := outer) (s := s) (H := H) (E := E)
  have hu := hu64 hr
  have hu5 := hu65 hr
  exact (gss_one (gs_ret (ge_and (ge_call (fg_is_whole T) rfl ar_is_whole (hr.mono (by decide)) rfl tk (ga_cons (ge_var (pv 0)) ga_nil) rfl (fun _ _ _ _ _ _ us hl => match us, hl with | [_], _ => rfl)) (ge_one (ge_chain opLe opLe (ge_var (pv 1)) (ge_var (pv 0)) (ge_var (pv 2)))))))
theorem fg_is_number (T : Hd fa fn K mg) : FnG P w (gK K) mg base 2 "is_number" s_is_number ["value", "least", "most"] [] f_is_number := fg_of (T.glo 4) (fd_is_number T) sc_is_number (fb_is_number T)
theorem sc_is_pair : FnScope ["value", "most"] ["value", "most"] (defScope s_is_pair) := ⟨rfl, rfl, rfl, by decide +kernel, rfl, by decide +kernel, by decide +kernel⟩
def b_is_pair : DS :=
  (sSeq (sIf (tOr' (tNot' (tB' (eFn vIsi (aCons (eVar 0) (aCons (eC (.ty .tup)) aNil))))) (tB' (eBin vNe (eFn vLen (aCons (eVar 0) aNil)) (eC (.int 2))))) (sRet (eC (.bl false))) sNop)
    (sRet (eAnd (eCall f_is_number (aCons (eBin vIx (eVar 0) (eC (.int 0))) (aCons (eUn vNeg (eVar 1)) (aCons (eVar 1) aNil)))) (eCall f_is_number (aCons (eBin vIx (eVar 0) (eC (.int 1))) (aCons (eUn vNeg (eVar 1)) (aCons (eVar 1) aNil)))))))
def f_is_pair : Fn := runF .fz 2 2 b_is_pair
theorem ar_is_pair : Ar f_is_pair 2 := ar_run
theorem fd_is_pair (T : Hd fa fn K mg) : ∃ fd, FunD (gK K).K "is_pair" "is_pair" (defArgs s_is_pair) (defBody s_is_pair) (defScope s_is_pair) [] [] (He.ga K "is_pair") fd := T.def_ 2
theorem fb_is_pair (T : Hd fa fn K mg) (cdv : Value) (A : Around) (outer : List Env) (s : Shared) (H : Hp) (E : XK) (hr : Room 2 (A.deeper (envOfC "is_pair" (defScope s_is_pair) s.heap.objs.size (He.ga K "is_pair") cdv))) : GSs (gK K) (WF E) (cxOf (L2.CX P w) P w (gK K).K mg base ["value", "most"] "is_pair" (defScope s_is_pair) (He.ga K "is_pair") cdv A outer s H E) (defBody s_is_pair) b_is_pair := by
  have nd := sc_is_pair.nd
  have tk := tk_of (P := P) (w := w) (K := (gK K).K) (mg := mg) (base := base) (N := ["value", "most"]) (qual := "is_pair") (scope := defScope s_is_pair) (f := He.ga K "is_pair") (cdv := cdv) (A := A) (outer := outer) (s := s) (H := H) (E := E)
  have hu := hu64 hr
  have hu5 := hu65 hr
  exact (gss_cons (gs_if (PW.pt (gw_or (gt_not (gt_val (ge_callB (cIsi ⟨rfl⟩) rfl (T.free 1) (by decide +kernel) (ga_cons (ge_var (pv 0)) (ga_cons (ge_ty .tup (T.free 5) rfl (by decide +kernel)) ga_nil))))) (gw_or1 (gt_cmp (opNe ⟨rfl⟩ hu) (ge_callB (cLen ⟨rfl⟩) rfl (T.free 6) (by decide +kernel) (ga_cons (ge_var (pv 0)) ga_nil)) (ge_c pe_int) (nomark _))))) (gss_one (gs_ret (ge_c pe_bl))) gss_nil)
    (gss_one (gs_ret (ge_and (ge_call (fg_is_number T) rfl ar_is_number (hr.mono (by decide)) rfl tk (ga_cons (ge_ix (ixAny ⟨rfl⟩) (ge_var (pv 0)) (ge_c pe_int)) (ga_cons (ge_un unNeg (ge_var (pv 1))) (ga_cons (ge_var (pv 1)) ga_nil))) rfl (fun _ _ _ _ _ _ us hl => match us, hl with | [_, _, _], _ => rfl)) (ge_one (ge_call (fg_is_number T) rfl ar_is_number (hr.mono (by decide)) rfl tk (ga_cons (ge_ix (ixAny ⟨rfl⟩) (ge_var (pv 0)) (ge_c pe_int)) (ga_cons (ge_un unNeg (ge_var (pv 1))) (ga_cons (ge_var (pv 1)) ga_nil))) rfl (fun _ _ _ _ _ _ us hl => match us, hl with | [_, _, _], _ => rfl)))))))
theorem fg_is_pair (T : Hd fa fn K mg) : FnG P w (gK K) mg base 3 "is_pair" s_is_pair ["value", "most"] [] f_is_pair := fg_of (T.glo 7) (fd_is_pair T) sc_is_pair (fb_is_pair T)
theorem sc_is_point : FnScope ["value"] ["value"] (defScope s_is_point) := ⟨rfl, rfl, rfl, by decide +kernel, rfl, by decide +kernel, by decide +kernel⟩
def b_is_point : DS :=
  (sRet (eCall f_is_pair (aCons (eVar 0) (aCons (eC (.int 200)) aNil))))
def f_is_point : Fn := runF .fz 1 1 b_is_point
theorem ar_is_point : Ar f_is_point 1 := ar_run
theorem fd_is_point (T : Hd fa fn K mg) : ∃ fd, FunD (gK K).K "is_point" "is_point" (defArgs s_is_point) (defBody s_is_point) (defScope s_is_point) [] [] (He.ga K "is_point") fd := T.def_ 3
theorem fb_is_point (T : Hd fa fn K mg) (cdv : Value) (A : Around) (outer : List Env) (s : Shared) (H : Hp) (E : XK) (hr : Room 3 (A.deeper (envOfC "is_point" (defScope s_is_point) s.heap.objs.size (He.ga K "is_point") cdv))) : GSs (gK K) (WF E) (cxOf (L2.CX P w) P w (gK K).K mg base ["value"] "is_point" (defScope s_is_point) (He.ga K "is_point") cdv A outer s H E) (defBody s_is_point) b_is_point := by
  have nd := sc_is_point.nd
  have tk := tk_of (P := P) (w := w) (K := (gK K).K) (mg := mg) (base := base) (N := ["value"]) (qual := "is_point") (scope := defScope s_is_point) (f := He.ga K "is_point") (cdv := cdv) (A := A) (outer := outer) (s := s) (H := H) (E := E)
  have hu := hu64 hr
  have hu5 := hu65 hr
  exact (gss_one (gs_ret (ge_call (fg_is_pair T) rfl ar_is_pair (hr.mono (by decide)) rfl tk (ga_cons (ge_var (pv 0)) (ga_cons (ge_gint (T.int 8) rfl) ga_nil)) rfl (fun _ _ _ _ _ _ us hl => match us, hl with | [_, _], _ => rfl))))
theorem fg_is_point (T : Hd fa fn K mg) : FnG P w (gK K) mg base 4 "is_point" s_is_point ["value"] [] f_is_point := fg_of (T.glo 9) (fd_is_point T) sc_is_point (fb_is_point T)
theorem sc_cross : FnScope ["one", "other"] ["one", "other"] (defScope s_cross) := ⟨rfl, rfl, rfl, by decide +kernel, rfl, by decide +kernel, by decide +kernel⟩
def b_cross : DS :=
  (sRet (eBin vSub (eBin vMul (eBin vIx (eVar 0) (eC (.int 0))) (eBin vIx (eVar 1) (eC (.int 1)))) (eBin vMul (eBin vIx (eVar 0) (eC (.int 1))) (eBin vIx (eVar 1) (eC (.int 0))))))
def f_cross : Fn := runF .fz 2 2 b_cross
theorem ar_cross : Ar f_cross 2 := ar_run
theorem fd_cross (T : Hd fa fn K mg) : ∃ fd, FunD (gK K).K "cross" "cross" (defArgs s_cross) (defBody s_cross) (defScope s_cross) [] [] (He.ga K "cross") fd := T.def_ 4
theorem fb_cross (T : Hd fa fn K mg) (cdv : Value) (A : Around) (outer : List Env) (s : Shared) (H : Hp) (E : XK) (hr : Room 0 (A.deeper (envOfC "cross" (defScope s_cross) s.heap.objs.size (He.ga K "cross") cdv))) : GSs (gK K) (WF E) (cxOf (L2.CX P w) P w (gK K).K mg base ["one", "other"] "cross" (defScope s_cross) (He.ga K "cross") cdv A outer s H E) (defBody s_cross) b_cross := by
  have nd := sc_cross.nd
  have tk := tk_of (P := P) (w := w) (K := (gK K).K) (mg := mg) (base := base) (N := ["one", "other"]) (qual := "cross") (scope := defScope s_cross) (f := He.ga K "cross") (cdv := cdv) (A := A) (outer := outer) (s := s) (H := H) (E := E)
  have hu := hu64 hr
  have hu5 := hu65 hr
  exact (gss_one (gs_ret (ge_bin opSub (ge_bin opMul (ge_ix (ixAny ⟨rfl⟩) (ge_var (pv 0)) (ge_c pe_int)) (ge_ix (ixAny ⟨rfl⟩) (ge_var (pv 1)) (ge_c pe_int))) (ge_bin opMul (ge_ix (ixAny ⟨rfl⟩) (ge_var (pv 0)) (ge_c pe_int)) (ge_ix (ixAny ⟨rfl⟩) (ge_var (pv 1)) (ge_c pe_int))))))
theorem fg_cross (T : Hd fa fn K mg) : FnG P w (gK K) mg base 1 "cross" s_cross ["one", "other"] [] f_cross := fg_of (T.glo 10) (fd_cross T) sc_cross (fb_cross T)
theorem sc_left_of : FnScope ["p", "q", "r"] ["p", "q", "r"] (defScope s_left_of) := ⟨rfl, rfl, rfl, by decide +kernel, rfl, by decide +kernel, by decide +kernel⟩
def b_left_of : DS :=
  (sRet (eBin vSub (eBin vMul (eBin vSub (eBin vIx (eVar 1) (eC (.int 0))) (eBin vIx (eVar 0) (eC (.int 0)))) (eBin vSub (eBin vIx (eVar 2) (eC (.int 1))) (eBin vIx (eVar 0) (eC (.int 1))))) (eBin vMul (eBin vSub (eBin vIx (eVar 1) (eC (.int 1))) (eBin vIx (eVar 0) (eC (.int 1)))) (eBin vSub (eBin vIx (eVar 2) (eC (.int 0))) (eBin vIx (eVar 0) (eC (.int 0)))))))
def f_left_of : Fn := runF .fz 3 3 b_left_of
theorem ar_left_of : Ar f_left_of 3 := ar_run
theorem fd_left_of (T : Hd fa fn K mg) : ∃ fd, FunD (gK K).K "left_of" "left_of" (defArgs s_left_of) (defBody s_left_of) (defScope s_left_of) [] [] (He.ga K "left_of") fd := T.def_ 5
theorem fb_left_of (T : Hd fa fn K mg) (cdv : Value) (A : Around) (outer : List Env) (s : Shared) (H : Hp) (E : XK) (hr : Room 0 (A.deeper (envOfC "left_of" (defScope s_left_of) s.heap.objs.size (He.ga K "left_of") cdv))) : GSs (gK K) (WF E) (cxOf (L2.CX P w) P w (gK K).K mg base ["p", "q", "r"] "left_of" (defScope s_left_of) (He.ga K "left_of") cdv A outer s H E) (defBody s_left_of) b_left_of := by
  have nd := sc_left_of.nd
  have tk := tk_of (P := P) (w := w) (K := (gK K).K) (mg := mg) (base := base) (N := ["p", "q", "r"]) (qual := "left_of") (scope := defScope s_left_of) (f := He.ga K "left_of") (cdv := cdv) (A := A) (outer := outer) (s := s) (H := H) (E := E)
  have hu := hu64 hr
  have hu5 := hu65 hr
  exact (gss_one (gs_ret (ge_bin opSub (ge_bin opMul (ge_bin opSub (ge_ix (ixAny ⟨rfl⟩) (ge_var (pv 1)) (ge_c pe_int)) (ge_ix (ixAny ⟨rfl⟩) (ge_var (pv 0)) (ge_c pe_int))) (ge_bin opSub (ge_ix (ixAny ⟨rfl⟩) (ge_var (pv 2)) (ge_c pe_int)) (ge_ix (ixAny ⟨rfl⟩) (ge_var (pv 0)) (ge_c pe_int)))) (ge_bin opMul (ge_bin opSub (ge_ix (ixAny ⟨rfl⟩) (ge_var (pv 1)) (ge_c pe_int)) (ge_ix (ixAny ⟨rfl⟩) (ge_var (pv 0)) (ge_c pe_int))) (ge_bin opSub (ge_ix (ixAny ⟨rfl⟩) (ge_var (pv 2)) (ge_c pe_int)) (ge_ix (ixAny ⟨rfl⟩) (ge_var (pv 0)) (ge_c pe_int)))))))
theorem fg_left_of (T : Hd fa fn K mg) : FnG P w (gK K) mg base 1 "left_of" s_left_of ["p", "q", "r"] [] f_left_of := fg_of (T.glo 11) (fd_left_of T) sc_left_of (fb_left_of T)
theorem sc_is_part : FnScope ["value", "at", "p", "q", "others", "corner"] ["value"] (defScope s_is_part) := ⟨rfl, rfl, rfl, by decide +kernel, rfl, by decide +kernel, by decide +kernel⟩
def b_is_part : DS :=
  (sSeq (sIf (tOr' (tNot' (tB' (eFn vIsi (aCons (eVar 0) (aCons (eC (.ty .tup)) aNil))))) (tNot' (tB' (eChain vLe vLe (eC (.int 3)) (eFn vLen (aCons (eVar 0) aNil)) (eC (.int 6)))))) (sRet (eC (.bl false))) sNop)
    (sSeq (sIf (tNot' (tB' (eFn vAll (aCons (eLc (iSeq (eVar 0)) (gN 5) tYes' (eCall f_is_point (aCons (eVar 5) aNil)) [5]) aNil)))) (sRet (eC (.bl false))) sNop)
    (sSeq (sFor (iRng1' (aCons (eFn vLen (aCons (eVar 0) aNil)) aNil)) (gN 1) (sSeq (sAsg (eBin vAdd (eSl vSlc (eVar 0) (oSome (eVar 1)) oNone) (eSl vSlc (eVar 0) oNone (oSome (eVar 1)))) (gRst' (gCons' (gN 2) (gCons' (gN 3) (gCons' (gN 4) gNil'))) 2))
    (sIf (tNot' (tB' (eFn vAll (aCons (eLc (iSeq (eVar 4)) (gN 5) tYes' (eBin vGt (eCall f_left_of (aCons (eVar 2) (aCons (eVar 3) (aCons (eVar 5) aNil)))) (eC (.int 0))) [5]) aNil)))) (sRet (eC (.bl false))) sNop)))
    (sRet (eC (.bl true))))))
def f_is_part : Fn := runF .fz 1 6 b_is_part
theorem ar_is_part : Ar f_is_part 1 := ar_run
theorem fd_is_part (T : Hd fa fn K mg) : ∃ fd, FunD (gK K).K "is_part" "is_part" (defArgs s_is_part) (defBody s_is_part) (defScope s_is_part) [] [] (He.ga K "is_part") fd := T.def_ 6
theorem fb_is_part (T : Hd fa fn K mg) (cdv : Value) (A : Around) (outer : List Env) (s : Shared) (H : Hp) (E : XK) (hr : Room 4 (A.deeper (envOfC "is_part" (defScope s_is_part) s.heap.objs.size (He.ga K "is_part") cdv))) : GSs (gK K) (WF E) (cxOf (L2.CX P w) P w (gK K).K mg base ["value", "at", "p", "q", "others", "corner"] "is_part" (defScope s_is_part) (He.ga K "is_part") cdv A outer s H E) (defBody s_is_part) b_is_part := by
  have nd := sc_is_part.nd
  have tk := tk_of (P := P) (w := w) (K := (gK K).K) (mg := mg) (base := base) (N := ["value", "at", "p", "q", "others", "corner"]) (qual := "is_part") (scope := defScope s_is_part) (f := He.ga K "is_part") (cdv := cdv) (A := A) (outer := outer) (s := s) (H := H) (E := E)
  have hu := hu64 hr
  have hu5 := hu65 hr
  exact (gss_cons (gs_if (PW.pt (gw_or (gt_not (gt_val (ge_callB (cIsi ⟨rfl⟩) rfl (T.free 1) (by decide +kernel) (ga_cons (ge_var (pv 0)) (ga_cons (ge_ty .tup (T.free 5) rfl (by decide +kernel)) ga_nil))))) (gw_or1 (gt_not (gt_chain opLe opLe (ge_gint (T.int 12) rfl) (ge_callB (cLen ⟨rfl⟩) rfl (T.free 6) (by decide +kernel) (ga_cons (ge_var (pv 0)) ga_nil)) (ge_gint (T.int 13) rfl)))))) (gss_one (gs_ret (ge_c pe_bl))) gss_nil)
    (gss_cons (gs_if (gt_not (gt_val (ge_callB (cAll ⟨rfl⟩ rfl) rfl (T.free 14) (by decide +kernel) (ga_cons (ge_lc (own := [("corner", 5)]) (N := ["value", "at", "p", "q", "others", "corner"]) (sc := defScope s_is_part) rfl nd (gi_seq ⟨rfl⟩ (ge_var (pv 0))) rfl rfl (by decide +kernel) (fun _ _ _ _ _ => (gg_name (pg_name (i := 5) nd rfl (Or.inl rfl)))) (fun _ _ _ _ _ => gts_nil) (fun _ _ _ _ _ => (ge_call (fg_is_point T) rfl ar_is_point (hr.mono (by decide)) rfl takes0 (ga_cons (ge_var (pv 5)) ga_nil) rfl (fun _ _ _ _ _ _ us hl => match us, hl with | [_], _ => rfl)))) ga_nil)))) (gss_one (gs_ret (ge_c pe_bl))) gss_nil)
    (gss_cons (gs_for po_of rfl (gi_rng1 rfl (T.free 15) (ga_cons (ge_callB (cLen ⟨rfl⟩) rfl (T.free 6) (by decide +kernel) (ga_cons (ge_var (pv 0)) ga_nil)) ga_nil)) (gg_name (pg_name (i := 1) nd rfl (Or.inl rfl))) (gss_cons (gs_rst ⟨rfl⟩ rfl (ge_bin (opAdd ⟨rfl⟩) (ge_slice (slAny ⟨rfl⟩) (ge_var (pv 0)) (go_some (ge_var (pv 1))) go_none) (ge_slice (slAny ⟨rfl⟩) (ge_var (pv 0)) go_none (go_some (ge_var (pv 1))))) (ggs_cons (gg_name (pg_name (i := 2) nd rfl (Or.inr rfl))) (ggs_cons (gg_name (pg_name (i := 3) nd rfl (Or.inr rfl))) (ggs_star (ggs_cons (gg_name (pg_name (i := 4) nd rfl (Or.inl rfl))) ggs_nil)))))
    (gss_one (gs_if (gt_not (gt_val (ge_callB (cAll ⟨rfl⟩ rfl) rfl (T.free 14) (by decide +kernel) (ga_cons (ge_lc (own := [("corner", 5)]) (N := ["value", "at", "p", "q", "others", "corner"]) (sc := defScope s_is_part) rfl nd (gi_seq ⟨rfl⟩ (ge_var (pv 4))) rfl rfl (by decide +kernel) (fun _ _ _ _ _ => (gg_name (pg_name (i := 5) nd rfl (Or.inl rfl)))) (fun _ _ _ _ _ => gts_nil) (fun _ _ _ _ _ => (ge_cmp opGt (ge_call (fg_left_of T) rfl ar_left_of (hr.mono (by decide)) rfl takes0 (ga_cons (ge_var (pv 2)) (ga_cons (ge_var (pv 3)) (ga_cons (ge_var (pv 5)) ga_nil))) rfl (fun _ _ _ _ _ _ us hl => match us, hl with | [_, _, _], _ => rfl)) (ge_c pe_int) (nomark _)))) ga_nil)))) (gss_one (gs_ret (ge_c pe_bl))) gss_nil))))
    (gss_one (gs_ret (ge_c pe_bl))))))
theorem fg_is_part (T : Hd fa fn K mg) : FnG P w (gK K) mg base 5 "is_part" s_is_part ["value"] [] f_is_part := fg_of (T.glo 16) (fd_is_part T) sc_is_part (fb_is_part T)
theorem sc_part_told : FnScope ["part", "at"] ["part"] (defScope s_part_told) := ⟨rfl, rfl, rfl, by decide +kernel, rfl, by decide +kernel, by decide +kernel⟩
def b_part_told : DS :=
  (sSeq (sAsg (eTm mIndexT (eVar 0) (aCons (eFn vMinT (aCons (eVar 0) aNil)) aNil)) (gN 1))
    (sRet (eBin vAdd (eSl vSlc (eVar 0) (oSome (eVar 1)) oNone) (eSl vSlc (eVar 0) oNone (oSome (eVar 1))))))
def f_part_told : Fn := runF .fz 1 2 b_part_told
theorem ar_part_told : Ar f_part_told 1 := ar_run
theorem fd_part_told (T : Hd fa fn K mg) : ∃ fd, FunD (gK K).K "part_told" "part_told" (defArgs s_part_told) (defBody s_part_told) (defScope s_part_told) [] [] (He.ga K "part_told") fd := T.def_ 7
theorem fb_part_told (T : Hd fa fn K mg) (cdv : Value) (A : Around) (outer : List Env) (s : Shared) (H : Hp) (E : XK) (hr : Room 0 (A.deeper (envOfC "part_told" (defScope s_part_told) s.heap.objs.size (He.ga K "part_told") cdv))) : GSs (gK K) (WF E) (cxOf (L2.CX P w) P w (gK K).K mg base ["part", "at"] "part_told" (defScope s_part_told) (He.ga K "part_told") cdv A outer s H E) (defBody s_part_told) b_part_told := by
  have nd := sc_part_told.nd
  have tk := tk_of (P := P) (w := w) (K := (gK K).K) (mg := mg) (base := base) (N := ["part", "at"]) (qual := "part_told") (scope := defScope s_part_told) (f := He.ga K "part_told") (cdv := cdv) (A := A) (outer := outer) (s := s) (H := H) (E := E)
  have hu := hu64 hr
  have hu5 := hu65 hr
  exact (gss_cons (gs_asg (ge_tm ⟨rfl⟩ PySem.F.slot_tuple_index PySem.F.type_tuple_index (mtIndexT ⟨rfl⟩ hu5) (ge_var (pv 0)) (ga_cons (ge_callB (cMinT ⟨rfl⟩ rfl hu) rfl (T.free 17) (by decide +kernel) (ga_cons (ge_var (pv 0)) ga_nil)) ga_nil)) (gg_name (pg_name (i := 1) nd rfl (Or.inl rfl))))
    (gss_one (gs_ret (ge_bin (opAdd ⟨rfl⟩) (ge_slice (slAny ⟨rfl⟩) (ge_var (pv 0)) (go_some (ge_var (pv 1))) go_none) (ge_slice (slAny ⟨rfl⟩) (ge_var (pv 0)) go_none (go_some (ge_var (pv 1))))))))
theorem fg_part_told (T : Hd fa fn K mg) : FnG P w (gK K) mg base 1 "part_told" s_part_told ["part"] [] f_part_told := fg_of (T.glo 18) (fd_part_told T) sc_part_told (fb_part_told T)
theorem sc_edges : FnScope ["part", "at"] ["part"] (defScope s_edges) := ⟨rfl, rfl, rfl, by decide +kernel, rfl, by decide +kernel, by decide +kernel⟩
def b_edges : DS :=
  (sRet (eLc (iRng1' (aCons (eFn vLen (aCons (eVar 0) aNil)) aNil)) (gN 1) tYes' (eTup (aCons (eBin vIx (eVar 0) (eBin vSub (eVar 1) (eC (.int 1)))) (aCons (eBin vIx (eVar 0) (eVar 1)) aNil))) [1]))
def f_edges : Fn := runF .fz 1 2 b_edges
theorem ar_edges : Ar f_edges 1 := ar_run
theorem fd_edges (T : Hd fa fn K mg) : ∃ fd, FunD (gK K).K "edges" "edges" (defArgs s_edges) (defBody s_edges) (defScope s_edges) [] [] (He.ga K "edges") fd := T.def_ 8
theorem fb_edges (T : Hd fa fn K mg) (cdv : Value) (A : Around) (outer : List Env) (s : Shared) (H : Hp) (E : XK) (hr : Room 0 (A.deeper (envOfC "edges" (defScope s_edges) s.heap.objs.size (He.ga K "edges") cdv))) : GSs (gK K) (WF E) (cxOf (L2.CX P w) P w (gK K).K mg base ["part", "at"] "edges" (defScope s_edges) (He.ga K "edges") cdv A outer s H E) (defBody s_edges) b_edges := by
  have nd := sc_edges.nd
  have tk := tk_of (P := P) (w := w) (K := (gK K).K) (mg := mg) (base := base) (N := ["part", "at"]) (qual := "edges") (scope := defScope s_edges) (f := He.ga K "edges") (cdv := cdv) (A := A) (outer := outer) (s := s) (H := H) (E := E)
  have hu := hu64 hr
  have hu5 := hu65 hr
  exact (gss_one (gs_ret (ge_lc (own := [("at", 1)]) (N := ["part", "at"]) (sc := defScope s_edges) rfl nd (gi_rng1 rfl (T.free 15) (ga_cons (ge_callB (cLen ⟨rfl⟩) rfl (T.free 6) (by decide +kernel) (ga_cons (ge_var (pv 0)) ga_nil)) ga_nil)) rfl rfl (by decide +kernel) (fun _ _ _ _ _ => (gg_name (pg_name (i := 1) nd rfl (Or.inl rfl)))) (fun _ _ _ _ _ => gts_nil) (fun _ _ _ _ _ => (ge_tup (ga_cons (ge_ix (ixAny ⟨rfl⟩) (ge_var (pv 0)) (ge_bin opSub (ge_var (pv 1)) (ge_c pe_int))) (ga_cons (ge_ix (ixAny ⟨rfl⟩) (ge_var (pv 0)) (ge_var (pv 1))) ga_nil)))))))
theorem fg_edges (T : Hd fa fn K mg) : FnG P w (gK K) mg base 1 "edges" s_edges ["part"] [] f_edges := fg_of (T.glo 19) (fd_edges T) sc_edges (fb_edges T)
theorem sc_area_twice : FnScope ["part", "p", "q"] ["part"] (defScope s_area_twice) := ⟨rfl, rfl, rfl, by decide +kernel, rfl, by decide +kernel, by decide +kernel⟩
def b_area_twice : DS :=
  (sRet (eFn vSum (aCons (eLc (iSeq (eCall f_edges (aCons (eVar 0) aNil))) (gTup' (gCons' (gN 1) (gCons' (gN 2) gNil')) 2) tYes' (eCall f_cross (aCons (eVar 1) (aCons (eVar 2) aNil))) [1, 2]) aNil)))
def f_area_twice : Fn := runF .fz 1 3 b_area_twice
theorem ar_area_twice : Ar f_area_twice 1 := ar_run
theorem fd_area_twice (T : Hd fa fn K mg) : ∃ fd, FunD (gK K).K "area_twice" "area_twice" (defArgs s_area_twice) (defBody s_area_twice) (defScope s_area_twice) [] [] (He.ga K "area_twice") fd := T.def_ 9
theorem fb_area_twice (T : Hd fa fn K mg) (cdv : Value) (A : Around) (outer : List Env) (s : Shared) (H : Hp) (E : XK) (hr : Room 1 (A.deeper (envOfC "area_twice" (defScope s_area_twice) s.heap.objs.size (He.ga K "area_twice") cdv))) : GSs (gK K) (WF E) (cxOf (L2.CX P w) P w (gK K).K mg base ["part", "p", "q"] "area_twice" (defScope s_area_twice) (He.ga K "area_twice") cdv A outer s H E) (defBody s_area_twice) b_area_twice := by
  have nd := sc_area_twice.nd
  have tk := tk_of (P := P) (w := w) (K := (gK K).K) (mg := mg) (base := base) (N := ["part", "p", "q"]) (qual := "area_twice") (scope := defScope s_area_twice) (f := He.ga K "area_twice") (cdv := cdv) (A := A) (outer := outer) (s := s) (H := H) (E := E)
  have hu := hu64 hr
  have hu5 := hu65 hr
  exact (gss_one (gs_ret (ge_callB (cSum ⟨rfl⟩ rfl) rfl (T.free 20) (by decide +kernel) (ga_cons (ge_lc (own := [("p", 1), ("q", 2)]) (N := ["part", "p", "q"]) (sc := defScope s_area_twice) rfl nd (gi_seq ⟨rfl⟩ (ge_call (fg_edges T) rfl ar_edges (hr.mono (by decide)) rfl tk (ga_cons (ge_var (pv 0)) ga_nil) rfl (fun _ _ _ _ _ _ us hl => match us, hl with | [_], _ => rfl))) rfl rfl (by decide +kernel) (fun _ _ _ _ _ => (gg_tup ⟨rfl⟩ rfl (ggs_cons (gg_name (pg_name (i := 1) nd rfl (Or.inl rfl))) (ggs_cons (gg_name (pg_name (i := 2) nd rfl (Or.inl rfl))) ggs_nil)))) (fun _ _ _ _ _ => gts_nil) (fun _ _ _ _ _ => (ge_call (fg_cross T) rfl ar_cross (hr.mono (by decide)) rfl takes0 (ga_cons (ge_var (pv 1)) (ga_cons (ge_var (pv 2)) ga_nil)) rfl (fun _ _ _ _ _ _ us hl => match us, hl with | [_, _], _ => rfl)))) ga_nil))))
theorem fg_area_twice (T : Hd fa fn K mg) : FnG P w (gK K) mg base 2 "area_twice" s_area_twice ["part"] [] f_area_twice := fg_of (T.glo 21) (fd_area_twice T) sc_area_twice (fb_area_twice T)
theorem sc__law_box : FnScope ["script", "own", "mixed", "cell"] ["script", "own"] (defScope s__law_box) := ⟨rfl, rfl, rfl, by decide +kernel, rfl, by decide +kernel, by decide +kernel⟩
def b__law_box : DS :=
  (sSeq (sAsg (eVar 1) (gN 2))
    (sSeq (sFor (iSeq (eSl vSlc (eVar 0) oNone (oSome (eC (.int 63))))) (gN 3) (sAsg (eBin vMod (eFn vInt (aCons (eBin vAdd (eBin vAdd (eBin vMul (eVar 2) (eC (.int 40503))) (eBin vMod (eFn vInt (aCons (eVar 3) aNil)) (eC (.int 2147483423)))) (eC (.int 11))) aNil)) (eC (.int 2147483587))) (gN 2)))
    (sRet (eLstC (aCons (eLc (iSeq (eSl vSlc (eVar 0) oNone (oSome (eC (.int 63))))) (gN 3) tYes' (eFn vInt (aCons (eVar 3) aNil)) [3]) (aCons (eC (.int 0)) (aCons (eC (.int 0)) (aCons (eVar 2) (aCons (eC (.int 0)) aNil)))))))))
def f__law_box : Fn := runF .cl 2 4 b__law_box
theorem ar__law_box : Ar f__law_box 2 := ar_run
theorem fd__law_box (T : Hd fa fn K mg) : ∃ fd, FunD (gK K).K "_law_box" "_law_box" (defArgs s__law_box) (defBody s__law_box) (defScope s__law_box) [] [] (He.ga K "_law_box") fd := T.def_ 10
theorem fb__law_box (T : Hd fa fn K mg) (cdv : Value) (A : Around) (outer : List Env) (s : Shared) (H : Hp) (E : XK) (hr : Room 0 (A.deeper (envOfC "_law_box" (defScope s__law_box) s.heap.objs.size (He.ga K "_law_box") cdv))) : GSs (gK K) (WF E) (cxOf (L2.CX P w) P w (gK K).K mg base ["script", "own", "mixed", "cell"] "_law_box" (defScope s__law_box) (He.ga K "_law_box") cdv A outer s H E) (defBody s__law_box) b__law_box := by
  have nd := sc__law_box.nd
  have tk := tk_of (P := P) (w := w) (K := (gK K).K) (mg := mg) (base := base) (N := ["script", "own", "mixed", "cell"]) (qual := "_law_box") (scope := defScope s__law_box) (f := He.ga K "_law_box") (cdv := cdv) (A := A) (outer := outer) (s := s) (H := H) (E := E)
  have hu := hu64 hr
  have hu5 := hu65 hr
  exact (gss_cons (gs_asg (ge_var (pv 1)) (gg_name (pg_name (i := 2) nd rfl (Or.inl rfl))))
    (gss_cons (gs_for po_of rfl (gi_seq ⟨rfl⟩ (ge_slice (slAny ⟨rfl⟩) (ge_var (pv 0)) go_none (go_some (ge_c pe_int)))) (gg_name (pg_name (i := 3) nd rfl (Or.inl rfl))) (gss_one (gs_asg (ge_bin opMod (ge_callTy cInt rfl (T.free 0) (by decide +kernel) (ga_cons (ge_bin (opAdd ⟨rfl⟩) (ge_bin (opAdd ⟨rfl⟩) (ge_bin opMul (ge_var (pv 2)) (ge_c pe_int)) (ge_bin opMod (ge_callTy cInt rfl (T.free 0) (by decide +kernel) (ga_cons (ge_var (pv 3)) ga_nil)) (ge_c pe_int))) (ge_c pe_int)) ga_nil)) (ge_c pe_int)) (gg_name (pg_name (i := 2) nd rfl (Or.inl rfl))))))
    (gss_one (gs_ret (ge_lstC (ga_cons (ge_lc (own := [("cell", 3)]) (N := ["script", "own", "mixed", "cell"]) (sc := defScope s__law_box) rfl nd (gi_seq ⟨rfl⟩ (ge_slice (slAny ⟨rfl⟩) (ge_var (pv 0)) go_none (go_some (ge_c pe_int)))) rfl rfl (by decide +kernel) (fun _ _ _ _ _ => (gg_name (pg_name (i := 3) nd rfl (Or.inl rfl)))) (fun _ _ _ _ _ => gts_nil) (fun _ _ _ _ _ => (ge_callTy cInt rfl (T.free 0) (by decide +kernel) (ga_cons (ge_var (pv 3)) ga_nil)))) (ga_cons (ge_c pe_int) (ga_cons (ge_c pe_int) (ga_cons (ge_var (pv 2)) (ga_cons (ge_c pe_int) ga_nil))))))))))
theorem fg__law_box (T : Hd fa fn K mg) : FnG P w (gK K) mg base 1 "_law_box" s__law_box ["script", "own"] [] f__law_box := fg_of (T.glo 22) (fd__law_box T) sc__law_box (fb__law_box T)
theorem sc__law_take : FnScope ["box", "many", "cell", "digit", "step"] ["box", "many"] (defScope s__law_take) := ⟨rfl, rfl, rfl, by decide +kernel, rfl, by decide +kernel, by decide +kernel⟩
def b__law_take : DS :=
  (sSeq (sIf (tAnd' (tB' (eBin vEq (eBin vIx (eVar 0) (eC (.int 2))) (eC (.int 0)))) (tB' (eBin vLt (eBin vIx (eVar 0) (eC (.int 1))) (eFn vLen (aCons (eBin vIx (eVar 0) (eC (.int 0))) aNil))))) (sSeq (sAsg (eBin vIx (eBin vIx (eVar 0) (eC (.int 0))) (eBin vIx (eVar 0) (eC (.int 1)))) (gN 2))
    (sSeq (sSetIx (eBin vAdd (eBin vIx (eVar 0) (eC (.int 1))) (eC (.int 1))) (eVar 0) (eC (.int 1)))
    (sSeq (sSetIx (eBin vMod (eFn vInt (aCons (eBin vAdd (eBin vAdd (eBin vMul (eBin vIx (eVar 0) (eC (.int 3))) (eC (.int 48271))) (eBin vMul (eBin vMod (eFn vInt (aCons (eVar 2) aNil)) (eC (.int 2147483399))) (eC (.int 7)))) (eC (.int 13))) aNil)) (eC (.int 2147483587))) (eVar 0) (eC (.int 3)))
    (sIf (tB' (eBin vGe (eFn vAbs (aCons (eVar 2) aNil)) (eBin vPow (eC (.int 10)) (eC (.int 18))))) (sSetIx (eFn vAbs (aCons (eVar 2) aNil)) (eVar 0) (eC (.int 2))) sNop)))) sNop)
    (sSeq (sIf (tB' (eBin vGt (eBin vIx (eVar 0) (eC (.int 2))) (eC (.int 0)))) (sSeq (sAsg (eBin vMod (eFn vInt (aCons (eBin vIx (eVar 0) (eC (.int 2))) aNil)) (eVar 1)) (gN 3))
    (sSeq (sSetIx (eBin vDiv (eFn vInt (aCons (eBin vIx (eVar 0) (eC (.int 2))) aNil)) (eVar 1)) (eVar 0) (eC (.int 2)))
    (sRet (eVar 3)))) sNop)
    (sSeq (sSetIx (eBin vAdd (eBin vIx (eVar 0) (eC (.int 4))) (eC (.int 1))) (eVar 0) (eC (.int 4)))
    (sSeq (sAsg (eBin vMod (eFn vInt (aCons (eBin vAdd (eBin vIx (eVar 0) (eC (.int 3))) (eBin vMul (eBin vIx (eVar 0) (eC (.int 4))) (eC (.int 6007)))) aNil)) (eC (.int 2147483587))) (gN 4))
    (sSeq (sSetIx (eBin vMod (eFn vInt (aCons (eBin vAdd (eBin vAdd (eBin vPow (eVar 4) (eC (.int 3))) (eBin vMul (eC (.int 30011)) (eVar 4))) (eC (.int 977))) aNil)) (eC (.int 2147483587))) (eVar 0) (eC (.int 3)))
    (sRet (eBin vMod (eFn vInt (aCons (eBin vAdd (eBin vDiv (eBin vIx (eVar 0) (eC (.int 3))) (eC (.int 59))) (eBin vMul (eBin vMod (eFn vInt (aCons (eBin vIx (eVar 0) (eC (.int 3))) aNil)) (eC (.int 7919))) (eC (.int 37)))) aNil)) (eVar 1))))))))
def f__law_take : Fn := runF .fz 2 5 b__law_take
theorem ar__law_take : Ar f__law_take 2 := ar_run
theorem fd__law_take (T : Hd fa fn K mg) : ∃ fd, FunD (gK K).K "_law_take" "_law_take" (defArgs s__law_take) (defBody s__law_take) (defScope s__law_take) [] [] (He.ga K "_law_take") fd := T.def_ 11
theorem fb__law_take (T : Hd fa fn K mg) (cdv : Value) (A : Around) (outer : List Env) (s : Shared) (H : Hp) (E : XK) (hr : Room 0 (A.deeper (envOfC "_law_take" (defScope s__law_take) s.heap.objs.size (He.ga K "_law_take") cdv))) : GSs (gK K) (WF E) (cxOf (L2.CX P w) P w (gK K).K mg base ["box", "many", "cell", "digit", "step"] "_law_take" (defScope s__law_take) (He.ga K "_law_take") cdv A outer s H E) (defBody s__law_take) b__law_take := by
  have nd := sc__law_take.nd
  have tk := tk_of (P := P) (w := w) (K := (gK K).K) (mg := mg) (base := base) (N := ["box", "many", "cell", "digit", "step"]) (qual := "_law_take") (scope := defScope s__law_take) (f := He.ga K "_law_take") (cdv := cdv) (A := A) (outer := outer) (s := s) (H := H) (E := E)
  have hu := hu64 hr
  have hu5 := hu65 hr
  exact (gss_cons (gs_if (PW.pt (gw_and (gt_cmp (opEq ⟨rfl⟩ hu) (ge_ix (ixAny ⟨rfl⟩) (ge_var (pv 0)) (ge_c pe_int)) (ge_c pe_int) (nomark _)) (gw_and1 (gt_cmp opLt (ge_ix (ixAny ⟨rfl⟩) (ge_var (pv 0)) (ge_c pe_int)) (ge_callB (cLen ⟨rfl⟩) rfl (T.free 6) (by decide +kernel) (ga_cons (ge_ix (ixAny ⟨rfl⟩) (ge_var (pv 0)) (ge_c pe_int)) ga_nil)) (nomark _))))) (gss_cons (gs_asg (ge_ix (ixAny ⟨rfl⟩) (ge_ix (ixAny ⟨rfl⟩) (ge_var (pv 0)) (ge_c pe_int)) (ge_ix (ixAny ⟨rfl⟩) (ge_var (pv 0)) (ge_c pe_int))) (gg_name (pg_name (i := 2) nd rfl (Or.inl rfl))))
    (gss_cons (gs_setIx (ge_bin (opAdd ⟨rfl⟩) (ge_ix (ixAny ⟨rfl⟩) (ge_var (pv 0)) (ge_c pe_int)) (ge_c pe_int)) (ge_var (pv 0)) (ge_c pe_int))
    (gss_cons (gs_setIx (ge_bin opMod (ge_callTy cInt rfl (T.free 0) (by decide +kernel) (ga_cons (ge_bin (opAdd ⟨rfl⟩) (ge_bin (opAdd ⟨rfl⟩) (ge_bin opMul (ge_ix (ixAny ⟨rfl⟩) (ge_var (pv 0)) (ge_c pe_int)) (ge_c pe_int)) (ge_bin opMul (ge_bin opMod (ge_callTy cInt rfl (T.free 0) (by decide +kernel) (ga_cons (ge_var (pv 2)) ga_nil)) (ge_c pe_int)) (ge_c pe_int))) (ge_c pe_int)) ga_nil)) (ge_c pe_int)) (ge_var (pv 0)) (ge_c pe_int))
    (gss_one (gs_if (gt_cmp opGe (ge_callB cAbs rfl (T.free 23) (by decide +kernel) (ga_cons (ge_var (pv 2)) ga_nil)) (ge_bin opPow (ge_c pe_int) (ge_c pe_int)) (nomark _)) (gss_one (gs_setIx (ge_callB cAbs rfl (T.free 23) (by decide +kernel) (ga_cons (ge_var (pv 2)) ga_nil)) (ge_var (pv 0)) (ge_c pe_int))) gss_nil))))) gss_nil)
    (gss_cons (gs_if (gt_cmp opGt (ge_ix (ixAny ⟨rfl⟩) (ge_var (pv 0)) (ge_c pe_int)) (ge_c pe_int) (nomark _)) (gss_cons (gs_asg (ge_bin opMod (ge_callTy cInt rfl (T.free 0) (by decide +kernel) (ga_cons (ge_ix (ixAny ⟨rfl⟩) (ge_var (pv 0)) (ge_c pe_int)) ga_nil)) (ge_var (pv 1))) (gg_name (pg_name (i := 3) nd rfl (Or.inl rfl))))
    (gss_cons (gs_setIx (ge_bin opDiv (ge_callTy cInt rfl (T.free 0) (by decide +kernel) (ga_cons (ge_ix (ixAny ⟨rfl⟩) (ge_var (pv 0)) (ge_c pe_int)) ga_nil)) (ge_var (pv 1))) (ge_var (pv 0)) (ge_c pe_int))
    (gss_one (gs_ret (ge_var (pv 3)))))) gss_nil)
    (gss_cons (gs_setIx (ge_bin (opAdd ⟨rfl⟩) (ge_ix (ixAny ⟨rfl⟩) (ge_var (pv 0)) (ge_c pe_int)) (ge_c pe_int)) (ge_var (pv 0)) (ge_c pe_int))
    (gss_cons (gs_asg (ge_bin opMod (ge_callTy cInt rfl (T.free 0) (by decide +kernel) (ga_cons (ge_bin (opAdd ⟨rfl⟩) (ge_ix (ixAny ⟨rfl⟩) (ge_var (pv 0)) (ge_c pe_int)) (ge_bin opMul (ge_ix (ixAny ⟨rfl⟩) (ge_var (pv 0)) (ge_c pe_int)) (ge_c pe_int))) ga_nil)) (ge_c pe_int)) (gg_name (pg_name (i := 4) nd rfl (Or.inl rfl))))
    (gss_cons (gs_setIx (ge_bin opMod (ge_callTy cInt rfl (T.free 0) (by decide +kernel) (ga_cons (ge_bin (opAdd ⟨rfl⟩) (ge_bin (opAdd ⟨rfl⟩) (ge_bin opPow (ge_var (pv 4)) (ge_c pe_int)) (ge_bin opMul (ge_c pe_int) (ge_var (pv 4)))) (ge_c pe_int)) ga_nil)) (ge_c pe_int)) (ge_var (pv 0)) (ge_c pe_int))
    (gss_one (gs_ret (ge_bin opMod (ge_callTy cInt rfl (T.free 0) (by decide +kernel) (ga_cons (ge_bin (opAdd ⟨rfl⟩) (ge_bin opDiv (ge_ix (ixAny ⟨rfl⟩) (ge_var (pv 0)) (ge_c pe_int)) (ge_c pe_int)) (ge_bin opMul (ge_bin opMod (ge_callTy cInt rfl (T.free 0) (by decide +kernel) (ga_cons (ge_ix (ixAny ⟨rfl⟩) (ge_var (pv 0)) (ge_c pe_int)) ga_nil)) (ge_c pe_int)) (ge_c pe_int))) ga_nil)) (ge_var (pv 1))))))))))
theorem fg__law_take (T : Hd fa fn K mg) : FnG P w (gK K) mg base 1 "_law_take" s__law_take ["box", "many"] [] f__law_take := fg_of (T.glo 24) (fd__law_take T) sc__law_take (fb__law_take T)
theorem sc__law_pick : FnScope ["box", "some"] ["box", "some"] (defScope s__law_pick) := ⟨rfl, rfl, rfl, by decide +kernel, rfl, by decide +kernel, by decide +kernel⟩
def b__law_pick : DS :=
  (sRet (eBin vIx (eVar 1) (eCall f__law_take (aCons (eVar 0) (aCons (eFn vLen (aCons (eVar 1) aNil)) aNil)))))
def f__law_pick : Fn := runF .fz 2 2 b__law_pick
theorem ar__law_pick : Ar f__law_pick 2 := ar_run
theorem fd__law_pick (T : Hd fa fn K mg) : ∃ fd, FunD (gK K).K "_law_pick" "_law_pick" (defArgs s__law_pick) (defBody s__law_pick) (defScope s__law_pick) [] [] (He.ga K "_law_pick") fd := T.def_ 12
theorem fb__law_pick (T : Hd fa fn K mg) (cdv : Value) (A : Around) (outer : List Env) (s : Shared) (H : Hp) (E : XK) (hr : Room 1 (A.deeper (envOfC "_law_pick" (defScope s__law_pick) s.heap.objs.size (He.ga K "_law_pick") cdv))) : GSs (gK K) (WF E) (cxOf (L2.CX P w) P w (gK K).K mg base ["box", "some"] "_law_pick" (defScope s__law_pick) (He.ga K "_law_pick") cdv A outer s H E) (defBody s__law_pick) b__law_pick := by
  have nd := sc__law_pick.nd
  have tk := tk_of (P := P) (w := w) (K := (gK K).K) (mg := mg) (base := base) (N := ["box", "some"]) (qual := "_law_pick") (scope := defScope s__law_pick) (f := He.ga K "_law_pick") (cdv := cdv) (A := A) (outer := outer) (s := s) (H := H) (E := E)
  have hu := hu64 hr
  have hu5 := hu65 hr
  exact (gss_one (gs_ret (ge_ix (ixAny ⟨rfl⟩) (ge_var (pv 1)) (ge_call (fg__law_take T) rfl ar__law_take (hr.mono (by decide)) rfl tk (ga_cons (ge_var (pv 0)) (ga_cons (ge_callB (cLen ⟨rfl⟩) rfl (T.free 6) (by decide +kernel) (ga_cons (ge_var (pv 1)) ga_nil)) ga_nil)) rfl (fun _ _ _ _ _ _ us hl => match us, hl with | [_, _], _ => rfl)))))
theorem fg__law_pick (T : Hd fa fn K mg) : FnG P w (gK K) mg base 2 "_law_pick" s__law_pick ["box", "some"] [] f__law_pick := fg_of (T.glo 25) (fd__law_pick T) sc__law_pick (fb__law_pick T)
theorem sc__law_mixed : FnScope ["box", "some", "found", "thing_z"] ["box", "some"] (defScope s__law_mixed) := ⟨rfl, rfl, rfl, by decide +kernel, rfl, by decide +kernel, by decide +kernel⟩
def b__law_mixed : DS :=
  (sSeq (sAsg (eLstC aNil) (gN 2))
    (sSeq (sFor (iSeq (eVar 1)) (gN 3) (sExpr (eBm "list" mInsert (eVar 2) (aCons (eCall f__law_take (aCons (eVar 0) (aCons (eBin vAdd (eFn vLen (aCons (eVar 2) aNil)) (eC (.int 1))) aNil))) (aCons (eVar 3) aNil)))))
    (sRet (eVar 2))))
def f__law_mixed : Fn := runF .fz 2 4 b__law_mixed
theorem ar__law_mixed : Ar f__law_mixed 2 := ar_run
theorem fd__law_mixed (T : Hd fa fn K mg) : ∃ fd, FunD (gK K).K "_law_mixed" "_law_mixed" (defArgs s__law_mixed) (defBody s__law_mixed) (defScope s__law_mixed) [] [] (He.ga K "_law_mixed") fd := T.def_ 13
theorem fb__law_mixed (T : Hd fa fn K mg) (cdv : Value) (A : Around) (outer : List Env) (s : Shared) (H : Hp) (E : XK) (hr : Room 1 (A.deeper (envOfC "_law_mixed" (defScope s__law_mixed) s.heap.objs.size (He.ga K "_law_mixed") cdv))) : GSs (gK K) (WF E) (cxOf (L2.CX P w) P w (gK K).K mg base ["box", "some", "found", "thing_z"] "_law_mixed" (defScope s__law_mixed) (He.ga K "_law_mixed") cdv A outer s H E) (defBody s__law_mixed) b__law_mixed := by
  have nd := sc__law_mixed.nd
  have tk := tk_of (P := P) (w := w) (K := (gK K).K) (mg := mg) (base := base) (N := ["box", "some", "found", "thing_z"]) (qual := "_law_mixed") (scope := defScope s__law_mixed) (f := He.ga K "_law_mixed") (cdv := cdv) (A := A) (outer := outer) (s := s) (H := H) (E := E)
  have hu := hu64 hr
  have hu5 := hu65 hr
  exact (gss_cons (gs_asg (ge_lstC ga_nil) (gg_name (pg_name (i := 2) nd rfl (Or.inl rfl))))
    (gss_cons (gs_for po_of rfl (gi_seq ⟨rfl⟩ (ge_var (pv 1))) (gg_name (pg_name (i := 3) nd rfl (Or.inl rfl))) (gss_one (gs_expr (ge_bm (name' := "") ⟨rfl⟩ PySem.F.plainAttrs_list PySem.F.slot_list_insert PySem.F.type_list_insert mtInsert (ge_var (pv 2)) (ga_cons (ge_call (fg__law_take T) rfl ar__law_take (hr.mono (by decide)) rfl tk (ga_cons (ge_var (pv 0)) (ga_cons (ge_bin (opAdd ⟨rfl⟩) (ge_callB (cLen ⟨rfl⟩) rfl (T.free 6) (by decide +kernel) (ga_cons (ge_var (pv 2)) ga_nil)) (ge_c pe_int)) ga_nil)) rfl (fun _ _ _ _ _ _ us hl => match us, hl with | [_, _], _ => rfl)) (ga_cons (ge_var (pv 3)) ga_nil))))))
    (gss_one (gs_ret (ge_var (pv 2))))))
theorem fg__law_mixed (T : Hd fa fn K mg) : FnG P w (gK K) mg base 2 "_law_mixed" s__law_mixed ["box", "some"] [] f__law_mixed := fg_of (T.glo 26) (fd__law_mixed T) sc__law_mixed (fb__law_mixed T)
theorem sc__law_same : FnScope ["found", "due", "kinds", "k", "x"] ["found", "due"] (defScope s__law_same) := ⟨rfl, rfl, rfl, by decide +kernel, rfl, by decide +kernel, by decide +kernel⟩
def b__law_same (F : Fn) : DS :=
  (sSeq (sIf (tB' (eFn vIsi (aCons (eVar 1) (aCons (eTup (aCons (eC (.ty .lst)) (aCons (eC (.ty .tup)) aNil))) aNil)))) (sSeq (sIf (tOr' (tB' (eBin vNe (eFn vIsi (aCons (eVar 0) (aCons (eC (.ty .lst)) aNil))) (eFn vIsi (aCons (eVar 1) (aCons (eC (.ty .lst)) aNil))))) (tB' (eBin vNe (eFn vIsi (aCons (eVar 0) (aCons (eC (.ty .tup)) aNil))) (eFn vIsi (aCons (eVar 1) (aCons (eC (.ty .tup)) aNil)))))) (sRet (eC (.bl false))) sNop)
    (sRet (eAnd (eBin vEq (eFn vLen (aCons (eVar 0) aNil)) (eFn vLen (aCons (eVar 1) aNil))) (eFn vAll (aCons (eLc (iRng1' (aCons (eFn vLen (aCons (eVar 1) aNil)) aNil)) (gN 3) tYes' (eCall F (aCons (eBin vIx (eVar 0) (eVar 3)) (aCons (eBin vIx (eVar 1) (eVar 3)) aNil))) [3]) aNil))))) sNop)
    (sSeq (sAsg (eLc (iSeq (eTup (aCons (eVar 0) (aCons (eVar 1) aNil)))) (gN 4) tYes' (eLst (aCons (eFn vIsi (aCons (eVar 4) (aCons (eC (.ty .bl)) aNil))) (aCons (eFn vIsi (aCons (eVar 4) (aCons (eC (.ty .int)) aNil))) (aCons (eFn vIsi (aCons (eVar 4) (aCons (eC (.ty .str)) aNil))) (aCons (eFn vIsi (aCons (eVar 4) (aCons (eC (.ty .dct)) aNil))) (aCons (eBin vIs (eVar 4) (eC .non)) aNil)))))) [4]) (gN 2))
    (sRet (eAnd (eBin vEq (eBin vIx (eVar 2) (eC (.int 0))) (eBin vIx (eVar 2) (eC (.int 1)))) (eAnd (eNot (eFn vIsi (aCons (eVar 0) (aCons (eTup (aCons (eC (.ty .lst)) (aCons (eC (.ty .tup)) aNil))) aNil)))) (eBin vEq (eVar 0) (eVar 1)))))))
def f__law_same : Nat → Fn
  | 0 => fun _ _ => .stuck
  | k + 1 => runF .fz 2 5 (b__law_same (f__law_same k))
theorem ar__law_same : ∀ k, Ar (f__law_same k) 2
  | 0 => ar_stuck
  | _ + 1 => ar_run
theorem fd__law_same (T : Hd fa fn K mg) : ∃ fd, FunD (gK K).K "_law_same" "_law_same" (defArgs s__law_same) (defBody s__law_same) (defScope s__law_same) [] [] (He.ga K "_law_same") fd := T.def_ 14
theorem fg__law_same (T : Hd fa fn K mg) : ∀ k : Nat, FnG P w (gK K) mg base (0 + k) "_law_same" s__law_same ["found", "due"] [] (f__law_same k)
  | 0 => fg_stuck (T.glo 30) (fd__law_same T)
  | k + 1 => by
    have FG : FnG P w (gK K) mg base (0 + k) "_law_same" s__law_same ["found", "due"] [] (f__law_same k) := fg__law_same T k
    have AR := ar__law_same k
    refine fg_of (T.glo 30) (fd__law_same T) sc__law_same (fun cdv A outer s H E hr => ?_)
    have nd := sc__law_same.nd
    have tk := tk_of (P := P) (w := w) (K := (gK K).K) (mg := mg) (base := base) (N := ["found", "due", "kinds", "k", "x"]) (qual := "_law_same") (scope := defScope s__law_same) (f := He.ga K "_law_same") (cdv := cdv) (A := A) (outer := outer) (s := s) (H := H) (E := E)
    have hu := hu64 hr
    have hu5 := hu65 hr
    exact (gss_cons (gs_if (gt_val (ge_callB (cIsi ⟨rfl⟩) rfl (T.free 1) (by decide +kernel) (ga_cons (ge_var (pv 1)) (ga_cons (ge_tup (ga_cons (ge_ty .lst (T.free 27) rfl (by decide +kernel)) (ga_cons (ge_ty .tup (T.free 5) rfl (by decide +kernel)) ga_nil))) ga_nil)))) (gss_cons (gs_if (PW.pt (gw_or (gt_cmp (opNe ⟨rfl⟩ hu) (ge_callB (cIsi ⟨rfl⟩) rfl (T.free 1) (by decide +kernel) (ga_cons (ge_var (pv 0)) (ga_cons (ge_ty .lst (T.free 27) rfl (by decide +kernel)) ga_nil))) (ge_callB (cIsi ⟨rfl⟩) rfl (T.free 1) (by decide +kernel) (ga_cons (ge_var (pv 1)) (ga_cons (ge_ty .lst (T.free 27) rfl (by decide +kernel)) ga_nil))) (nomark _)) (gw_or1 (gt_cmp (opNe ⟨rfl⟩ hu) (ge_callB (cIsi ⟨rfl⟩) rfl (T.free 1) (by decide +kernel) (ga_cons (ge_var (pv 0)) (ga_cons (ge_ty .tup (T.free 5) rfl (by decide +kernel)) ga_nil))) (ge_callB (cIsi ⟨rfl⟩) rfl (T.free 1) (by decide +kernel) (ga_cons (ge_var (pv 1)) (ga_cons (ge_ty .tup (T.free 5) rfl (by decide +kernel)) ga_nil))) (nomark _))))) (gss_one (gs_ret (ge_c pe_bl))) gss_nil)
    (gss_one (gs_ret (ge_and (ge_cmp (opEq ⟨rfl⟩ hu) (ge_callB (cLen ⟨rfl⟩) rfl (T.free 6) (by decide +kernel) (ga_cons (ge_var (pv 0)) ga_nil)) (ge_callB (cLen ⟨rfl⟩) rfl (T.free 6) (by decide +kernel) (ga_cons (ge_var (pv 1)) ga_nil)) (nomark _)) (ge_one (ge_callB (cAll ⟨rfl⟩ rfl) rfl (T.free 14) (by decide +kernel) (ga_cons (ge_lc (own := [("k", 3)]) (N := ["found", "due", "kinds", "k", "x"]) (sc := defScope s__law_same) rfl nd (gi_rng1 rfl (T.free 15) (ga_cons (ge_callB (cLen ⟨rfl⟩) rfl (T.free 6) (by decide +kernel) (ga_cons (ge_var (pv 1)) ga_nil)) ga_nil)) rfl rfl (by decide +kernel) (fun _ _ _ _ _ => (gg_name (pg_name (i := 3) nd rfl (Or.inl rfl)))) (fun _ _ _ _ _ => gts_nil) (fun _ _ _ _ _ => (ge_call FG rfl AR hr rfl takes0 (ga_cons (ge_ix (ixAny ⟨rfl⟩) (ge_var (pv 0)) (ge_var (pv 3))) (ga_cons (ge_ix (ixAny ⟨rfl⟩) (ge_var (pv 1)) (ge_var (pv 3))) ga_nil)) rfl (fun _ _ _ _ _ _ us hl => match us, hl with | [_, _], _ => rfl)))) ga_nil))))))) gss_nil)
    (gss_cons (gs_setLc (own := [("x", 4)]) (N := ["found", "due", "kinds", "k", "x"]) (sc := defScope s__law_same) (i := 2) rfl nd rfl rfl (sw_true rfl rfl rfl (by decide +kernel)) (gi_seq ⟨rfl⟩ (ge_tup (ga_cons (ge_var (pv 0)) (ga_cons (ge_var (pv 1)) ga_nil)))) rfl rfl (by decide +kernel) (fun _ _ _ _ _ => (gg_name (pg_name (i := 4) nd rfl (Or.inl rfl)))) (fun _ _ _ _ _ => gts_nil) (fun _ _ _ _ _ => (ge_lst (ga_cons (ge_callB (cIsi ⟨rfl⟩) rfl (T.free 1) (by decide +kernel) (ga_cons (ge_var (pv 4)) (ga_cons (ge_ty .bl (T.free 2) rfl (by decide +kernel)) ga_nil))) (ga_cons (ge_callB (cIsi ⟨rfl⟩) rfl (T.free 1) (by decide +kernel) (ga_cons (ge_var (pv 4)) (ga_cons (ge_ty .int (T.free 0) rfl (by decide +kernel)) ga_nil))) (ga_cons (ge_callB (cIsi ⟨rfl⟩) rfl (T.free 1) (by decide +kernel) (ga_cons (ge_var (pv 4)) (ga_cons (ge_ty .str (T.free 28) rfl (by decide +kernel)) ga_nil))) (ga_cons (ge_callB (cIsi ⟨rfl⟩) rfl (T.free 1) (by decide +kernel) (ga_cons (ge_var (pv 4)) (ga_cons (ge_ty .dct (T.free 29) rfl (by decide +kernel)) ga_nil))) (ga_cons (ge_cmp opIs (ge_var (pv 4)) (ge_c pe_non) (nomark _)) ga_nil))))))))
    (gss_one (gs_ret (ge_and (ge_cmp (opEq ⟨rfl⟩ hu) (ge_ix (ixAny ⟨rfl⟩) (ge_var (pv 2)) (ge_c pe_int)) (ge_ix (ixAny ⟨rfl⟩) (ge_var (pv 2)) (ge_c pe_int)) (nomark _)) (ge_and (ge_not (ge_callB (cIsi ⟨rfl⟩) rfl (T.free 1) (by decide +kernel) (ga_cons (ge_var (pv 0)) (ga_cons (ge_tup (ga_cons (ge_ty .lst (T.free 27) rfl (by decide +kernel)) (ga_cons (ge_ty .tup (T.free 5) rfl (by decide +kernel)) ga_nil))) ga_nil)))) (ge_one (ge_cmp (opEq ⟨rfl⟩ hu) (ge_var (pv 0)) (ge_var (pv 1)) (nomark _)))))))))
theorem sc__law_odd : FnScope ["box"] ["box"] (defScope s__law_odd) := ⟨rfl, rfl, rfl, by decide +kernel, rfl, by decide +kernel, by decide +kernel⟩
def b__law_odd : DS :=
  (sRet (eCall f__law_pick (aCons (eVar 0) (aCons (eLst (aCons (eC .non) (aCons (eC (.bl true)) (aCons (eC (.bl false)) (aCons (eC (.int 0)) (aCons (eUn vNeg (eC (.int 1))) (aCons (eC (.int 5)) (aCons (eC (.str "")) (aCons (eC (.str "A")) (aCons (eC (.str "ab1")) (aCons (eC (.str "abcdefg")) (aCons (eC (.str "a b")) (aCons (eC (.str "a\n")) (aCons (eTup aNil) (aCons (eLst aNil) (aCons eDct0 (aCons (eTup (aCons (eC (.str "a")) aNil)) (aCons (eLst (aCons (eC (.str "a")) aNil)) (aCons (eDct [((eC (.str "a")), (eC (.int 1)))]) (aCons (eTup (aCons (eC (.int 1)) (aCons (eC (.int 2)) aNil))) (aCons (eLst (aCons (eC (.int 0)) aNil)) (aCons (eTup (aCons (eC .non) aNil)) (aCons (eTup (aCons (eTup (aCons (eC (.int 0)) (aCons (eC (.int 0)) aNil))) (aCons (eTup (aCons (eC (.int 1)) (aCons (eC (.int 0)) aNil))) aNil))) aNil))))))))))))))))))))))) aNil))))
def f__law_odd : Fn := runF .fz 1 1 b__law_odd
theorem ar__law_odd : Ar f__law_odd 1 := ar_run
theorem fd__law_odd (T : Hd fa fn K mg) : ∃ fd, FunD (gK K).K "_law_odd" "_law_odd" (defArgs s__law_odd) (defBody s__law_odd) (defScope s__law_odd) [] [] (He.ga K "_law_odd") fd := T.def_ 15
theorem fb__law_odd (T : Hd fa fn K mg) (cdv : Value) (A : Around) (outer : List Env) (s : Shared) (H : Hp) (E : XK) (hr : Room 2 (A.deeper (envOfC "_law_odd" (defScope s__law_odd) s.heap.objs.size (He.ga K "_law_odd") cdv))) : GSs (gK K) (WF E) (cxOf (L2.CX P w) P w (gK K).K mg base ["box"] "_law_odd" (defScope s__law_odd) (He.ga K "_law_odd") cdv A outer s H E) (defBody s__law_odd) b__law_odd := by
  have nd := sc__law_odd.nd
  have tk := tk_of (P := P) (w := w) (K := (gK K).K) (mg := mg) (base := base) (N := ["box"]) (qual := "_law_odd") (scope := defScope s__law_odd) (f := He.ga K "_law_odd") (cdv := cdv) (A := A) (outer := outer) (s := s) (H := H) (E := E)
  have hu := hu64 hr
  have hu5 := hu65 hr
  exact (gss_one (gs_ret (ge_call (fg__law_pick T) rfl ar__law_pick (hr.mono (by decide)) rfl tk (ga_cons (ge_var (pv 0)) (ga_cons (ge_lst (ga_cons (ge_c pe_non) (ga_cons (ge_c pe_bl) (ga_cons (ge_c pe_bl) (ga_cons (ge_c pe_int) (ga_cons (ge_un unNeg (ge_c pe_int)) (ga_cons (ge_c pe_int) (ga_cons (ge_c pe_str) (ga_cons (ge_c pe_str) (ga_cons (ge_c pe_str) (ga_cons (ge_c pe_str) (ga_cons (ge_c pe_str) (ga_cons (ge_c pe_str) (ga_cons (ge_tup ga_nil) (ga_cons (ge_lst ga_nil) (ga_cons ge_dct0 (ga_cons (ge_tup (ga_cons (ge_c pe_str) ga_nil)) (ga_cons (ge_lst (ga_cons (ge_c pe_str) ga_nil)) (ga_cons (ge_dct (gps_cons (ge_c pe_str) (ge_c pe_int) gps_nil) (by simp) (by decide)) (ga_cons (ge_tup (ga_cons (ge_c pe_int) (ga_cons (ge_c pe_int) ga_nil))) (ga_cons (ge_lst (ga_cons (ge_c pe_int) ga_nil)) (ga_cons (ge_tup (ga_cons (ge_c pe_non) ga_nil)) (ga_cons (ge_tup (ga_cons (ge_tup (ga_cons (ge_c pe_int) (ga_cons (ge_c pe_int) ga_nil))) (ga_cons (ge_tup (ga_cons (ge_c pe_int) (ga_cons (ge_c pe_int) ga_nil))) ga_nil))) ga_nil))))))))))))))))))))))) ga_nil)) rfl (fun _ _ _ _ _ _ us hl => match us, hl with | [_, _], _ => rfl))))
theorem fg__law_odd (T : Hd fa fn K mg) : FnG P w (gK K) mg base 3 "_law_odd" s__law_odd ["box"] [] f__law_odd := fg_of (T.glo 31) (fd__law_odd T) sc__law_odd (fb__law_odd T)
theorem sc__law_cross : FnScope ["one_z", "two_z"] ["one_z", "two_z"] (defScope s__law_cross) := ⟨rfl, rfl, rfl, by decide +kernel, rfl, by decide +kernel, by decide +kernel⟩
def b__law_cross : DS :=
  (sRet (eBin vSub (eBin vMul (eBin vIx (eVar 0) (eC (.int 0))) (eBin vIx (eVar 1) (eC (.int 1)))) (eBin vMul (eBin vIx (eVar 0) (eC (.int 1))) (eBin vIx (eVar 1) (eC (.int 0))))))
def f__law_cross : Fn := runF .fz 2 2 b__law_cross
theorem ar__law_cross : Ar f__law_cross 2 := ar_run
theorem fd__law_cross (T : Hd fa fn K mg) : ∃ fd, FunD (gK K).K "_law_cross" "_law_cross" (defArgs s__law_cross) (defBody s__law_cross) (defScope s__law_cross) [] [] (He.ga K "_law_cross") fd := T.def_ 16
theorem fb__law_cross (T : Hd fa fn K mg) (cdv : Value) (A : Around) (outer : List Env) (s : Shared) (H : Hp) (E : XK) (hr : Room 0 (A.deeper (envOfC "_law_cross" (defScope s__law_cross) s.heap.objs.size (He.ga K "_law_cross") cdv))) : GSs (gK K) (WF E) (cxOf (L2.CX P w) P w (gK K).K mg base ["one_z", "two_z"] "_law_cross" (defScope s__law_cross) (He.ga K "_law_cross") cdv A outer s H E) (defBody s__law_cross) b__law_cross := by
  have nd := sc__law_cross.nd
  have tk := tk_of (P := P) (w := w) (K := (gK K).K) (mg := mg) (base := base) (N := ["one_z", "two_z"]) (qual := "_law_cross") (scope := defScope s__law_cross) (f := He.ga K "_law_cross") (cdv := cdv) (A := A) (outer := outer) (s := s) (H := H) (E := E)
  have hu := hu64 hr
  have hu5 := hu65 hr
  exact (gss_one (gs_ret (ge_bin opSub (ge_bin opMul (ge_ix (ixAny ⟨rfl⟩) (ge_var (pv 0)) (ge_c pe_int)) (ge_ix (ixAny ⟨rfl⟩) (ge_var (pv 1)) (ge_c pe_int))) (ge_bin opMul (ge_ix (ixAny ⟨rfl⟩) (ge_var (pv 0)) (ge_c pe_int)) (ge_ix (ixAny ⟨rfl⟩) (ge_var (pv 1)) (ge_c pe_int))))))
theorem fg__law_cross (T : Hd fa fn K mg) : FnG P w (gK K) mg base 1 "_law_cross" s__law_cross ["one_z", "two_z"] [] f__law_cross := fg_of (T.glo 32) (fd__law_cross T) sc__law_cross (fb__law_cross T)
theorem sc__law_turn : FnScope ["a", "b", "c"] ["a", "b", "c"] (defScope s__law_turn) := ⟨rfl, rfl, rfl, by decide +kernel, rfl, by decide +kernel, by decide +kernel⟩
def b__law_turn : DS :=
  (sRet (eBin vSub (eBin vMul (eBin vSub (eBin vIx (eVar 1) (eC (.int 0))) (eBin vIx (eVar 0) (eC (.int 0)))) (eBin vSub (eBin vIx (eVar 2) (eC (.int 1))) (eBin vIx (eVar 0) (eC (.int 1))))) (eBin vMul (eBin vSub (eBin vIx (eVar 1) (eC (.int 1))) (eBin vIx (eVar 0) (eC (.int 1)))) (eBin vSub (eBin vIx (eVar 2) (eC (.int 0))) (eBin vIx (eVar 0) (eC (.int 0)))))))
def f__law_turn : Fn := runF .fz 3 3 b__law_turn
theorem ar__law_turn : Ar f__law_turn 3 := ar_run
theorem fd__law_turn (T : Hd fa fn K mg) : ∃ fd, FunD (gK K).K "_law_turn" "_law_turn" (defArgs s__law_turn) (defBody s__law_turn) (defScope s__law_turn) [] [] (He.ga K "_law_turn") fd := T.def_ 17
theorem fb__law_turn (T : Hd fa fn K mg) (cdv : Value) (A : Around) (outer : List Env) (s : Shared) (H : Hp) (E : XK) (hr : Room 0 (A.deeper (envOfC "_law_turn" (defScope s__law_turn) s.heap.objs.size (He.ga K "_law_turn") cdv))) : GSs (gK K) (WF E) (cxOf (L2.CX P w) P w (gK K).K mg base ["a", "b", "c"] "_law_turn" (defScope s__law_turn) (He.ga K "_law_turn") cdv A outer s H E) (defBody s__law_turn) b__law_turn := by
  have nd := sc__law_turn.nd
  have tk := tk_of (P := P) (w := w) (K := (gK K).K) (mg := mg) (base := base) (N := ["a", "b", "c"]) (qual := "_law_turn") (scope := defScope s__law_turn) (f := He.ga K "_law_turn") (cdv := cdv) (A := A) (outer := outer) (s := s) (H := H) (E := E)
  have hu := hu64 hr
  have hu5 := hu65 hr
  exact (gss_one (gs_ret (ge_bin opSub (ge_bin opMul (ge_bin opSub (ge_ix (ixAny ⟨rfl⟩) (ge_var (pv 1)) (ge_c pe_int)) (ge_ix (ixAny ⟨rfl⟩) (ge_var (pv 0)) (ge_c pe_int))) (ge_bin opSub (ge_ix (ixAny ⟨rfl⟩) (ge_var (pv 2)) (ge_c pe_int)) (ge_ix (ixAny ⟨rfl⟩) (ge_var (pv 0)) (ge_c pe_int)))) (ge_bin opMul (ge_bin opSub (ge_ix (ixAny ⟨rfl⟩) (ge_var (pv 1)) (ge_c pe_int)) (ge_ix (ixAny ⟨rfl⟩) (ge_var (pv 0)) (ge_c pe_int))) (ge_bin opSub (ge_ix (ixAny ⟨rfl⟩) (ge_var (pv 2)) (ge_c pe_int)) (ge_ix (ixAny ⟨rfl⟩) (ge_var (pv 0)) (ge_c pe_int)))))))
theorem fg__law_turn (T : Hd fa fn K mg) : FnG P w (gK K) mg base 1 "_law_turn" s__law_turn ["a", "b", "c"] [] f__law_turn := fg_of (T.glo 33) (fd__law_turn T) sc__law_turn (fb__law_turn T)
theorem sc__law_is_whole : FnScope ["x"] ["x"] (defScope s__law_is_whole) := ⟨rfl, rfl, rfl, by decide +kernel, rfl, by decide +kernel, by decide +kernel⟩
def b__law_is_whole : DS :=
  (sRet (eAnd (eFn vIsi (aCons (eVar 0) (aCons (eC (.ty .int)) aNil))) (eNot (eFn vIsi (aCons (eVar 0) (aCons (eC (.ty .bl)) aNil))))))
def f__law_is_whole : Fn := runF .fz 1 1 b__law_is_whole
theorem ar__law_is_whole : Ar f__law_is_whole 1 := ar_run
theorem fd__law_is_whole (T : Hd fa fn K mg) : ∃ fd, FunD (gK K).K "_law_is_whole" "_law_is_whole" (defArgs s__law_is_whole) (defBody s__law_is_whole) (defScope s__law_is_whole) [] [] (He.ga K "_law_is_whole") fd := T.def_ 18
theorem fb__law_is_whole (T : Hd fa fn K mg) (cdv : Value) (A : Around) (outer : List Env) (s : Shared) (H : Hp) (E : XK) (hr : Room 0 (A.deeper (envOfC "_law_is_whole" (defScope s__law_is_whole) s.heap.objs.size (He.ga K "_law_is_whole") cdv))) : GSs (gK K) (WF E) (cxOf (L2.CX P w) P w (gK K).K mg base ["x"] "_law_is_whole" (defScope s__law_is_whole) (He.ga K "_law_is_whole") cdv A outer s H E) (defBody s__law_is_whole) b__law_is_whole := by
  have nd := sc__law_is_whole.nd
  have tk := tk_of (P := P) (w := w) (K := (gK K).K) (mg := mg) (base := base) (N := ["x"]) (qual := "_law_is_whole") (scope := defScope s__law_is_whole) (f := He.ga K "_law_is_whole") (cdv := cdv) (A := A) (outer := outer) (s := s) (H := H) (E := E)
  have hu := hu64 hr
  have hu5 := hu65 hr
  exact (gss_one (gs_ret (ge_and (ge_callB (cIsi ⟨rfl⟩) rfl (T.free 1) (by decide +kernel) (ga_cons (ge_var (pv 0)) (ga_cons (ge_ty .int (T.free 0) rfl (by decide +kernel)) ga_nil))) (ge_one (ge_not (ge_callB (cIsi ⟨rfl⟩) rfl (T.free 1) (by decide +kernel) (ga_cons (ge_var (pv 0)) (ga_cons (ge_ty .bl (T.free 2) rfl (by decide +kernel)) ga_nil))))))))
theorem fg__law_is_whole (T : Hd fa fn K mg) : FnG P w (gK K) mg base 1 "_law_is_whole" s__law_is_whole ["x"] [] f__law_is_whole := fg_of (T.glo 34) (fd__law_is_whole T) sc__law_is_whole (fb__law_is_whole T)
theorem sc__law_is_spot : FnScope ["x", "c"] ["x"] (defScope s__law_is_spot) := ⟨rfl, rfl, rfl, by decide +kernel, rfl, by decide +kernel, by decide +kernel⟩
def b__law_is_spot : DS :=
  (sRet (eAnd (eFn vIsi (aCons (eVar 0) (aCons (eC (.ty .tup)) aNil))) (eAnd (eBin vEq (eFn vLen (aCons (eVar 0) aNil)) (eC (.int 2))) (eFn vAll (aCons (eLc (iSeq (eVar 0)) (gN 1) tYes' (eAnd (eCall f__law_is_whole (aCons (eVar 1) aNil)) (eAnd (eBin vLe (eUn vNeg (eC (.int 200))) (eVar 1)) (eBin vLe (eVar 1) (eC (.int 200))))) [1]) aNil)))))
def f__law_is_spot : Fn := runF .fz 1 2 b__law_is_spot
theorem ar__law_is_spot : Ar f__law_is_spot 1 := ar_run
theorem fd__law_is_spot (T : Hd fa fn K mg) : ∃ fd, FunD (gK K).K "_law_is_spot" "_law_is_spot" (defArgs s__law_is_spot) (defBody s__law_is_spot) (defScope s__law_is_spot) [] [] (He.ga K "_law_is_spot") fd := T.def_ 19
theorem fb__law_is_spot (T : Hd fa fn K mg) (cdv : Value) (A : Around) (outer : List Env) (s : Shared) (H : Hp) (E : XK) (hr : Room 1 (A.deeper (envOfC "_law_is_spot" (defScope s__law_is_spot) s.heap.objs.size (He.ga K "_law_is_spot") cdv))) : GSs (gK K) (WF E) (cxOf (L2.CX P w) P w (gK K).K mg base ["x", "c"] "_law_is_spot" (defScope s__law_is_spot) (He.ga K "_law_is_spot") cdv A outer s H E) (defBody s__law_is_spot) b__law_is_spot := by
  have nd := sc__law_is_spot.nd
  have tk := tk_of (P := P) (w := w) (K := (gK K).K) (mg := mg) (base := base) (N := ["x", "c"]) (qual := "_law_is_spot") (scope := defScope s__law_is_spot) (f := He.ga K "_law_is_spot") (cdv := cdv) (A := A) (outer := outer) (s := s) (H := H) (E := E)
  have hu := hu64 hr
  have hu5 := hu65 hr
  exact (gss_one (gs_ret (ge_and (ge_callB (cIsi ⟨rfl⟩) rfl (T.free 1) (by decide +kernel) (ga_cons (ge_var (pv 0)) (ga_cons (ge_ty .tup (T.free 5) rfl (by decide +kernel)) ga_nil))) (ge_and (ge_cmp (opEq ⟨rfl⟩ hu) (ge_callB (cLen ⟨rfl⟩) rfl (T.free 6) (by decide +kernel) (ga_cons (ge_var (pv 0)) ga_nil)) (ge_c pe_int) (nomark _)) (ge_one (ge_callB (cAll ⟨rfl⟩ rfl) rfl (T.free 14) (by decide +kernel) (ga_cons (ge_lc (own := [("c", 1)]) (N := ["x", "c"]) (sc := defScope s__law_is_spot) rfl nd (gi_seq ⟨rfl⟩ (ge_var (pv 0))) rfl rfl (by decide +kernel) (fun _ _ _ _ _ => (gg_name (pg_name (i := 1) nd rfl (Or.inl rfl)))) (fun _ _ _ _ _ => gts_nil) (fun _ _ _ _ _ => (ge_and (ge_call (fg__law_is_whole T) rfl ar__law_is_whole (hr.mono (by decide)) rfl takes0 (ga_cons (ge_var (pv 1)) ga_nil) rfl (fun _ _ _ _ _ _ us hl => match us, hl with | [_], _ => rfl)) (ge_and (ge_cmp opLe (ge_un unNeg (ge_c pe_int)) (ge_var (pv 1)) (nomark _)) (ge_one (ge_cmp opLe (ge_var (pv 1)) (ge_c pe_int) (nomark _))))))) ga_nil)))))))
theorem fg__law_is_spot (T : Hd fa fn K mg) : FnG P w (gK K) mg base 2 "_law_is_spot" s__law_is_spot ["x"] [] f__law_is_spot := fg_of (T.glo 35) (fd__law_is_spot T) sc__law_is_spot (fb__law_is_spot T)
theorem sc__law_edges : FnScope ["poly", "k"] ["poly"] (defScope s__law_edges) := ⟨rfl, rfl, rfl, by decide +kernel, rfl, by decide +kernel, by decide +kernel⟩
def b__law_edges : DS :=
  (sRet (eLc (iRng1' (aCons (eFn vLen (aCons (eVar 0) aNil)) aNil)) (gN 1) tYes' (eTup (aCons (eBin vIx (eVar 0) (eVar 1)) (aCons (eBin vIx (eVar 0) (eBin vMod (eFn vInt (aCons (eBin vAdd (eVar 1) (eC (.int 1))) aNil)) (eFn vLen (aCons (eVar 0) aNil)))) aNil))) [1]))
def f__law_edges : Fn := runF .fz 1 2 b__law_edges
theorem ar__law_edges : Ar f__law_edges 1 := ar_run
theorem fd__law_edges (T : Hd fa fn K mg) : ∃ fd, FunD (gK K).K "_law_edges" "_law_edges" (defArgs s__law_edges) (defBody s__law_edges) (defScope s__law_edges) [] [] (He.ga K "_law_edges") fd := T.def_ 20
theorem fb__law_edges (T : Hd fa fn K mg) (cdv : Value) (A : Around) (outer : List Env) (s : Shared) (H : Hp) (E : XK) (hr : Room 0 (A.deeper (envOfC "_law_edges" (defScope s__law_edges) s.heap.objs.size (He.ga K "_law_edges") cdv))) : GSs (gK K) (WF E) (cxOf (L2.CX P w) P w (gK K).K mg base ["poly", "k"] "_law_edges" (defScope s__law_edges) (He.ga K "_law_edges") cdv A outer s H E) (defBody s__law_edges) b__law_edges := by
  have nd := sc__law_edges.nd
  have tk := tk_of (P := P) (w := w) (K := (gK K).K) (mg := mg) (base := base) (N := ["poly", "k"]) (qual := "_law_edges") (scope := defScope s__law_edges) (f := He.ga K "_law_edges") (cdv := cdv) (A := A) (outer := outer) (s := s) (H := H) (E := E)
  have hu := hu64 hr
  have hu5 := hu65 hr
  exact (gss_one (gs_ret (ge_lc (own := [("k", 1)]) (N := ["poly", "k"]) (sc := defScope s__law_edges) rfl nd (gi_rng1 rfl (T.free 15) (ga_cons (ge_callB (cLen ⟨rfl⟩) rfl (T.free 6) (by decide +kernel) (ga_cons (ge_var (pv 0)) ga_nil)) ga_nil)) rfl rfl (by decide +kernel) (fun _ _ _ _ _ => (gg_name (pg_name (i := 1) nd rfl (Or.inl rfl)))) (fun _ _ _ _ _ => gts_nil) (fun _ _ _ _ _ => (ge_tup (ga_cons (ge_ix (ixAny ⟨rfl⟩) (ge_var (pv 0)) (ge_var (pv 1))) (ga_cons (ge_ix (ixAny ⟨rfl⟩) (ge_var (pv 0)) (ge_bin opMod (ge_callTy cInt rfl (T.free 0) (by decide +kernel) (ga_cons (ge_bin (opAdd ⟨rfl⟩) (ge_var (pv 1)) (ge_c pe_int)) ga_nil)) (ge_callB (cLen ⟨rfl⟩) rfl (T.free 6) (by decide +kernel) (ga_cons (ge_var (pv 0)) ga_nil)))) ga_nil)))))))
theorem fg__law_edges (T : Hd fa fn K mg) : FnG P w (gK K) mg base 1 "_law_edges" s__law_edges ["poly"] [] f__law_edges := fg_of (T.glo 36) (fd__law_edges T) sc__law_edges (fb__law_edges T)
theorem sc__law_is_poly : FnScope ["x", "k", "ends", "c", "j"] ["x"] (defScope s__law_is_poly) := ⟨rfl, rfl, rfl, by decide +kernel, rfl, by decide +kernel, by decide +kernel⟩
def b__law_is_poly : DS :=
  (sSeq (sIf (tOr' (tNot' (tB' (eFn vIsi (aCons (eVar 0) (aCons (eC (.ty .tup)) aNil))))) (tOr' (tB' (eBin vLt (eFn vLen (aCons (eVar 0) aNil)) (eC (.int 3)))) (tOr' (tB' (eBin vGt (eFn vLen (aCons (eVar 0) aNil)) (eC (.int 6)))) (tNot' (tB' (eFn vAll (aCons (eLc (iSeq (eVar 0)) (gN 3) tYes' (eCall f__law_is_spot (aCons (eVar 3) aNil)) [3]) aNil))))))) (sRet (eC (.bl false))) sNop)
    (sSeq (sFor (iRng1' (aCons (eFn vLen (aCons (eVar 0) aNil)) aNil)) (gN 1) (sSeq (sAsg (eLst (aCons (eVar 1) (aCons (eBin vMod (eFn vInt (aCons (eBin vAdd (eVar 1) (eC (.int 1))) aNil)) (eFn vLen (aCons (eVar 0) aNil))) aNil))) (gN 2))
    (sIf (tNot' (tB' (eFn vAll (aCons (eLc (iRng1' (aCons (eFn vLen (aCons (eVar 0) aNil)) aNil)) (gN 4) (tB' (eBin vNotIn (eVar 4) (eVar 2))) (eBin vGt (eCall f__law_turn (aCons (eBin vIx (eVar 0) (eBin vIx (eVar 2) (eC (.int 0)))) (aCons (eBin vIx (eVar 0) (eBin vIx (eVar 2) (eC (.int 1)))) (aCons (eBin vIx (eVar 0) (eVar 4)) aNil)))) (eC (.int 0))) [4]) aNil)))) (sRet (eC (.bl false))) sNop)))
    (sRet (eC (.bl true)))))
def f__law_is_poly : Fn := runF .fz 1 5 b__law_is_poly
theorem ar__law_is_poly : Ar f__law_is_poly 1 := ar_run
theorem fd__law_is_poly (T : Hd fa fn K mg) : ∃ fd, FunD (gK K).K "_law_is_poly" "_law_is_poly" (defArgs s__law_is_poly) (defBody s__law_is_poly) (defScope s__law_is_poly) [] [] (He.ga K "_law_is_poly") fd := T.def_ 21
theorem fb__law_is_poly (T : Hd fa fn K mg) (cdv : Value) (A : Around) (outer : List Env) (s : Shared) (H : Hp) (E : XK) (hr : Room 2 (A.deeper (envOfC "_law_is_poly" (defScope s__law_is_poly) s.heap.objs.size (He.ga K "_law_is_poly") cdv))) : GSs (gK K) (WF E) (cxOf (L2.CX P w) P w (gK K).K mg base ["x", "k", "ends", "c", "j"] "_law_is_poly" (defScope s__law_is_poly) (He.ga K "_law_is_poly") cdv A outer s H E) (defBody s__law_is_poly) b__law_is_poly := by
  have nd := sc__law_is_poly.nd
  have tk := tk_of (P := P) (w := w) (K := (gK K).K) (mg := mg) (base := base) (N := ["x", "k", "ends", "c", "j"]) (qual := "_law_is_poly") (scope := defScope s__law_is_poly) (f := He.ga K "_law_is_poly") (cdv := cdv) (A := A) (outer := outer) (s := s) (H := H) (E := E)
  have hu := hu64 hr
  have hu5 := hu65 hr
  exact (gss_cons (gs_if (PW.pt (gw_or (gt_not (gt_val (ge_callB (cIsi ⟨rfl⟩) rfl (T.free 1) (by decide +kernel) (ga_cons (ge_var (pv 0)) (ga_cons (ge_ty .tup (T.free 5) rfl (by decide +kernel)) ga_nil))))) (gw_or (gt_cmp opLt (ge_callB (cLen ⟨rfl⟩) rfl (T.free 6) (by decide +kernel) (ga_cons (ge_var (pv 0)) ga_nil)) (ge_c pe_int) (nomark _)) (gw_or (gt_cmp opGt (ge_callB (cLen ⟨rfl⟩) rfl (T.free 6) (by decide +kernel) (ga_cons (ge_var (pv 0)) ga_nil)) (ge_c pe_int) (nomark _)) (gw_or1 (gt_not (gt_val (ge_callB (cAll ⟨rfl⟩ rfl) rfl (T.free 14) (by decide +kernel) (ga_cons (ge_lc (own := [("c", 3)]) (N := ["x", "k", "ends", "c", "j"]) (sc := defScope s__law_is_poly) rfl nd (gi_seq ⟨rfl⟩ (ge_var (pv 0))) rfl rfl (by decide +kernel) (fun _ _ _ _ _ => (gg_name (pg_name (i := 3) nd rfl (Or.inl rfl)))) (fun _ _ _ _ _ => gts_nil) (fun _ _ _ _ _ => (ge_call (fg__law_is_spot T) rfl ar__law_is_spot (hr.mono (by decide)) rfl takes0 (ga_cons (ge_var (pv 3)) ga_nil) rfl (fun _ _ _ _ _ _ us hl => match us, hl with | [_], _ => rfl)))) ga_nil))))))))) (gss_one (gs_ret (ge_c pe_bl))) gss_nil)
    (gss_cons (gs_for po_of rfl (gi_rng1 rfl (T.free 15) (ga_cons (ge_callB (cLen ⟨rfl⟩) rfl (T.free 6) (by decide +kernel) (ga_cons (ge_var (pv 0)) ga_nil)) ga_nil)) (gg_name (pg_name (i := 1) nd rfl (Or.inl rfl))) (gss_cons (gs_asg (ge_lst (ga_cons (ge_var (pv 1)) (ga_cons (ge_bin opMod (ge_callTy cInt rfl (T.free 0) (by decide +kernel) (ga_cons (ge_bin (opAdd ⟨rfl⟩) (ge_var (pv 1)) (ge_c pe_int)) ga_nil)) (ge_callB (cLen ⟨rfl⟩) rfl (T.free 6) (by decide +kernel) (ga_cons (ge_var (pv 0)) ga_nil))) ga_nil))) (gg_name (pg_name (i := 2) nd rfl (Or.inr rfl))))
    (gss_one (gs_if (gt_not (gt_val (ge_callB (cAll ⟨rfl⟩ rfl) rfl (T.free 14) (by decide +kernel) (ga_cons (ge_lc (own := [("j", 4)]) (N := ["x", "k", "ends", "c", "j"]) (sc := defScope s__law_is_poly) rfl nd (gi_rng1 rfl (T.free 15) (ga_cons (ge_callB (cLen ⟨rfl⟩) rfl (T.free 6) (by decide +kernel) (ga_cons (ge_var (pv 0)) ga_nil)) ga_nil)) rfl rfl (by decide +kernel) (fun _ _ _ _ _ => (gg_name (pg_name (i := 4) nd rfl (Or.inl rfl)))) (fun _ _ _ _ _ => (gts_one (gt_cmp (opNotIn ⟨rfl⟩ hu5) (ge_var (pv 4)) (ge_var (pv 2)) (by rfl)))) (fun _ _ _ _ _ => (ge_cmp opGt (ge_call (fg__law_turn T) rfl ar__law_turn (hr.mono (by decide)) rfl takes0 (ga_cons (ge_ix (ixAny ⟨rfl⟩) (ge_var (pv 0)) (ge_ix (ixAny ⟨rfl⟩) (ge_var (pv 2)) (ge_c pe_int))) (ga_cons (ge_ix (ixAny ⟨rfl⟩) (ge_var (pv 0)) (ge_ix (ixAny ⟨rfl⟩) (ge_var (pv 2)) (ge_c pe_int))) (ga_cons (ge_ix (ixAny ⟨rfl⟩) (ge_var (pv 0)) (ge_var (pv 4))) ga_nil))) rfl (fun _ _ _ _ _ _ us hl => match us, hl with | [_, _, _], _ => rfl)) (ge_c pe_int) (nomark _)))) ga_nil)))) (gss_one (gs_ret (ge_c pe_bl))) gss_nil))))
    (gss_one (gs_ret (ge_c pe_bl)))))
theorem fg__law_is_poly (T : Hd fa fn K mg) : FnG P w (gK K) mg base 3 "_law_is_poly" s__law_is_poly ["x"] [] f__law_is_poly := fg_of (T.glo 37) (fd__law_is_poly T) sc__law_is_poly (fb__law_is_poly T)
theorem sc__law_told : FnScope ["poly", "least_z"] ["poly"] (defScope s__law_told) := ⟨rfl, rfl, rfl, by decide +kernel, rfl, by decide +kernel, by decide +kernel⟩
def b__law_told : DS :=
  (sSeq (sAsg (eTm mIndexT (eVar 0) (aCons (eFn vMinT (aCons (eVar 0) aNil)) aNil)) (gN 1))
    (sRet (eBin vAdd (eSl vSlc (eVar 0) (oSome (eVar 1)) oNone) (eSl vSlc (eVar 0) oNone (oSome (eVar 1))))))
def f__law_told : Fn := runF .fz 1 2 b__law_told
theorem ar__law_told : Ar f__law_told 1 := ar_run
theorem fd__law_told (T : Hd fa fn K mg) : ∃ fd, FunD (gK K).K "_law_told" "_law_told" (defArgs s__law_told) (defBody s__law_told) (defScope s__law_told) [] [] (He.ga K "_law_told") fd := T.def_ 22
theorem fb__law_told (T : Hd fa fn K mg) (cdv : Value) (A : Around) (outer : List Env) (s : Shared) (H : Hp) (E : XK) (hr : Room 0 (A.deeper (envOfC "_law_told" (defScope s__law_told) s.heap.objs.size (He.ga K "_law_told") cdv))) : GSs (gK K) (WF E) (cxOf (L2.CX P w) P w (gK K).K mg base ["poly", "least_z"] "_law_told" (defScope s__law_told) (He.ga K "_law_told") cdv A outer s H E) (defBody s__law_told) b__law_told := by
  have nd := sc__law_told.nd
  have tk := tk_of (P := P) (w := w) (K := (gK K).K) (mg := mg) (base := base) (N := ["poly", "least_z"]) (qual := "_law_told") (scope := defScope s__law_told) (f := He.ga K "_law_told") (cdv := cdv) (A := A) (outer := outer) (s := s) (H := H) (E := E)
  have hu := hu64 hr
  have hu5 := hu65 hr
  exact (gss_cons (gs_asg (ge_tm ⟨rfl⟩ PySem.F.slot_tuple_index PySem.F.type_tuple_index (mtIndexT ⟨rfl⟩ hu5) (ge_var (pv 0)) (ga_cons (ge_callB (cMinT ⟨rfl⟩ rfl hu) rfl (T.free 17) (by decide +kernel) (ga_cons (ge_var (pv 0)) ga_nil)) ga_nil)) (gg_name (pg_name (i := 1) nd rfl (Or.inl rfl))))
    (gss_one (gs_ret (ge_bin (opAdd ⟨rfl⟩) (ge_slice (slAny ⟨rfl⟩) (ge_var (pv 0)) (go_some (ge_var (pv 1))) go_none) (ge_slice (slAny ⟨rfl⟩) (ge_var (pv 0)) go_none (go_some (ge_var (pv 1))))))))
theorem fg__law_told (T : Hd fa fn K mg) : FnG P w (gK K) mg base 1 "_law_told" s__law_told ["poly"] [] f__law_told := fg_of (T.glo 38) (fd__law_told T) sc__law_told (fb__law_told T)
theorem sc__law_area : FnScope ["poly", "a", "b"] ["poly"] (defScope s__law_area) := ⟨rfl, rfl, rfl, by decide +kernel, rfl, by decide +kernel, by decide +kernel⟩
def b__law_area : DS :=
  (sRet (eFn vSum (aCons (eLc (iSeq (eCall f__law_edges (aCons (eVar 0) aNil))) (gTup' (gCons' (gN 1) (gCons' (gN 2) gNil')) 2) tYes' (eCall f__law_cross (aCons (eVar 1) (aCons (eVar 2) aNil))) [1, 2]) aNil)))
def f__law_area : Fn := runF .fz 1 3 b__law_area
theorem ar__law_area : Ar f__law_area 1 := ar_run
theorem fd__law_area (T : Hd fa fn K mg) : ∃ fd, FunD (gK K).K "_law_area" "_law_area" (defArgs s__law_area) (defBody s__law_area) (defScope s__law_area) [] [] (He.ga K "_law_area") fd := T.def_ 23
theorem fb__law_area (T : Hd fa fn K mg) (cdv : Value) (A : Around) (outer : List Env) (s : Shared) (H : Hp) (E : XK) (hr : Room 1 (A.deeper (envOfC "_law_area" (defScope s__law_area) s.heap.objs.size (He.ga K "_law_area") cdv))) : GSs (gK K) (WF E) (cxOf (L2.CX P w) P w (gK K).K mg base ["poly", "a", "b"] "_law_area" (defScope s__law_area) (He.ga K "_law_area") cdv A outer s H E) (defBody s__law_area) b__law_area := by
  have nd := sc__law_area.nd
  have tk := tk_of (P := P) (w := w) (K := (gK K).K) (mg := mg) (base := base) (N := ["poly", "a", "b"]) (qual := "_law_area") (scope := defScope s__law_area) (f := He.ga K "_law_area") (cdv := cdv) (A := A) (outer := outer) (s := s) (H := H) (E := E)
  have hu := hu64 hr
  have hu5 := hu65 hr
  exact (gss_one (gs_ret (ge_callB (cSum ⟨rfl⟩ rfl) rfl (T.free 20) (by decide +kernel) (ga_cons (ge_lc (own := [("a", 1), ("b", 2)]) (N := ["poly", "a", "b"]) (sc := defScope s__law_area) rfl nd (gi_seq ⟨rfl⟩ (ge_call (fg__law_edges T) rfl ar__law_edges (hr.mono (by decide)) rfl tk (ga_cons (ge_var (pv 0)) ga_nil) rfl (fun _ _ _ _ _ _ us hl => match us, hl with | [_], _ => rfl))) rfl rfl (by decide +kernel) (fun _ _ _ _ _ => (gg_tup ⟨rfl⟩ rfl (ggs_cons (gg_name (pg_name (i := 1) nd rfl (Or.inl rfl))) (ggs_cons (gg_name (pg_name (i := 2) nd rfl (Or.inl rfl))) ggs_nil)))) (fun _ _ _ _ _ => gts_nil) (fun _ _ _ _ _ => (ge_call (fg__law_cross T) rfl ar__law_cross (hr.mono (by decide)) rfl takes0 (ga_cons (ge_var (pv 1)) (ga_cons (ge_var (pv 2)) ga_nil)) rfl (fun _ _ _ _ _ _ us hl => match us, hl with | [_, _], _ => rfl)))) ga_nil))))
theorem fg__law_area (T : Hd fa fn K mg) : FnG P w (gK K) mg base 2 "_law_area" s__law_area ["poly"] [] f__law_area := fg_of (T.glo 39) (fd__law_area T) sc__law_area (fb__law_area T)
theorem sc__law_sent : FnScope ["poly", "x", "y", "c"] ["poly", "x", "y"] (defScope s__law_sent) := ⟨rfl, rfl, rfl, by decide +kernel, rfl, by decide +kernel, by decide +kernel⟩
def b__law_sent : DS :=
  (sRet (eFn vTuple (aCons (eLc (iSeq (eVar 0)) (gN 3) tYes' (eTup (aCons (eBin vAdd (eBin vIx (eVar 3) (eC (.int 0))) (eVar 1)) (aCons (eBin vAdd (eBin vIx (eVar 3) (eC (.int 1))) (eVar 2)) aNil))) [3]) aNil)))
def f__law_sent : Fn := runF .fz 3 4 b__law_sent
theorem ar__law_sent : Ar f__law_sent 3 := ar_run
theorem fd__law_sent (T : Hd fa fn K mg) : ∃ fd, FunD (gK K).K "_law_sent" "_law_sent" (defArgs s__law_sent) (defBody s__law_sent) (defScope s__law_sent) [] [] (He.ga K "_law_sent") fd := T.def_ 24
theorem fb__law_sent (T : Hd fa fn K mg) (cdv : Value) (A : Around) (outer : List Env) (s : Shared) (H : Hp) (E : XK) (hr : Room 0 (A.deeper (envOfC "_law_sent" (defScope s__law_sent) s.heap.objs.size (He.ga K "_law_sent") cdv))) : GSs (gK K) (WF E) (cxOf (L2.CX P w) P w (gK K).K mg base ["poly", "x", "y", "c"] "_law_sent" (defScope s__law_sent) (He.ga K "_law_sent") cdv A outer s H E) (defBody s__law_sent) b__law_sent := by
  have nd := sc__law_sent.nd
  have tk := tk_of (P := P) (w := w) (K := (gK K).K) (mg := mg) (base := base) (N := ["poly", "x", "y", "c"]) (qual := "_law_sent") (scope := defScope s__law_sent) (f := He.ga K "_law_sent") (cdv := cdv) (A := A) (outer := outer) (s := s) (H := H) (E := E)
  have hu := hu64 hr
  have hu5 := hu65 hr
  exact (gss_one (gs_ret (ge_callTy (cTuple ⟨rfl⟩) rfl (T.free 5) (by decide +kernel) (ga_cons (ge_lc (own := [("c", 3)]) (N := ["poly", "x", "y", "c"]) (sc := defScope s__law_sent) rfl nd (gi_seq ⟨rfl⟩ (ge_var (pv 0))) rfl rfl (by decide +kernel) (fun _ _ _ _ _ => (gg_name (pg_name (i := 3) nd rfl (Or.inl rfl)))) (fun _ _ _ _ _ => gts_nil) (fun _ _ _ _ _ => (ge_tup (ga_cons (ge_bin (opAdd ⟨rfl⟩) (ge_ix (ixAny ⟨rfl⟩) (ge_var (pv 3)) (ge_c pe_int)) (ge_var (pv 1))) (ga_cons (ge_bin (opAdd ⟨rfl⟩) (ge_ix (ixAny ⟨rfl⟩) (ge_var (pv 3)) (ge_c pe_int)) (ge_var (pv 2))) ga_nil))))) ga_nil))))
theorem fg__law_sent (T : Hd fa fn K mg) : FnG P w (gK K) mg base 1 "_law_sent" s__law_sent ["poly", "x", "y"] [] f__law_sent := fg_of (T.glo 40) (fd__law_sent T) sc__law_sent (fb__law_sent T)
theorem sc__law_quarter : FnScope ["poly", "times", "found", "k", "c"] ["poly", "times"] (defScope s__law_quarter) := ⟨rfl, rfl, rfl, by decide +kernel, rfl, by decide +kernel, by decide +kernel⟩
def b__law_quarter : DS :=
  (sSeq (sAsg (eVar 0) (gN 2))
    (sSeq (sFor (iRng1' (aCons (eBin vMod (eFn vInt (aCons (eVar 1) aNil)) (eC (.int 4))) aNil)) (gN 3) (sAsg (eFn vTuple (aCons (eLc (iSeq (eVar 2)) (gN 4) tYes' (eTup (aCons (eBin vSub (eC (.int 0)) (eBin vIx (eVar 4) (eC (.int 1)))) (aCons (eBin vIx (eVar 4) (eC (.int 0))) aNil))) [4]) aNil)) (gN 2)))
    (sRet (eVar 2))))
def f__law_quarter : Fn := runF .fz 2 5 b__law_quarter
theorem ar__law_quarter : Ar f__law_quarter 2 := ar_run
theorem fd__law_quarter (T : Hd fa fn K mg) : ∃ fd, FunD (gK K).K "_law_quarter" "_law_quarter" (defArgs s__law_quarter) (defBody s__law_quarter) (defScope s__law_quarter) [] [] (He.ga K "_law_quarter") fd := T.def_ 25
theorem fb__law_quarter (T : Hd fa fn K mg) (cdv : Value) (A : Around) (outer : List Env) (s : Shared) (H : Hp) (E : XK) (hr : Room 0 (A.deeper (envOfC "_law_quarter" (defScope s__law_quarter) s.heap.objs.size (He.ga K "_law_quarter") cdv))) : GSs (gK K) (WF E) (cxOf (L2.CX P w) P w (gK K).K mg base ["poly", "times", "found", "k", "c"] "_law_quarter" (defScope s__law_quarter) (He.ga K "_law_quarter") cdv A outer s H E) (defBody s__law_quarter) b__law_quarter := by
  have nd := sc__law_quarter.nd
  have tk := tk_of (P := P) (w := w) (K := (gK K).K) (mg := mg) (base := base) (N := ["poly", "times", "found", "k", "c"]) (qual := "_law_quarter") (scope := defScope s__law_quarter) (f := He.ga K "_law_quarter") (cdv := cdv) (A := A) (outer := outer) (s := s) (H := H) (E := E)
  have hu := hu64 hr
  have hu5 := hu65 hr
  exact (gss_cons (gs_asg (ge_var (pv 0)) (gg_name (pg_name (i := 2) nd rfl (Or.inl rfl))))
    (gss_cons (gs_for po_of rfl (gi_rng1 rfl (T.free 15) (ga_cons (ge_bin opMod (ge_callTy cInt rfl (T.free 0) (by decide +kernel) (ga_cons (ge_var (pv 1)) ga_nil)) (ge_c pe_int)) ga_nil)) (gg_name (pg_name (i := 3) nd rfl (Or.inl rfl))) (gss_one (gs_asg (ge_callTy (cTuple ⟨rfl⟩) rfl (T.free 5) (by decide +kernel) (ga_cons (ge_lc (own := [("c", 4)]) (N := ["poly", "times", "found", "k", "c"]) (sc := defScope s__law_quarter) rfl nd (gi_seq ⟨rfl⟩ (ge_var (pv 2))) rfl rfl (by decide +kernel) (fun _ _ _ _ _ => (gg_name (pg_name (i := 4) nd rfl (Or.inl rfl)))) (fun _ _ _ _ _ => gts_nil) (fun _ _ _ _ _ => (ge_tup (ga_cons (ge_bin opSub (ge_c pe_int) (ge_ix (ixAny ⟨rfl⟩) (ge_var (pv 4)) (ge_c pe_int))) (ga_cons (ge_ix (ixAny ⟨rfl⟩) (ge_var (pv 4)) (ge_c pe_int)) ga_nil))))) ga_nil)) (gg_name (pg_name (i := 2) nd rfl (Or.inl rfl))))))
    (gss_one (gs_ret (ge_var (pv 2))))))
theorem fg__law_quarter (T : Hd fa fn K mg) : FnG P w (gK K) mg base 1 "_law_quarter" s__law_quarter ["poly", "times"] [] f__law_quarter := fg_of (T.glo 41) (fd__law_quarter T) sc__law_quarter (fb__law_quarter T)
theorem sc__law_flipped : FnScope ["poly", "c"] ["poly"] (defScope s__law_flipped) := ⟨rfl, rfl, rfl, by decide +kernel, rfl, by decide +kernel, by decide +kernel⟩
def b__law_flipped : DS :=
  (sRet (eRev (eFn vTuple (aCons (eLc (iSeq (eVar 0)) (gN 1) tYes' (eTup (aCons (eBin vSub (eC (.int 0)) (eBin vIx (eVar 1) (eC (.int 0)))) (aCons (eBin vIx (eVar 1) (eC (.int 1))) aNil))) [1]) aNil))))
def f__law_flipped : Fn := runF .fz 1 2 b__law_flipped
theorem ar__law_flipped : Ar f__law_flipped 1 := ar_run
theorem fd__law_flipped (T : Hd fa fn K mg) : ∃ fd, FunD (gK K).K "_law_flipped" "_law_flipped" (defArgs s__law_flipped) (defBody s__law_flipped) (defScope s__law_flipped) [] [] (He.ga K "_law_flipped") fd := T.def_ 26
theorem fb__law_flipped (T : Hd fa fn K mg) (cdv : Value) (A : Around) (outer : List Env) (s : Shared) (H : Hp) (E : XK) (hr : Room 0 (A.deeper (envOfC "_law_flipped" (defScope s__law_flipped) s.heap.objs.size (He.ga K "_law_flipped") cdv))) : GSs (gK K) (WF E) (cxOf (L2.CX P w) P w (gK K).K mg base ["poly", "c"] "_law_flipped" (defScope s__law_flipped) (He.ga K "_law_flipped") cdv A outer s H E) (defBody s__law_flipped) b__law_flipped := by
  have nd := sc__law_flipped.nd
  have tk := tk_of (P := P) (w := w) (K := (gK K).K) (mg := mg) (base := base) (N := ["poly", "c"]) (qual := "_law_flipped") (scope := defScope s__law_flipped) (f := He.ga K "_law_flipped") (cdv := cdv) (A := A) (outer := outer) (s := s) (H := H) (E := E)
  have hu := hu64 hr
  have hu5 := hu65 hr
  exact (gss_one (gs_ret (ge_rev ⟨rfl⟩ (ge_callTy (cTuple ⟨rfl⟩) rfl (T.free 5) (by decide +kernel) (ga_cons (ge_lc (own := [("c", 1)]) (N := ["poly", "c"]) (sc := defScope s__law_flipped) rfl nd (gi_seq ⟨rfl⟩ (ge_var (pv 0))) rfl rfl (by decide +kernel) (fun _ _ _ _ _ => (gg_name (pg_name (i := 1) nd rfl (Or.inl rfl)))) (fun _ _ _ _ _ => gts_nil) (fun _ _ _ _ _ => (ge_tup (ga_cons (ge_bin opSub (ge_c pe_int) (ge_ix (ixAny ⟨rfl⟩) (ge_var (pv 1)) (ge_c pe_int))) (ga_cons (ge_ix (ixAny ⟨rfl⟩) (ge_var (pv 1)) (ge_c pe_int)) ga_nil))))) ga_nil)))))
theorem fg__law_flipped (T : Hd fa fn K mg) : FnG P w (gK K) mg base 1 "_law_flipped" s__law_flipped ["poly"] [] f__law_flipped := fg_of (T.glo 42) (fd__law_flipped T) sc__law_flipped (fb__law_flipped T)
theorem sc__law_rect : FnScope ["x", "y", "wide", "high"] ["x", "y", "wide", "high"] (defScope s__law_rect) := ⟨rfl, rfl, rfl, by decide +kernel, rfl, by decide +kernel, by decide +kernel⟩
def b__law_rect : DS :=
  (sRet (eTup (aCons (eTup (aCons (eVar 0) (aCons (eVar 1) aNil))) (aCons (eTup (aCons (eBin vAdd (eVar 0) (eVar 2)) (aCons (eVar 1) aNil))) (aCons (eTup (aCons (eBin vAdd (eVar 0) (eVar 2)) (aCons (eBin vAdd (eVar 1) (eVar 3)) aNil))) (aCons (eTup (aCons (eVar 0) (aCons (eBin vAdd (eVar 1) (eVar 3)) aNil))) aNil))))))
def f__law_rect : Fn := runF .fz 4 4 b__law_rect
theorem ar__law_rect : Ar f__law_rect 4 := ar_run
theorem fd__law_rect (T : Hd fa fn K mg) : ∃ fd, FunD (gK K).K "_law_rect" "_law_rect" (defArgs s__law_rect) (defBody s__law_rect) (defScope s__law_rect) [] [] (He.ga K "_law_rect") fd := T.def_ 27
theorem fb__law_rect (T : Hd fa fn K mg) (cdv : Value) (A : Around) (outer : List Env) (s : Shared) (H : Hp) (E : XK) (hr : Room 0 (A.deeper (envOfC "_law_rect" (defScope s__law_rect) s.heap.objs.size (He.ga K "_law_rect") cdv))) : GSs (gK K) (WF E) (cxOf (L2.CX P w) P w (gK K).K mg base ["x", "y", "wide", "high"] "_law_rect" (defScope s__law_rect) (He.ga K "_law_rect") cdv A outer s H E) (defBody s__law_rect) b__law_rect := by
  have nd := sc__law_rect.nd
  have tk := tk_of (P := P) (w := w) (K := (gK K).K) (mg := mg) (base := base) (N := ["x", "y", "wide", "high"]) (qual := "_law_rect") (scope := defScope s__law_rect) (f := He.ga K "_law_rect") (cdv := cdv) (A := A) (outer := outer) (s := s) (H := H) (E := E)
  have hu := hu64 hr
  have hu5 := hu65 hr
  exact (gss_one (gs_ret (ge_tup (ga_cons (ge_tup (ga_cons (ge_var (pv 0)) (ga_cons (ge_var (pv 1)) ga_nil))) (ga_cons (ge_tup (ga_cons (ge_bin (opAdd ⟨rfl⟩) (ge_var (pv 0)) (ge_var (pv 2))) (ga_cons (ge_var (pv 1)) ga_nil))) (ga_cons (ge_tup (ga_cons (ge_bin (opAdd ⟨rfl⟩) (ge_var (pv 0)) (ge_var (pv 2))) (ga_cons (ge_bin (opAdd ⟨rfl⟩) (ge_var (pv 1)) (ge_var (pv 3))) ga_nil))) (ga_cons (ge_tup (ga_cons (ge_var (pv 0)) (ga_cons (ge_bin (opAdd ⟨rfl⟩) (ge_var (pv 1)) (ge_var (pv 3))) ga_nil))) ga_nil)))))))
theorem fg__law_rect (T : Hd fa fn K mg) : FnG P w (gK K) mg base 1 "_law_rect" s__law_rect ["x", "y", "wide", "high"] [] f__law_rect := fg_of (T.glo 43) (fd__law_rect T) sc__law_rect (fb__law_rect T)
theorem sc__law_bowl : FnScope ["box", "many", "spots", "a", "b", "c", "d", "size", "t"] ["box", "many"] (defScope s__law_bowl) := ⟨rfl, rfl, rfl, by decide +kernel, rfl, by decide +kernel, by decide +kernel⟩
def b__law_bowl : DS :=
  (sSeq (sAsg (eSl vSlc (eCall f__law_mixed (aCons (eVar 0) (aCons (eLst (aCons (eUn vNeg (eC (.int 3))) (aCons (eUn vNeg (eC (.int 2))) (aCons (eUn vNeg (eC (.int 1))) (aCons (eC (.int 0)) (aCons (eC (.int 1)) (aCons (eC (.int 2)) (aCons (eC (.int 3)) aNil)))))))) aNil))) oNone (oSome (eVar 1))) (gN 2))
    (sSeq (sAsg (eCall f__law_pick (aCons (eVar 0) (aCons (eLst (aCons (eTup (aCons (eC (.int 1)) (aCons (eC (.int 0)) (aCons (eC (.int 0)) (aCons (eC (.int 1)) aNil))))) (aCons (eTup (aCons (eC (.int 2)) (aCons (eC (.int 1)) (aCons (eC (.int 1)) (aCons (eC (.int 1)) aNil))))) (aCons (eTup (aCons (eC (.int 1)) (aCons (eUn vNeg (eC (.int 1))) (aCons (eC (.int 1)) (aCons (eC (.int 1)) aNil))))) (aCons (eTup (aCons (eC (.int 0)) (aCons (eUn vNeg (eC (.int 1))) (aCons (eC (.int 1)) (aCons (eC (.int 0)) aNil))))) (aCons (eTup (aCons (eC (.int 3)) (aCons (eC (.int 1)) (aCons (eUn vNeg (eC (.int 1))) (aCons (eC (.int 2)) aNil))))) (aCons (eTup (aCons (eC (.int 1)) (aCons (eC (.int 0)) (aCons (eC (.int 2)) (aCons (eC (.int 1)) aNil))))) (aCons (eTup (aCons (eUn vNeg (eC (.int 1))) (aCons (eC (.int 0)) (aCons (eC (.int 0)) (aCons (eUn vNeg (eC (.int 1))) aNil))))) aNil)))))))) aNil))) (gTup' (gCons' (gN 3) (gCons' (gN 4) (gCons' (gN 5) (gCons' (gN 6) gNil')))) 4))
    (sSeq (sAsg (eCall f__law_pick (aCons (eVar 0) (aCons (eLst (aCons (eC (.int 1)) (aCons (eC (.int 1)) (aCons (eC (.int 2)) (aCons (eC (.int 3)) aNil))))) aNil))) (gN 7))
    (sRet (eFn vTuple (aCons (eLc (iSeq (eFn vSorted (aCons (eVar 2) aNil))) (gN 8) tYes' (eTup (aCons (eBin vMul (eVar 7) (eBin vAdd (eBin vMul (eVar 3) (eVar 8)) (eBin vMul (eBin vMul (eVar 4) (eVar 8)) (eVar 8)))) (aCons (eBin vMul (eVar 7) (eBin vAdd (eBin vMul (eVar 5) (eVar 8)) (eBin vMul (eBin vMul (eVar 6) (eVar 8)) (eVar 8)))) aNil))) [8]) aNil))))))
def f__law_bowl : Fn := runF .fz 2 9 b__law_bowl
theorem ar__law_bowl : Ar f__law_bowl 2 := ar_run
theorem fd__law_bowl (T : Hd fa fn K mg) : ∃ fd, FunD (gK K).K "_law_bowl" "_law_bowl" (defArgs s__law_bowl) (defBody s__law_bowl) (defScope s__law_bowl) [] [] (He.ga K "_law_bowl") fd := T.def_ 28
theorem fb__law_bowl (T : Hd fa fn K mg) (cdv : Value) (A : Around) (outer : List Env) (s : Shared) (H : Hp) (E : XK) (hr : Room 2 (A.deeper (envOfC "_law_bowl" (defScope s__law_bowl) s.heap.objs.size (He.ga K "_law_bowl") cdv))) : GSs (gK K) (WF E) (cxOf (L2.CX P w) P w (gK K).K mg base ["box", "many", "spots", "a", "b", "c", "d", "size", "t"] "_law_bowl" (defScope s__law_bowl) (He.ga K "_law_bowl") cdv A outer s H E) (defBody s__law_bowl) b__law_bowl := by
  have nd := sc__law_bowl.nd
  have tk := tk_of (P := P) (w := w) (K := (gK K).K) (mg := mg) (base := base) (N := ["box", "many", "spots", "a", "b", "c", "d", "size", "t"]) (qual := "_law_bowl") (scope := defScope s__law_bowl) (f := He.ga K "_law_bowl") (cdv := cdv) (A := A) (outer := outer) (s := s) (H := H) (E := E)
  have hu := hu64 hr
  have hu5 := hu65 hr
  exact (gss_cons (gs_asg (ge_slice (slAny ⟨rfl⟩) (ge_call (fg__law_mixed T) rfl ar__law_mixed (hr.mono (by decide)) rfl tk (ga_cons (ge_var (pv 0)) (ga_cons (ge_lst (ga_cons (ge_un unNeg (ge_c pe_int)) (ga_cons (ge_un unNeg (ge_c pe_int)) (ga_cons (ge_un unNeg (ge_c pe_int)) (ga_cons (ge_c pe_int) (ga_cons (ge_c pe_int) (ga_cons (ge_c pe_int) (ga_cons (ge_c pe_int) ga_nil)))))))) ga_nil)) rfl (fun _ _ _ _ _ _ us hl => match us, hl with | [_, _], _ => rfl)) go_none (go_some (ge_var (pv 1)))) (gg_name (pg_name (i := 2) nd rfl (Or.inl rfl))))
    (gss_cons (gs_asg (ge_call (fg__law_pick T) rfl ar__law_pick (hr.mono (by decide)) rfl tk (ga_cons (ge_var (pv 0)) (ga_cons (ge_lst (ga_cons (ge_tup (ga_cons (ge_c pe_int) (ga_cons (ge_c pe_int) (ga_cons (ge_c pe_int) (ga_cons (ge_c pe_int) ga_nil))))) (ga_cons (ge_tup (ga_cons (ge_c pe_int) (ga_cons (ge_c pe_int) (ga_cons (ge_c pe_int) (ga_cons (ge_c pe_int) ga_nil))))) (ga_cons (ge_tup (ga_cons (ge_c pe_int) (ga_cons (ge_un unNeg (ge_c pe_int)) (ga_cons (ge_c pe_int) (ga_cons (ge_c pe_int) ga_nil))))) (ga_cons (ge_tup (ga_cons (ge_c pe_int) (ga_cons (ge_un unNeg (ge_c pe_int)) (ga_cons (ge_c pe_int) (ga_cons (ge_c pe_int) ga_nil))))) (ga_cons (ge_tup (ga_cons (ge_c pe_int) (ga_cons (ge_c pe_int) (ga_cons (ge_un unNeg (ge_c pe_int)) (ga_cons (ge_c pe_int) ga_nil))))) (ga_cons (ge_tup (ga_cons (ge_c pe_int) (ga_cons (ge_c pe_int) (ga_cons (ge_c pe_int) (ga_cons (ge_c pe_int) ga_nil))))) (ga_cons (ge_tup (ga_cons (ge_un unNeg (ge_c pe_int)) (ga_cons (ge_c pe_int) (ga_cons (ge_c pe_int) (ga_cons (ge_un unNeg (ge_c pe_int)) ga_nil))))) ga_nil)))))))) ga_nil)) rfl (fun _ _ _ _ _ _ us hl => match us, hl with | [_, _], _ => rfl)) (gg_tup ⟨rfl⟩ rfl (ggs_cons (gg_name (pg_name (i := 3) nd rfl (Or.inr rfl))) (ggs_cons (gg_name (pg_name (i := 4) nd rfl (Or.inr rfl))) (ggs_cons (gg_name (pg_name (i := 5) nd rfl (Or.inr rfl))) (ggs_cons (gg_name (pg_name (i := 6) nd rfl (Or.inr rfl))) ggs_nil))))))
    (gss_cons (gs_asg (ge_call (fg__law_pick T) rfl ar__law_pick (hr.mono (by decide)) rfl tk (ga_cons (ge_var (pv 0)) (ga_cons (ge_lst (ga_cons (ge_c pe_int) (ga_cons (ge_c pe_int) (ga_cons (ge_c pe_int) (ga_cons (ge_c pe_int) ga_nil))))) ga_nil)) rfl (fun _ _ _ _ _ _ us hl => match us, hl with | [_, _], _ => rfl)) (gg_name (pg_name (i := 7) nd rfl (Or.inr rfl))))
    (gss_one (gs_ret (ge_callTy (cTuple ⟨rfl⟩) rfl (T.free 5) (by decide +kernel) (ga_cons (ge_lc (own := [("t", 8)]) (N := ["box", "many", "spots", "a", "b", "c", "d", "size", "t"]) (sc := defScope s__law_bowl) rfl nd (gi_seq ⟨rfl⟩ (ge_callB (cSorted ⟨rfl⟩) rfl (T.free 44) (by decide +kernel) (ga_cons (ge_var (pv 2)) ga_nil))) rfl rfl (by decide +kernel) (fun _ _ _ _ _ => (gg_name (pg_name (i := 8) nd rfl (Or.inl rfl)))) (fun _ _ _ _ _ => gts_nil) (fun _ _ _ _ _ => (ge_tup (ga_cons (ge_bin opMul (ge_var (pv 7)) (ge_bin (opAdd ⟨rfl⟩) (ge_bin opMul (ge_var (pv 3)) (ge_var (pv 8))) (ge_bin opMul (ge_bin opMul (ge_var (pv 4)) (ge_var (pv 8))) (ge_var (pv 8))))) (ga_cons (ge_bin opMul (ge_var (pv 7)) (ge_bin (opAdd ⟨rfl⟩) (ge_bin opMul (ge_var (pv 5)) (ge_var (pv 8))) (ge_bin opMul (ge_bin opMul (ge_var (pv 6)) (ge_var (pv 8))) (ge_var (pv 8))))) ga_nil))))) ga_nil)))))))
theorem fg__law_bowl (T : Hd fa fn K mg) : FnG P w (gK K) mg base 3 "_law_bowl" s__law_bowl ["box", "many"] [] f__law_bowl := fg_of (T.glo 45) (fd__law_bowl T) sc__law_bowl (fb__law_bowl T)
theorem sc__law_shape : FnScope ["box", "way_z", "s", "base", "left", "hexagon"] ["box"] (defScope s__law_shape) := ⟨rfl, rfl, rfl, by decide +kernel, rfl, by decide +kernel, by decide +kernel⟩
def b__law_shape : DS :=
  (sSeq (sPar 1 2 (aCons (eCall f__law_take (aCons (eVar 0) (aCons (eC (.int 13)) aNil))) (aCons (eBin vAdd (eC (.int 1)) (eCall f__law_take (aCons (eVar 0) (aCons (eC (.int 4)) aNil)))) aNil)))
    (sSeq (sIf (tB' (eBin vEq (eVar 1) (eC (.int 12)))) (sRet (eLst (aCons (eCall f__law_bowl (aCons (eVar 0) (aCons (eBin vAdd (eC (.int 3)) (eCall f__law_take (aCons (eVar 0) (aCons (eC (.int 4)) aNil)))) aNil))) aNil))) sNop)
    (sSeq (sPar3 3 4 5 (aCons (eCall f__law_rect (aCons (eC (.int 0)) (aCons (eC (.int 0)) (aCons (eC (.int 6)) (aCons (eC (.int 2)) aNil))))) (aCons (eCall f__law_rect (aCons (eC (.int 0)) (aCons (eC (.int 2)) (aCons (eC (.int 2)) (aCons (eC (.int 4)) aNil))))) (aCons (eTup (aCons (eTup (aCons (eC (.int 1)) (aCons (eC (.int 0)) aNil))) (aCons (eTup (aCons (eC (.int 3)) (aCons (eC (.int 0)) aNil))) (aCons (eTup (aCons (eC (.int 4)) (aCons (eC (.int 2)) aNil))) (aCons (eTup (aCons (eC (.int 3)) (aCons (eC (.int 4)) aNil))) (aCons (eTup (aCons (eC (.int 1)) (aCons (eC (.int 4)) aNil))) (aCons (eTup (aCons (eC (.int 0)) (aCons (eC (.int 2)) aNil))) aNil))))))) aNil))))
    (sRet (eBin vIx (eLst (aCons (eLst (aCons (eCall f__law_rect (aCons (eC (.int 0)) (aCons (eC (.int 0)) (aCons (eVar 2) (aCons (eVar 2) aNil))))) aNil)) (aCons (eLst (aCons (eCall f__law_rect (aCons (eC (.int 0)) (aCons (eC (.int 0)) (aCons (eVar 2) (aCons (eVar 2) aNil))))) aNil)) (aCons (eLst (aCons (eCall f__law_rect (aCons (eC (.int 0)) (aCons (eC (.int 0)) (aCons (eBin vAdd (eVar 2) (eC (.int 3))) (aCons (eC (.int 1)) aNil))))) aNil)) (aCons (eLst (aCons (eCall f__law_rect (aCons (eC (.int 0)) (aCons (eC (.int 0)) (aCons (eBin vAdd (eVar 2) (eC (.int 3))) (aCons (eC (.int 2)) aNil))))) aNil)) (aCons (eLst (aCons (eTup (aCons (eTup (aCons (eC (.int 0)) (aCons (eC (.int 0)) aNil))) (aCons (eTup (aCons (eBin vAdd (eVar 2) (eC (.int 1))) (aCons (eC (.int 0)) aNil))) (aCons (eTup (aCons (eC (.int 0)) (aCons (eVar 2) aNil))) aNil)))) aNil)) (aCons (eLst (aCons (eTup (aCons (eTup (aCons (eC (.int 0)) (aCons (eC (.int 0)) aNil))) (aCons (eTup (aCons (eBin vAdd (eVar 2) (eC (.int 4))) (aCons (eC (.int 0)) aNil))) (aCons (eTup (aCons (eBin vAdd (eVar 2) (eC (.int 2))) (aCons (eC (.int 2)) aNil))) (aCons (eTup (aCons (eC (.int 0)) (aCons (eC (.int 2)) aNil))) aNil))))) aNil)) (aCons (eLst (aCons (eVar 3) (aCons (eCall f__law_rect (aCons (eC (.int 0)) (aCons (eC (.int 2)) (aCons (eC (.int 2)) (aCons (eBin vAdd (eVar 2) (eC (.int 1))) aNil))))) aNil))) (aCons (eLst (aCons (eVar 3) (aCons (eCall f__law_rect (aCons (eC (.int 0)) (aCons (eC (.int 2)) (aCons (eC (.int 2)) (aCons (eBin vAdd (eVar 2) (eC (.int 2))) aNil))))) (aCons (eCall f__law_rect (aCons (eC (.int 4)) (aCons (eC (.int 2)) (aCons (eC (.int 2)) (aCons (eBin vAdd (eVar 2) (eC (.int 2))) aNil))))) aNil)))) (aCons (eLst (aCons (eCall f__law_rect (aCons (eC (.int 0)) (aCons (eC (.int 0)) (aCons (eC (.int 2)) (aCons (eC (.int 4)) aNil))))) aNil)) (aCons (eLst (aCons (eCall f__law_rect (aCons (eC (.int 0)) (aCons (eC (.int 0)) (aCons (eC (.int 8)) (aCons (eC (.int 2)) aNil))))) (aCons (eCall f__law_rect (aCons (eC (.int 0)) (aCons (eC (.int 6)) (aCons (eC (.int 8)) (aCons (eC (.int 2)) aNil))))) (aCons (eVar 4) (aCons (eCall f__law_rect (aCons (eC (.int 6)) (aCons (eC (.int 2)) (aCons (eC (.int 2)) (aCons (eC (.int 4)) aNil))))) aNil))))) (aCons (eLst (aCons (eTup (aCons (eTup (aCons (eC (.int 0)) (aCons (eC (.int 0)) aNil))) (aCons (eTup (aCons (eC (.int 4)) (aCons (eC (.int 0)) aNil))) (aCons (eTup (aCons (eC (.int 4)) (aCons (eC (.int 2)) aNil))) (aCons (eTup (aCons (eC (.int 2)) (aCons (eBin vAdd (eC (.int 2)) (eVar 2)) aNil))) (aCons (eTup (aCons (eC (.int 0)) (aCons (eC (.int 2)) aNil))) aNil)))))) aNil)) (aCons (eLst (aCons (eVar 5) (aCons (eTup (aCons (eTup (aCons (eC (.int 1)) (aCons (eC (.int 4)) aNil))) (aCons (eTup (aCons (eC (.int 3)) (aCons (eC (.int 4)) aNil))) (aCons (eTup (aCons (eC (.int 2)) (aCons (eBin vAdd (eC (.int 4)) (eVar 2)) aNil))) aNil)))) aNil))) aNil))))))))))))) (eVar 1))))))
def f__law_shape : Fn := runF .fz 1 6 b__law_shape
theorem ar__law_shape : Ar f__law_shape 1 := ar_run
theorem fd__law_shape (T : Hd fa fn K mg) : ∃ fd, FunD (gK K).K "_law_shape" "_law_shape" (defArgs s__law_shape) (defBody s__law_shape) (defScope s__law_shape) [] [] (He.ga K "_law_shape") fd := T.def_ 29
theorem fb__law_shape (T : Hd fa fn K mg) (cdv : Value) (A : Around) (outer : List Env) (s : Shared) (H : Hp) (E : XK) (hr : Room 3 (A.deeper (envOfC "_law_shape" (defScope s__law_shape) s.heap.objs.size (He.ga K "_law_shape") cdv))) : GSs (gK K) (WF E) (cxOf (L2.CX P w) P w (gK K).K mg base ["box", "way_z", "s", "base", "left", "hexagon"] "_law_shape" (defScope s__law_shape) (He.ga K "_law_shape") cdv A outer s H E) (defBody s__law_shape) b__law_shape := by
  have nd := sc__law_shape.nd
  have tk := tk_of (P := P) (w := w) (K := (gK K).K) (mg := mg) (base := base) (N := ["box", "way_z", "s", "base", "left", "hexagon"]) (qual := "_law_shape") (scope := defScope s__law_shape) (f := He.ga K "_law_shape") (cdv := cdv) (A := A) (outer := outer) (s := s) (H := H) (E := E)
  have hu := hu64 hr
  have hu5 := hu65 hr
  exact (gss_cons (gs_par (i := 1) (j := 2) rfl nd rfl rfl (by decide) rfl rfl (ga_cons (ge_call (fg__law_take T) rfl ar__law_take (hr.mono (by decide)) rfl tk (ga_cons (ge_var (pv 0)) (ga_cons (ge_c pe_int) ga_nil)) rfl (fun _ _ _ _ _ _ us hl => match us, hl with | [_, _], _ => rfl)) (ga_cons (ge_bin (opAdd ⟨rfl⟩) (ge_c pe_int) (ge_call (fg__law_take T) rfl ar__law_take (hr.mono (by decide)) rfl tk (ga_cons (ge_var (pv 0)) (ga_cons (ge_c pe_int) ga_nil)) rfl (fun _ _ _ _ _ _ us hl => match us, hl with | [_, _], _ => rfl))) ga_nil)))
    (gss_cons (gs_if (gt_cmp (opEq ⟨rfl⟩ hu) (ge_var (pv 1)) (ge_c pe_int) (nomark _)) (gss_one (gs_ret (ge_lst (ga_cons (ge_call (fg__law_bowl T) rfl ar__law_bowl (hr.mono (by decide)) rfl tk (ga_cons (ge_var (pv 0)) (ga_cons (ge_bin (opAdd ⟨rfl⟩) (ge_c pe_int) (ge_call (fg__law_take T) rfl ar__law_take (hr.mono (by decide)) rfl tk (ga_cons (ge_var (pv 0)) (ga_cons (ge_c pe_int) ga_nil)) rfl (fun _ _ _ _ _ _ us hl => match us, hl with | [_, _], _ => rfl))) ga_nil)) rfl (fun _ _ _ _ _ _ us hl => match us, hl with | [_, _], _ => rfl)) ga_nil)))) gss_nil)
    (gss_cons (gs_par3 (i := 3) (j := 4) (l := 5) rfl nd rfl rfl rfl (by decide) (by decide) (by decide) rfl rfl rfl (ga_cons (ge_call (fg__law_rect T) rfl ar__law_rect (hr.mono (by decide)) rfl tk (ga_cons (ge_c pe_int) (ga_cons (ge_c pe_int) (ga_cons (ge_c pe_int) (ga_cons (ge_c pe_int) ga_nil)))) rfl (fun _ _ _ _ _ _ us hl => match us, hl with | [_, _, _, _], _ => rfl)) (ga_cons (ge_call (fg__law_rect T) rfl ar__law_rect (hr.mono (by decide)) rfl tk (ga_cons (ge_c pe_int) (ga_cons (ge_c pe_int) (ga_cons (ge_c pe_int) (ga_cons (ge_c pe_int) ga_nil)))) rfl (fun _ _ _ _ _ _ us hl => match us, hl with | [_, _, _, _], _ => rfl)) (ga_cons (ge_tup (ga_cons (ge_tup (ga_cons (ge_c pe_int) (ga_cons (ge_c pe_int) ga_nil))) (ga_cons (ge_tup (ga_cons (ge_c pe_int) (ga_cons (ge_c pe_int) ga_nil))) (ga_cons (ge_tup (ga_cons (ge_c pe_int) (ga_cons (ge_c pe_int) ga_nil))) (ga_cons (ge_tup (ga_cons (ge_c pe_int) (ga_cons (ge_c pe_int) ga_nil))) (ga_cons (ge_tup (ga_cons (ge_c pe_int) (ga_cons (ge_c pe_int) ga_nil))) (ga_cons (ge_tup (ga_cons (ge_c pe_int) (ga_cons (ge_c pe_int) ga_nil))) ga_nil))))))) ga_nil))))
    (gss_one (gs_ret (ge_ix (ixAny ⟨rfl⟩) (ge_lst (ga_cons (ge_lst (ga_cons (ge_call (fg__law_rect T) rfl ar__law_rect (hr.mono (by decide)) rfl tk (ga_cons (ge_c pe_int) (ga_cons (ge_c pe_int) (ga_cons (ge_var (pv 2)) (ga_cons (ge_var (pv 2)) ga_nil)))) rfl (fun _ _ _ _ _ _ us hl => match us, hl with | [_, _, _, _], _ => rfl)) ga_nil)) (ga_cons (ge_lst (ga_cons (ge_call (fg__law_rect T) rfl ar__law_rect (hr.mono (by decide)) rfl tk (ga_cons (ge_c pe_int) (ga_cons (ge_c pe_int) (ga_cons (ge_var (pv 2)) (ga_cons (ge_var (pv 2)) ga_nil)))) rfl (fun _ _ _ _ _ _ us hl => match us, hl with | [_, _, _, _], _ => rfl)) ga_nil)) (ga_cons (ge_lst (ga_cons (ge_call (fg__law_rect T) rfl ar__law_rect (hr.mono (by decide)) rfl tk (ga_cons (ge_c pe_int) (ga_cons (ge_c pe_int) (ga_cons (ge_bin (opAdd ⟨rfl⟩) (ge_var (pv 2)) (ge_c pe_int)) (ga_cons (ge_c pe_int) ga_nil)))) rfl (fun _ _ _ _ _ _ us hl => match us, hl with | [_, _, _, _], _ => rfl)) ga_nil)) (ga_cons (ge_lst (ga_cons (ge_call (fg__law_rect T) rfl ar__law_rect (hr.mono (by decide)) rfl tk (ga_cons (ge_c pe_int) (ga_cons (ge_c pe_int) (ga_cons (ge_bin (opAdd ⟨rfl⟩) (ge_var (pv 2)) (ge_c pe_int)) (ga_cons (ge_c pe_int) ga_nil)))) rfl (fun _ _ _ _ _ _ us hl => match us, hl with | [_, _, _, _], _ => rfl)) ga_nil)) (ga_cons (ge_lst (ga_cons (ge_tup (ga_cons (ge_tup (ga_cons (ge_c pe_int) (ga_cons (ge_c pe_int) ga_nil))) (ga_cons (ge_tup (ga_cons (ge_bin (opAdd ⟨rfl⟩) (ge_var (pv 2)) (ge_c pe_int)) (ga_cons (ge_c pe_int) ga_nil))) (ga_cons (ge_tup (ga_cons (ge_c pe_int) (ga_cons (ge_var (pv 2)) ga_nil))) ga_nil)))) ga_nil)) (ga_cons (ge_lst (ga_cons (ge_tup (ga_cons (ge_tup (ga_cons (ge_c pe_int) (ga_cons (ge_c pe_int) ga_nil))) (ga_cons (ge_tup (ga_cons (ge_bin (opAdd ⟨rfl⟩) (ge_var (pv 2)) (ge_c pe_int)) (ga_cons (ge_c pe_int) ga_nil))) (ga_cons (ge_tup (ga_cons (ge_bin (opAdd ⟨rfl⟩) (ge_var (pv 2)) (ge_c pe_int)) (ga_cons (ge_c pe_int) ga_nil))) (ga_cons (ge_tup (ga_cons (ge_c pe_int) (ga_cons (ge_c pe_int) ga_nil))) ga_nil))))) ga_nil)) (ga_cons (ge_lst (ga_cons (ge_var (pv 3)) (ga_cons (ge_call (fg__law_rect T) rfl ar__law_rect (hr.mono (by decide)) rfl tk (ga_cons (ge_c pe_int) (ga_cons (ge_c pe_int) (ga_cons (ge_c pe_int) (ga_cons (ge_bin (opAdd ⟨rfl⟩) (ge_var (pv 2)) (ge_c pe_int)) ga_nil)))) rfl (fun _ _ _ _ _ _ us hl => match us, hl with | [_, _, _, _], _ => rfl)) ga_nil))) (ga_cons (ge_lst (ga_cons (ge_var (pv 3)) (ga_cons (ge_call (fg__law_rect T) rfl ar__law_rect (hr.mono (by decide)) rfl tk (ga_cons (ge_c pe_int) (ga_cons (ge_c pe_int) (ga_cons (ge_c pe_int) (ga_cons (ge_bin (opAdd ⟨rfl⟩) (ge_var (pv 2)) (ge_c pe_int)) ga_nil)))) rfl (fun _ _ _ _ _ _ us hl => match us, hl with | [_, _, _, _], _ => rfl)) (ga_cons (ge_call (fg__law_rect T) rfl ar__law_rect (hr.mono (by decide)) rfl tk (ga_cons (ge_c pe_int) (ga_cons (ge_c pe_int) (ga_cons (ge_c pe_int) (ga_cons (ge_bin (opAdd ⟨rfl⟩) (ge_var (pv 2)) (ge_c pe_int)) ga_nil)))) rfl (fun _ _ _ _ _ _ us hl => match us, hl with | [_, _, _, _], _ => rfl)) ga_nil)))) (ga_cons (ge_lst (ga_cons (ge_call (fg__law_rect T) rfl ar__law_rect (hr.mono (by decide)) rfl tk (ga_cons (ge_c pe_int) (ga_cons (ge_c pe_int) (ga_cons (ge_c pe_int) (ga_cons (ge_c pe_int) ga_nil)))) rfl (fun _ _ _ _ _ _ us hl => match us, hl with | [_, _, _, _], _ => rfl)) ga_nil)) (ga_cons (ge_lst (ga_cons (ge_call (fg__law_rect T) rfl ar__law_rect (hr.mono (by decide)) rfl tk (ga_cons (ge_c pe_int) (ga_cons (ge_c pe_int) (ga_cons (ge_c pe_int) (ga_cons (ge_c pe_int) ga_nil)))) rfl (fun _ _ _ _ _ _ us hl => match us, hl with | [_, _, _, _], _ => rfl)) (ga_cons (ge_call (fg__law_rect T) rfl ar__law_rect (hr.mono (by decide)) rfl tk (ga_cons (ge_c pe_int) (ga_cons (ge_c pe_int) (ga_cons (ge_c pe_int) (ga_cons (ge_c pe_int) ga_nil)))) rfl (fun _ _ _ _ _ _ us hl => match us, hl with | [_, _, _, _], _ => rfl)) (ga_cons (ge_var (pv 4)) (ga_cons (ge_call (fg__law_rect T) rfl ar__law_rect (hr.mono (by decide)) rfl tk (ga_cons (ge_c pe_int) (ga_cons (ge_c pe_int) (ga_cons (ge_c pe_int) (ga_cons (ge_c pe_int) ga_nil)))) rfl (fun _ _ _ _ _ _ us hl => match us, hl with | [_, _, _, _], _ => rfl)) ga_nil))))) (ga_cons (ge_lst (ga_cons (ge_tup (ga_cons (ge_tup (ga_cons (ge_c pe_int) (ga_cons (ge_c pe_int) ga_nil))) (ga_cons (ge_tup (ga_cons (ge_c pe_int) (ga_cons (ge_c pe_int) ga_nil))) (ga_cons (ge_tup (ga_cons (ge_c pe_int) (ga_cons (ge_c pe_int) ga_nil))) (ga_cons (ge_tup (ga_cons (ge_c pe_int) (ga_cons (ge_bin (opAdd ⟨rfl⟩) (ge_c pe_int) (ge_var (pv 2))) ga_nil))) (ga_cons (ge_tup (ga_cons (ge_c pe_int) (ga_cons (ge_c pe_int) ga_nil))) ga_nil)))))) ga_nil)) (ga_cons (ge_lst (ga_cons (ge_var (pv 5)) (ga_cons (ge_tup (ga_cons (ge_tup (ga_cons (ge_c pe_int) (ga_cons (ge_c pe_int) ga_nil))) (ga_cons (ge_tup (ga_cons (ge_c pe_int) (ga_cons (ge_c pe_int) ga_nil))) (ga_cons (ge_tup (ga_cons (ge_c pe_int) (ga_cons (ge_bin (opAdd ⟨rfl⟩) (ge_c pe_int) (ge_var (pv 2))) ga_nil))) ga_nil)))) ga_nil))) ga_nil))))))))))))) (ge_var (pv 1))))))))
theorem fg__law_shape (T : Hd fa fn K mg) : FnG P w (gK K) mg base 4 "_law_shape" s__law_shape ["box"] [] f__law_shape := fg_of (T.glo 46) (fd__law_shape T) sc__law_shape (fb__law_shape T)
theorem sc__law_star : FnScope ["poly", "many", "k"] ["poly"] (defScope s__law_star) := ⟨rfl, rfl, rfl, by decide +kernel, rfl, by decide +kernel, by decide +kernel⟩
def b__law_star : DS :=
  (sSeq (sAsg (eFn vLen (aCons (eVar 0) aNil)) (gN 1))
    (sRet (eFn vTuple (aCons (eLc (iRng1' (aCons (eVar 1) aNil)) (gN 2) tYes' (eBin vIx (eVar 0) (eBin vMod (eFn vInt (aCons (eBin vMul (eC (.int 2)) (eVar 2)) aNil)) (eVar 1))) [2]) aNil))))
def f__law_star : Fn := runF .fz 1 3 b__law_star
theorem ar__law_star : Ar f__law_star 1 := ar_run
theorem fd__law_star (T : Hd fa fn K mg) : ∃ fd, FunD (gK K).K "_law_star" "_law_star" (defArgs s__law_star) (defBody s__law_star) (defScope s__law_star) [] [] (He.ga K "_law_star") fd := T.def_ 30
theorem fb__law_star (T : Hd fa fn K mg) (cdv : Value) (A : Around) (outer : List Env) (s : Shared) (H : Hp) (E : XK) (hr : Room 0 (A.deeper (envOfC "_law_star" (defScope s__law_star) s.heap.objs.size (He.ga K "_law_star") cdv))) : GSs (gK K) (WF E) (cxOf (L2.CX P w) P w (gK K).K mg base ["poly", "many", "k"] "_law_star" (defScope s__law_star) (He.ga K "_law_star") cdv A outer s H E) (defBody s__law_star) b__law_star := by
  have nd := sc__law_star.nd
  have tk := tk_of (P := P) (w := w) (K := (gK K).K) (mg := mg) (base := base) (N := ["poly", "many", "k"]) (qual := "_law_star") (scope := defScope s__law_star) (f := He.ga K "_law_star") (cdv := cdv) (A := A) (outer := outer) (s := s) (H := H) (E := E)
  have hu := hu64 hr
  have hu5 := hu65 hr
  exact (gss_cons (gs_asg (ge_callB (cLen ⟨rfl⟩) rfl (T.free 6) (by decide +kernel) (ga_cons (ge_var (pv 0)) ga_nil)) (gg_name (pg_name (i := 1) nd rfl (Or.inr rfl))))
    (gss_one (gs_ret (ge_callTy (cTuple ⟨rfl⟩) rfl (T.free 5) (by decide +kernel) (ga_cons (ge_lc (own := [("k", 2)]) (N := ["poly", "many", "k"]) (sc := defScope s__law_star) rfl nd (gi_rng1 rfl (T.free 15) (ga_cons (ge_var (pv 1)) ga_nil)) rfl rfl (by decide +kernel) (fun _ _ _ _ _ => (gg_name (pg_name (i := 2) nd rfl (Or.inl rfl)))) (fun _ _ _ _ _ => gts_nil) (fun _ _ _ _ _ => (ge_ix (ixAny ⟨rfl⟩) (ge_var (pv 0)) (ge_bin opMod (ge_callTy cInt rfl (T.free 0) (by decide +kernel) (ga_cons (ge_bin opMul (ge_c pe_int) (ge_var (pv 2))) ga_nil)) (ge_var (pv 1)))))) ga_nil)))))
theorem fg__law_star (T : Hd fa fn K mg) : FnG P w (gK K) mg base 1 "_law_star" s__law_star ["poly"] [] f__law_star := fg_of (T.glo 47) (fd__law_star T) sc__law_star (fb__law_star T)
theorem sc__law_in_line : FnScope ["box", "poly", "great", "at_z", "a", "b", "c"] ["box", "poly"] (defScope s__law_in_line) := ⟨rfl, rfl, rfl, by decide +kernel, rfl, by decide +kernel, by decide +kernel⟩
def b__law_in_line : DS :=
  (sSeq (sAsg (eLc (iSeq (eVar 1)) (gN 6) tYes' (eTup (aCons (eBin vMul (eC (.int 2)) (eBin vIx (eVar 6) (eC (.int 0)))) (aCons (eBin vMul (eC (.int 2)) (eBin vIx (eVar 6) (eC (.int 1)))) aNil))) [6]) (gN 2))
    (sSeq (sAsg (eCall f__law_take (aCons (eVar 0) (aCons (eFn vLen (aCons (eVar 2) aNil)) aNil))) (gN 3))
    (sSeq (sPar 4 5 (aCons (eBin vIx (eVar 2) (eVar 3)) (aCons (eBin vIx (eVar 2) (eBin vMod (eFn vInt (aCons (eBin vAdd (eVar 3) (eC (.int 1))) aNil)) (eFn vLen (aCons (eVar 2) aNil)))) aNil)))
    (sRet (eFn vTuple (aCons (eBin vAdd (eBin vAdd (eSl vSlc (eVar 2) oNone (oSome (eBin vAdd (eVar 3) (eC (.int 1))))) (eLst (aCons (eTup (aCons (eBin vDiv (eBin vAdd (eBin vIx (eVar 4) (eC (.int 0))) (eBin vIx (eVar 5) (eC (.int 0)))) (eC (.int 2))) (aCons (eBin vDiv (eBin vAdd (eBin vIx (eVar 4) (eC (.int 1))) (eBin vIx (eVar 5) (eC (.int 1)))) (eC (.int 2))) aNil))) aNil))) (eSl vSlc (eVar 2) (oSome (eBin vAdd (eVar 3) (eC (.int 1)))) oNone)) aNil))))))
def f__law_in_line : Fn := runF .fz 2 7 b__law_in_line
theorem ar__law_in_line : Ar f__law_in_line 2 := ar_run
theorem fd__law_in_line (T : Hd fa fn K mg) : ∃ fd, FunD (gK K).K "_law_in_line" "_law_in_line" (defArgs s__law_in_line) (defBody s__law_in_line) (defScope s__law_in_line) [] [] (He.ga K "_law_in_line") fd := T.def_ 31
theorem fb__law_in_line (T : Hd fa fn K mg) (cdv : Value) (A : Around) (outer : List Env) (s : Shared) (H : Hp) (E : XK) (hr : Room 1 (A.deeper (envOfC "_law_in_line" (defScope s__law_in_line) s.heap.objs.size (He.ga K "_law_in_line") cdv))) : GSs (gK K) (WF E) (cxOf (L2.CX P w) P w (gK K).K mg base ["box", "poly", "great", "at_z", "a", "b", "c"] "_law_in_line" (defScope s__law_in_line) (He.ga K "_law_in_line") cdv A outer s H E) (defBody s__law_in_line) b__law_in_line := by
  have nd := sc__law_in_line.nd
  have tk := tk_of (P := P) (w := w) (K := (gK K).K) (mg := mg) (base := base) (N := ["box", "poly", "great", "at_z", "a", "b", "c"]) (qual := "_law_in_line") (scope := defScope s__law_in_line) (f := He.ga K "_law_in_line") (cdv := cdv) (A := A) (outer := outer) (s := s) (H := H) (E := E)
  have hu := hu64 hr
  have hu5 := hu65 hr
  exact (gss_cons (gs_setLc (own := [("c", 6)]) (N := ["box", "poly", "great", "at_z", "a", "b", "c"]) (sc := defScope s__law_in_line) (i := 2) rfl nd rfl rfl (sw_true rfl rfl rfl (by decide +kernel)) (gi_seq ⟨rfl⟩ (ge_var (pv 1))) rfl rfl (by decide +kernel) (fun _ _ _ _ _ => (gg_name (pg_name (i := 6) nd rfl (Or.inl rfl)))) (fun _ _ _ _ _ => gts_nil) (fun _ _ _ _ _ => (ge_tup (ga_cons (ge_bin opMul (ge_c pe_int) (ge_ix (ixAny ⟨rfl⟩) (ge_var (pv 6)) (ge_c pe_int))) (ga_cons (ge_bin opMul (ge_c pe_int) (ge_ix (ixAny ⟨rfl⟩) (ge_var (pv 6)) (ge_c pe_int))) ga_nil)))))
    (gss_cons (gs_asg (ge_call (fg__law_take T) rfl ar__law_take (hr.mono (by decide)) rfl tk (ga_cons (ge_var (pv 0)) (ga_cons (ge_callB (cLen ⟨rfl⟩) rfl (T.free 6) (by decide +kernel) (ga_cons (ge_var (pv 2)) ga_nil)) ga_nil)) rfl (fun _ _ _ _ _ _ us hl => match us, hl with | [_, _], _ => rfl)) (gg_name (pg_name (i := 3) nd rfl (Or.inl rfl))))
    (gss_cons (gs_par (i := 4) (j := 5) rfl nd rfl rfl (by decide) rfl rfl (ga_cons (ge_ix (ixAny ⟨rfl⟩) (ge_var (pv 2)) (ge_var (pv 3))) (ga_cons (ge_ix (ixAny ⟨rfl⟩) (ge_var (pv 2)) (ge_bin opMod (ge_callTy cInt rfl (T.free 0) (by decide +kernel) (ga_cons (ge_bin (opAdd ⟨rfl⟩) (ge_var (pv 3)) (ge_c pe_int)) ga_nil)) (ge_callB (cLen ⟨rfl⟩) rfl (T.free 6) (by decide +kernel) (ga_cons (ge_var (pv 2)) ga_nil)))) ga_nil)))
    (gss_one (gs_ret (ge_callTy (cTuple ⟨rfl⟩) rfl (T.free 5) (by decide +kernel) (ga_cons (ge_bin (opAdd ⟨rfl⟩) (ge_bin (opAdd ⟨rfl⟩) (ge_slice (slAny ⟨rfl⟩) (ge_var (pv 2)) go_none (go_some (ge_bin (opAdd ⟨rfl⟩) (ge_var (pv 3)) (ge_c pe_int)))) (ge_lst (ga_cons (ge_tup (ga_cons (ge_bin opDiv (ge_bin (opAdd ⟨rfl⟩) (ge_ix (ixAny ⟨rfl⟩) (ge_var (pv 4)) (ge_c pe_int)) (ge_ix (ixAny ⟨rfl⟩) (ge_var (pv 5)) (ge_c pe_int))) (ge_c pe_int)) (ga_cons (ge_bin opDiv (ge_bin (opAdd ⟨rfl⟩) (ge_ix (ixAny ⟨rfl⟩) (ge_var (pv 4)) (ge_c pe_int)) (ge_ix (ixAny ⟨rfl⟩) (ge_var (pv 5)) (ge_c pe_int))) (ge_c pe_int)) ga_nil))) ga_nil))) (ge_slice (slAny ⟨rfl⟩) (ge_var (pv 2)) (go_some (ge_bin (opAdd ⟨rfl⟩) (ge_var (pv 3)) (ge_c pe_int))) go_none)) ga_nil)))))))
theorem fg__law_in_line (T : Hd fa fn K mg) : FnG P w (gK K) mg base 2 "_law_in_line" s__law_in_line ["box", "poly"] [] f__law_in_line := fg_of (T.glo 48) (fd__law_in_line T) sc__law_in_line (fb__law_in_line T)
theorem sc__law_bent : FnScope ["box", "poly", "way_z", "at_z", "new"] ["box", "poly"] (defScope s__law_bent) := ⟨rfl, rfl, rfl, by decide +kernel, rfl, by decide +kernel, by decide +kernel⟩
def b__law_bent : DS :=
  (sSeq (sPar 2 3 (aCons (eCall f__law_take (aCons (eVar 0) (aCons (eC (.int 12)) aNil))) (aCons (eCall f__law_take (aCons (eVar 0) (aCons (eFn vLen (aCons (eVar 1) aNil)) aNil))) aNil)))
    (sSeq (sIf (tB' (eBin vEq (eVar 2) (eC (.int 0)))) (sRet (eCall f__law_in_line (aCons (eVar 0) (aCons (eVar 1) aNil)))) sNop)
    (sSeq (sIf (tB' (eBin vEq (eVar 2) (eC (.int 1)))) (sRet (eRev (eVar 1))) sNop)
    (sSeq (sIf (tB' (eBin vEq (eVar 2) (eC (.int 2)))) (sRet (eCall f__law_star (aCons (eVar 1) aNil))) sNop)
    (sSeq (sIf (tB' (eBin vEq (eVar 2) (eC (.int 3)))) (sRet (eBin vAdd (eBin vAdd (eSl vSlc (eVar 1) oNone (oSome (eVar 3))) (eTup (aCons (eBin vIx (eVar 1) (eVar 3)) aNil))) (eSl vSlc (eVar 1) (oSome (eVar 3)) oNone))) sNop)
    (sSeq (sIf (tB' (eBin vEq (eVar 2) (eC (.int 4)))) (sRet (eCall f__law_bowl (aCons (eVar 0) (aCons (eC (.int 7)) aNil)))) sNop)
    (sSeq (sIf (tB' (eBin vEq (eVar 2) (eC (.int 5)))) (sRet (eSl vSlc (eVar 1) oNone (oSome (eC (.int 2))))) sNop)
    (sSeq (sIf (tB' (eBin vEq (eVar 2) (eC (.int 6)))) (sRet (eFn vList (aCons (eVar 1) aNil))) sNop)
    (sSeq (sIf (tB' (eBin vEq (eVar 2) (eC (.int 7)))) (sRet (eBin vAdd (eBin vAdd (eSl vSlc (eVar 1) oNone (oSome (eVar 3))) (eTup (aCons (eFn vList (aCons (eBin vIx (eVar 1) (eVar 3)) aNil)) aNil))) (eSl vSlc (eVar 1) (oSome (eBin vAdd (eVar 3) (eC (.int 1)))) oNone))) sNop)
    (sSeq (sIf (tB' (eBin vEq (eVar 2) (eC (.int 8)))) (sRet (eBin vAdd (eSl vSlc (eVar 1) oNone (oSome (eVar 3))) (eSl vSlc (eVar 1) (oSome (eBin vAdd (eVar 3) (eC (.int 1)))) oNone))) sNop)
    (sSeq (sIf (tB' (eBin vEq (eVar 2) (eC (.int 9)))) (sRet (eFn vTuple (aCons (eCall f__law_mixed (aCons (eVar 0) (aCons (eVar 1) aNil))) aNil))) sNop)
    (sSeq (sAsg (eCall f__law_pick (aCons (eVar 0) (aCons (eLst (aCons (eC .non) (aCons (eC (.bl true)) (aCons (eC (.int 201)) (aCons (eUn vNeg (eC (.int 201))) (aCons (eC (.str "1")) (aCons (eTup (aCons (eC (.int 0)) (aCons (eC (.int 0)) (aCons (eC (.int 0)) aNil)))) (aCons (eBin vAdd (eBin vIx (eBin vIx (eVar 1) (eVar 3)) (eC (.int 0))) (eC (.int 1))) (aCons (eC (.int 200)) (aCons (eUn vNeg (eC (.int 200))) aNil)))))))))) aNil))) (gN 4))
    (sRet (eBin vAdd (eBin vAdd (eSl vSlc (eVar 1) oNone (oSome (eVar 3))) (eTup (aCons (eTup (aCons (eVar 4) (aCons (eBin vIx (eBin vIx (eVar 1) (eVar 3)) (eC (.int 1))) aNil))) aNil))) (eSl vSlc (eVar 1) (oSome (eBin vAdd (eVar 3) (eC (.int 1)))) oNone)))))))))))))))
def f__law_bent : Fn := runF .fz 2 5 b__law_bent
theorem ar__law_bent : Ar f__law_bent 2 := ar_run
theorem fd__law_bent (T : Hd fa fn K mg) : ∃ fd, FunD (gK K).K "_law_bent" "_law_bent" (defArgs s__law_bent) (defBody s__law_bent) (defScope s__law_bent) [] [] (He.ga K "_law_bent") fd := T.def_ 32
theorem fb__law_bent (T : Hd fa fn K mg) (cdv : Value) (A : Around) (outer : List Env) (s : Shared) (H : Hp) (E : XK) (hr : Room 3 (A.deeper (envOfC "_law_bent" (defScope s__law_bent) s.heap.objs.size (He.ga K "_law_bent") cdv))) : GSs (gK K) (WF E) (cxOf (L2.CX P w) P w (gK K).K mg base ["box", "poly", "way_z", "at_z", "new"] "_law_bent" (defScope s__law_bent) (He.ga K "_law_bent") cdv A outer s H E) (defBody s__law_bent) b__law_bent := by
  have nd := sc__law_bent.nd
  have tk := tk_of (P := P) (w := w) (K := (gK K).K) (mg := mg) (base := base) (N := ["box", "poly", "way_z", "at_z", "new"]) (qual := "_law_bent") (scope := defScope s__law_bent) (f := He.ga K "_law_bent") (cdv := cdv) (A := A) (outer := outer) (s := s) (H := H) (E := E)
  have hu := hu64 hr
  have hu5 := hu65 hr
  exact (gss_cons (gs_par (i := 2) (j := 3) rfl nd rfl rfl (by decide) rfl rfl (ga_cons (ge_call (fg__law_take T) rfl ar__law_take (hr.mono (by decide)) rfl tk (ga_cons (ge_var (pv 0)) (ga_cons (ge_c pe_int) ga_nil)) rfl (fun _ _ _ _ _ _ us hl => match us, hl with | [_, _], _ => rfl)) (ga_cons (ge_call (fg__law_take T) rfl ar__law_take (hr.mono (by decide)) rfl tk (ga_cons (ge_var (pv 0)) (ga_cons (ge_callB (cLen ⟨rfl⟩) rfl (T.free 6) (by decide +kernel) (ga_cons (ge_var (pv 1)) ga_nil)) ga_nil)) rfl (fun _ _ _ _ _ _ us hl => match us, hl with | [_, _], _ => rfl)) ga_nil)))
    (gss_cons (gs_if (gt_cmp (opEq ⟨rfl⟩ hu) (ge_var (pv 2)) (ge_c pe_int) (nomark _)) (gss_one (gs_ret (ge_call (fg__law_in_line T) rfl ar__law_in_line (hr.mono (by decide)) rfl tk (ga_cons (ge_var (pv 0)) (ga_cons (ge_var (pv 1)) ga_nil)) rfl (fun _ _ _ _ _ _ us hl => match us, hl with | [_, _], _ => rfl)))) gss_nil)
    (gss_cons (gs_if (gt_cmp (opEq ⟨rfl⟩ hu) (ge_var (pv 2)) (ge_c pe_int) (nomark _)) (gss_one (gs_ret (ge_rev ⟨rfl⟩ (ge_var (pv 1))))) gss_nil)
    (gss_cons (gs_if (gt_cmp (opEq ⟨rfl⟩ hu) (ge_var (pv 2)) (ge_c pe_int) (nomark _)) (gss_one (gs_ret (ge_call (fg__law_star T) rfl ar__law_star (hr.mono (by decide)) rfl tk (ga_cons (ge_var (pv 1)) ga_nil) rfl (fun _ _ _ _ _ _ us hl => match us, hl with | [_], _ => rfl)))) gss_nil)
    (gss_cons (gs_if (gt_cmp (opEq ⟨rfl⟩ hu) (ge_var (pv 2)) (ge_c pe_int) (nomark _)) (gss_one (gs_ret (ge_bin (opAdd ⟨rfl⟩) (ge_bin (opAdd ⟨rfl⟩) (ge_slice (slAny ⟨rfl⟩) (ge_var (pv 1)) go_none (go_some (ge_var (pv 3)))) (ge_tup (ga_cons (ge_ix (ixAny ⟨rfl⟩) (ge_var (pv 1)) (ge_var (pv 3))) ga_nil))) (ge_slice (slAny ⟨rfl⟩) (ge_var (pv 1)) (go_some (ge_var (pv 3))) go_none)))) gss_nil)
    (gss_cons (gs_if (gt_cmp (opEq ⟨rfl⟩ hu) (ge_var (pv 2)) (ge_c pe_int) (nomark _)) (gss_one (gs_ret (ge_call (fg__law_bowl T) rfl ar__law_bowl (hr.mono (by decide)) rfl tk (ga_cons (ge_var (pv 0)) (ga_cons (ge_c pe_int) ga_nil)) rfl (fun _ _ _ _ _ _ us hl => match us, hl with | [_, _], _ => rfl)))) gss_nil)
    (gss_cons (gs_if (gt_cmp (opEq ⟨rfl⟩ hu) (ge_var (pv 2)) (ge_c pe_int) (nomark _)) (gss_one (gs_ret (ge_slice (slAny ⟨rfl⟩) (ge_var (pv 1)) go_none (go_some (ge_c pe_int))))) gss_nil)
    (gss_cons (gs_if (gt_cmp (opEq ⟨rfl⟩ hu) (ge_var (pv 2)) (ge_c pe_int) (nomark _)) (gss_one (gs_ret (ge_callTy (cList ⟨rfl⟩ rfl) rfl (T.free 27) (by decide +kernel) (ga_cons (ge_var (pv 1)) ga_nil)))) gss_nil)
    (gss_cons (gs_if (gt_cmp (opEq ⟨rfl⟩ hu) (ge_var (pv 2)) (ge_c pe_int) (nomark _)) (gss_one (gs_ret (ge_bin (opAdd ⟨rfl⟩) (ge_bin (opAdd ⟨rfl⟩) (ge_slice (slAny ⟨rfl⟩) (ge_var (pv 1)) go_none (go_some (ge_var (pv 3)))) (ge_tup (ga_cons (ge_callTy (cList ⟨rfl⟩ rfl) rfl (T.free 27) (by decide +kernel) (ga_cons (ge_ix (ixAny ⟨rfl⟩) (ge_var (pv 1)) (ge_var (pv 3))) ga_nil)) ga_nil))) (ge_slice (slAny ⟨rfl⟩) (ge_var (pv 1)) (go_some (ge_bin (opAdd ⟨rfl⟩) (ge_var (pv 3)) (ge_c pe_int))) go_none)))) gss_nil)
    (gss_cons (gs_if (gt_cmp (opEq ⟨rfl⟩ hu) (ge_var (pv 2)) (ge_c pe_int) (nomark _)) (gss_one (gs_ret (ge_bin (opAdd ⟨rfl⟩) (ge_slice (slAny ⟨rfl⟩) (ge_var (pv 1)) go_none (go_some (ge_var (pv 3)))) (ge_slice (slAny ⟨rfl⟩) (ge_var (pv 1)) (go_some (ge_bin (opAdd ⟨rfl⟩) (ge_var (pv 3)) (ge_c pe_int))) go_none)))) gss_nil)
    (gss_cons (gs_if (gt_cmp (opEq ⟨rfl⟩ hu) (ge_var (pv 2)) (ge_c pe_int) (nomark _)) (gss_one (gs_ret (ge_callTy (cTuple ⟨rfl⟩) rfl (T.free 5) (by decide +kernel) (ga_cons (ge_call (fg__law_mixed T) rfl ar__law_mixed (hr.mono (by decide)) rfl tk (ga_cons (ge_var (pv 0)) (ga_cons (ge_var (pv 1)) ga_nil)) rfl (fun _ _ _ _ _ _ us hl => match us, hl with | [_, _], _ => rfl)) ga_nil)))) gss_nil)
    (gss_cons (gs_asg (ge_call (fg__law_pick T) rfl ar__law_pick (hr.mono (by decide)) rfl tk (ga_cons (ge_var (pv 0)) (ga_cons (ge_lst (ga_cons (ge_c pe_non) (ga_cons (ge_c pe_bl) (ga_cons (ge_c pe_int) (ga_cons (ge_un unNeg (ge_c pe_int)) (ga_cons (ge_c pe_str) (ga_cons (ge_tup (ga_cons (ge_c pe_int) (ga_cons (ge_c pe_int) (ga_cons (ge_c pe_int) ga_nil)))) (ga_cons (ge_bin (opAdd ⟨rfl⟩) (ge_ix (ixAny ⟨rfl⟩) (ge_ix (ixAny ⟨rfl⟩) (ge_var (pv 1)) (ge_var (pv 3))) (ge_c pe_int)) (ge_c pe_int)) (ga_cons (ge_c pe_int) (ga_cons (ge_un unNeg (ge_c pe_int)) ga_nil)))))))))) ga_nil)) rfl (fun _ _ _ _ _ _ us hl => match us, hl with | [_, _], _ => rfl)) (gg_name (pg_name (i := 4) nd rfl (Or.inl rfl))))
    (gss_one (gs_ret (ge_bin (opAdd ⟨rfl⟩) (ge_bin (opAdd ⟨rfl⟩) (ge_slice (slAny ⟨rfl⟩) (ge_var (pv 1)) go_none (go_some (ge_var (pv 3)))) (ge_tup (ga_cons (ge_tup (ga_cons (ge_var (pv 4)) (ga_cons (ge_ix (ixAny ⟨rfl⟩) (ge_ix (ixAny ⟨rfl⟩) (ge_var (pv 1)) (ge_var (pv 3))) (ge_c pe_int)) ga_nil))) ga_nil))) (ge_slice (slAny ⟨rfl⟩) (ge_var (pv 1)) (go_some (ge_bin (opAdd ⟨rfl⟩) (ge_var (pv 3)) (ge_c pe_int))) go_none))))))))))))))))
theorem fg__law_bent (T : Hd fa fn K mg) : FnG P w (gK K) mg base 4 "_law_bent" s__law_bent ["box", "poly"] [] f__law_bent := fg_of (T.glo 49) (fd__law_bent T) sc__law_bent (fb__law_bent T)
theorem sc__law_some_poly : FnScope ["box", "way_z"] ["box"] (defScope s__law_some_poly) := ⟨rfl, rfl, rfl, by decide +kernel, rfl, by decide +kernel, by decide +kernel⟩
def b__law_some_poly : DS :=
  (sSeq (sAsg (eCall f__law_take (aCons (eVar 0) (aCons (eC (.int 4)) aNil))) (gN 1))
    (sSeq (sIf (tB' (eBin vEq (eVar 1) (eC (.int 0)))) (sRet (eCall f__law_quarter (aCons (eCall f__law_pick (aCons (eVar 0) (aCons (eCall f__law_shape (aCons (eVar 0) aNil)) aNil))) (aCons (eCall f__law_take (aCons (eVar 0) (aCons (eC (.int 4)) aNil))) aNil)))) sNop)
    (sSeq (sIf (tB' (eBin vEq (eVar 1) (eC (.int 1)))) (sRet (eCall f__law_pick (aCons (eVar 0) (aCons (eLst (aCons (eCall f__law_rect (aCons (eUn vNeg (eC (.int 200))) (aCons (eUn vNeg (eC (.int 200))) (aCons (eC (.int 400)) (aCons (eC (.int 400)) aNil))))) (aCons (eTup (aCons (eTup (aCons (eUn vNeg (eC (.int 200))) (aCons (eUn vNeg (eC (.int 200))) aNil))) (aCons (eTup (aCons (eC (.int 200)) (aCons (eUn vNeg (eC (.int 200))) aNil))) (aCons (eTup (aCons (eUn vNeg (eC (.int 199))) (aCons (eUn vNeg (eC (.int 199))) aNil))) aNil)))) (aCons (eTup (aCons (eTup (aCons (eC (.int 200)) (aCons (eC (.int 0)) aNil))) (aCons (eTup (aCons (eC (.int 100)) (aCons (eC (.int 200)) aNil))) (aCons (eTup (aCons (eUn vNeg (eC (.int 100))) (aCons (eC (.int 200)) aNil))) (aCons (eTup (aCons (eUn vNeg (eC (.int 200))) (aCons (eC (.int 0)) aNil))) (aCons (eTup (aCons (eUn vNeg (eC (.int 100))) (aCons (eUn vNeg (eC (.int 200))) aNil))) (aCons (eTup (aCons (eC (.int 100)) (aCons (eUn vNeg (eC (.int 200))) aNil))) aNil))))))) aNil)))) aNil)))) sNop)
    (sRet (eCall f__law_sent (aCons (eCall f__law_bowl (aCons (eVar 0) (aCons (eBin vAdd (eC (.int 3)) (eCall f__law_take (aCons (eVar 0) (aCons (eC (.int 4)) aNil)))) aNil))) (aCons (eBin vSub (eCall f__law_take (aCons (eVar 0) (aCons (eC (.int 41)) aNil))) (eC (.int 20))) (aCons (eBin vSub (eCall f__law_take (aCons (eVar 0) (aCons (eC (.int 41)) aNil))) (eC (.int 20))) aNil))))))))
def f__law_some_poly : Fn := runF .fz 1 2 b__law_some_poly
theorem ar__law_some_poly : Ar f__law_some_poly 1 := ar_run
theorem fd__law_some_poly (T : Hd fa fn K mg) : ∃ fd, FunD (gK K).K "_law_some_poly" "_law_some_poly" (defArgs s__law_some_poly) (defBody s__law_some_poly) (defScope s__law_some_poly) [] [] (He.ga K "_law_some_poly") fd := T.def_ 33
theorem fb__law_some_poly (T : Hd fa fn K mg) (cdv : Value) (A : Around) (outer : List Env) (s : Shared) (H : Hp) (E : XK) (hr : Room 4 (A.deeper (envOfC "_law_some_poly" (defScope s__law_some_poly) s.heap.objs.size (He.ga K "_law_some_poly") cdv))) : GSs (gK K) (WF E) (cxOf (L2.CX P w) P w (gK K).K mg base ["box", "way_z"] "_law_some_poly" (defScope s__law_some_poly) (He.ga K "_law_some_poly") cdv A outer s H E) (defBody s__law_some_poly) b__law_some_poly := by
  have nd := sc__law_some_poly.nd
  have tk := tk_of (P := P) (w := w) (K := (gK K).K) (mg := mg) (base := base) (N := ["box", "way_z"]) (qual := "_law_some_poly") (scope := defScope s__law_some_poly) (f := He.ga K "_law_some_poly") (cdv := cdv) (A := A) (outer := outer) (s := s) (H := H) (E := E)
  have hu := hu64 hr
  have hu5 := hu65 hr
  exact (gss_cons (gs_asg (ge_call (fg__law_take T) rfl ar__law_take (hr.mono (by decide)) rfl tk (ga_cons (ge_var (pv 0)) (ga_cons (ge_c pe_int) ga_nil)) rfl (fun _ _ _ _ _ _ us hl => match us, hl with | [_, _], _ => rfl)) (gg_name (pg_name (i := 1) nd rfl (Or.inl rfl))))
    (gss_cons (gs_if (gt_cmp (opEq ⟨rfl⟩ hu) (ge_var (pv 1)) (ge_c pe_int) (nomark _)) (gss_one (gs_ret (ge_call (fg__law_quarter T) rfl ar__law_quarter (hr.mono (by decide)) rfl tk (ga_cons (ge_call (fg__law_pick T) rfl ar__law_pick (hr.mono (by decide)) rfl tk (ga_cons (ge_var (pv 0)) (ga_cons (ge_call (fg__law_shape T) rfl ar__law_shape (hr.mono (by decide)) rfl tk (ga_cons (ge_var (pv 0)) ga_nil) rfl (fun _ _ _ _ _ _ us hl => match us, hl with | [_], _ => rfl)) ga_nil)) rfl (fun _ _ _ _ _ _ us hl => match us, hl with | [_, _], _ => rfl)) (ga_cons (ge_call (fg__law_take T) rfl ar__law_take (hr.mono (by decide)) rfl tk (ga_cons (ge_var (pv 0)) (ga_cons (ge_c pe_int) ga_nil)) rfl (fun _ _ _ _ _ _ us hl => match us, hl with | [_, _], _ => rfl)) ga_nil)) rfl (fun _ _ _ _ _ _ us hl => match us, hl with | [_, _], _ => rfl)))) gss_nil)
    (gss_cons (gs_if (gt_cmp (opEq ⟨rfl⟩ hu) (ge_var (pv 1)) (ge_c pe_int) (nomark _)) (gss_one (gs_ret (ge_call (fg__law_pick T) rfl ar__law_pick (hr.mono (by decide)) rfl tk (ga_cons (ge_var (pv 0)) (ga_cons (ge_lst (ga_cons (ge_call (fg__law_rect T) rfl ar__law_rect (hr.mono (by decide)) rfl tk (ga_cons (ge_un unNeg (ge_c pe_int)) (ga_cons (ge_un unNeg (ge_c pe_int)) (ga_cons (ge_c pe_int) (ga_cons (ge_c pe_int) ga_nil)))) rfl (fun _ _ _ _ _ _ us hl => match us, hl with | [_, _, _, _], _ => rfl)) (ga_cons (ge_tup (ga_cons (ge_tup (ga_cons (ge_un unNeg (ge_c pe_int)) (ga_cons (ge_un unNeg (ge_c pe_int)) ga_nil))) (ga_cons (ge_tup (ga_cons (ge_c pe_int) (ga_cons (ge_un unNeg (ge_c pe_int)) ga_nil))) (ga_cons (ge_tup (ga_cons (ge_un unNeg (ge_c pe_int)) (ga_cons (ge_un unNeg (ge_c pe_int)) ga_nil))) ga_nil)))) (ga_cons (ge_tup (ga_cons (ge_tup (ga_cons (ge_c pe_int) (ga_cons (ge_c pe_int) ga_nil))) (ga_cons (ge_tup (ga_cons (ge_c pe_int) (ga_cons (ge_c pe_int) ga_nil))) (ga_cons (ge_tup (ga_cons (ge_un unNeg (ge_c pe_int)) (ga_cons (ge_c pe_int) ga_nil))) (ga_cons (ge_tup (ga_cons (ge_un unNeg (ge_c pe_int)) (ga_cons (ge_c pe_int) ga_nil))) (ga_cons (ge_tup (ga_cons (ge_un unNeg (ge_c pe_int)) (ga_cons (ge_un unNeg (ge_c pe_int)) ga_nil))) (ga_cons (ge_tup (ga_cons (ge_c pe_int) (ga_cons (ge_un unNeg (ge_c pe_int)) ga_nil))) ga_nil))))))) ga_nil)))) ga_nil)) rfl (fun _ _ _ _ _ _ us hl => match us, hl with | [_, _], _ => rfl)))) gss_nil)
    (gss_one (gs_ret (ge_call (fg__law_sent T) rfl ar__law_sent (hr.mono (by decide)) rfl tk (ga_cons (ge_call (fg__law_bowl T) rfl ar__law_bowl (hr.mono (by decide)) rfl tk (ga_cons (ge_var (pv 0)) (ga_cons (ge_bin (opAdd ⟨rfl⟩) (ge_c pe_int) (ge_call (fg__law_take T) rfl ar__law_take (hr.mono (by decide)) rfl tk (ga_cons (ge_var (pv 0)) (ga_cons (ge_c pe_int) ga_nil)) rfl (fun _ _ _ _ _ _ us hl => match us, hl with | [_, _], _ => rfl))) ga_nil)) rfl (fun _ _ _ _ _ _ us hl => match us, hl with | [_, _], _ => rfl)) (ga_cons (ge_bin opSub (ge_call (fg__law_take T) rfl ar__law_take (hr.mono (by decide)) rfl tk (ga_cons (ge_var (pv 0)) (ga_cons (ge_c pe_int) ga_nil)) rfl (fun _ _ _ _ _ _ us hl => match us, hl with | [_, _], _ => rfl)) (ge_c pe_int)) (ga_cons (ge_bin opSub (ge_call (fg__law_take T) rfl ar__law_take (hr.mono (by decide)) rfl tk (ga_cons (ge_var (pv 0)) (ga_cons (ge_c pe_int) ga_nil)) rfl (fun _ _ _ _ _ _ us hl => match us, hl with | [_, _], _ => rfl)) (ge_c pe_int)) ga_nil))) rfl (fun _ _ _ _ _ _ us hl => match us, hl with | [_, _, _], _ => rfl)))))))
theorem fg__law_some_poly (T : Hd fa fn K mg) : FnG P w (gK K) mg base 5 "_law_some_poly" s__law_some_poly ["box"] [] f__law_some_poly := fg_of (T.glo 50) (fd__law_some_poly T) sc__law_some_poly (fb__law_some_poly T)
theorem sc_law : FnScope ["script", "box", "turn", "poly", "x", "due", "told", "size", "k", "late", "flipped"] ["script"] (defScope s_law) := ⟨rfl, rfl, rfl, by decide +kernel, rfl, by decide +kernel, by decide +kernel⟩
def b_law : DS :=
  (sSeq (sAsg (eCall f__law_box (aCons (eVar 0) (aCons (eC (.int 120320303)) aNil))) (gN 1))
    (sSeq (sFor (iRng1' (aCons (eC (.int 10)) aNil)) (gN 2) (sSeq (sAsg (eCall f__law_some_poly (aCons (eVar 1) aNil)) (gN 3))
    (sSeq (sAsg (eCall f__law_pick (aCons (eVar 1) (aCons (eLst (aCons (eVar 3) (aCons (eCall f__law_bent (aCons (eVar 1) (aCons (eVar 3) aNil))) (aCons (eCall f__law_bent (aCons (eVar 1) (aCons (eVar 3) aNil))) (aCons (eCall f__law_bent (aCons (eVar 1) (aCons (eVar 3) aNil))) (aCons (eCall f__law_odd (aCons (eVar 1) aNil)) aNil)))))) aNil))) (gN 4))
    (sSeq (sAsg (eCall f__law_is_poly (aCons (eVar 4) aNil)) (gN 5))
    (sSeq (sIf (tNot' (tB' (eCall (f__law_same 6) (aCons (eLst (aCons (eCall f_is_part (aCons (eVar 4) aNil)) (aCons (eCallK f_is_part [0] 0 1 aNil (aCons (eVar 4) aNil)) aNil))) (aCons (eLst (aCons (eVar 5) (aCons (eVar 5) aNil))) aNil))))) (sRet (eC (.bl false))) sNop)
    (sIf (tB' (eVar 5)) (sSeq (sPar 6 7 (aCons (eCall f__law_told (aCons (eVar 4) aNil)) (aCons (eCall f__law_area (aCons (eVar 4) aNil)) aNil)))
    (sSeq (sFor (iRng1' (aCons (eFn vLen (aCons (eVar 4) aNil)) aNil)) (gN 8) (sSeq (sAsg (eBin vAdd (eSl vSlc (eVar 4) (oSome (eVar 8)) oNone) (eSl vSlc (eVar 4) oNone (oSome (eVar 8)))) (gN 9))
    (sIf (tNot' (tB' (eCall (f__law_same 6) (aCons (eLst (aCons (eCall f_is_part (aCons (eVar 9) aNil)) (aCons (eCall f_part_told (aCons (eVar 9) aNil)) (aCons (eCall f_area_twice (aCons (eVar 9) aNil)) aNil)))) (aCons (eLst (aCons (eC (.bl true)) (aCons (eVar 6) (aCons (eVar 7) aNil)))) aNil))))) (sRet (eC (.bl false))) sNop)))
    (sSeq (sAsg (eCall f__law_flipped (aCons (eVar 4) aNil)) (gN 10))
    (sIf (tNot' (tB' (eCall (f__law_same 6) (aCons (eLst (aCons (eCall f_is_part (aCons (eVar 10) aNil)) (aCons (eCallK f_area_twice [0] 0 1 aNil (aCons (eVar 10) aNil)) (aCons (eCallK f_part_told [0] 0 1 aNil (aCons (eVar 6) aNil)) aNil)))) (aCons (eLst (aCons (eC (.bl true)) (aCons (eVar 7) (aCons (eVar 6) aNil)))) aNil))))) (sRet (eC (.bl false))) sNop)))) sNop))))))
    (sRet (eC (.bl true)))))
def f_law : Fn := runF .fz 1 11 b_law
theorem ar_law : Ar f_law 1 := ar_run
theorem fd_law (T : Hd fa fn K mg) : ∃ fd, FunD (gK K).K "law" "law" (defArgs s_law) (defBody s_law) (defScope s_law) [] [] (He.ga K "law") fd := T.def_ 34
theorem fb_law (T : Hd fa fn K mg) (cdv : Value) (A : Around) (outer : List Env) (s : Shared) (H : Hp) (E : XK) (hr : Room 6 (A.deeper (envOfC "law" (defScope s_law) s.heap.objs.size (He.ga K "law") cdv))) : GSs (gK K) (WF E) (cxOf (L2.CX P w) P w (gK K).K mg base ["script", "box", "turn", "poly", "x", "due", "told", "size", "k", "late", "flipped"] "law" (defScope s_law) (He.ga K "law") cdv A outer s H E) (defBody s_law) b_law := by
  have nd := sc_law.nd
  have tk := tk_of (P := P) (w := w) (K := (gK K).K) (mg := mg) (base := base) (N := ["script", "box", "turn", "poly", "x", "due", "told", "size", "k", "late", "flipped"]) (qual := "law") (scope := defScope s_law) (f := He.ga K "law") (cdv := cdv) (A := A) (outer := outer) (s := s) (H := H) (E := E)
  have hu := hu64 hr
  have hu5 := hu65 hr
  exact (gss_cons (gs_asg (ge_call (fg__law_box T) rfl ar__law_box (hr.mono (by decide)) rfl tk (ga_cons (ge_var (pv 0)) (ga_cons (ge_c pe_int) ga_nil)) rfl (fun _ _ _ _ _ _ us hl => match us, hl with | [_, _], _ => rfl)) (gg_name (pg_name (i := 1) nd rfl (Or.inl rfl))))
    (gss_cons (gs_for po_of rfl (gi_rng1 rfl (T.free 15) (ga_cons (ge_c pe_int) ga_nil)) (gg_name (pg_name (i := 2) nd rfl (Or.inl rfl))) (gss_cons (gs_asg (ge_call (fg__law_some_poly T) rfl ar__law_some_poly (hr.mono (by decide)) rfl tk (ga_cons (ge_var (pv 1)) ga_nil) rfl (fun _ _ _ _ _ _ us hl => match us, hl with | [_], _ => rfl)) (gg_name (pg_name (i := 3) nd rfl (Or.inl rfl))))
    (gss_cons (gs_asg (ge_call (fg__law_pick T) rfl ar__law_pick (hr.mono (by decide)) rfl tk (ga_cons (ge_var (pv 1)) (ga_cons (ge_lst (ga_cons (ge_var (pv 3)) (ga_cons (ge_call (fg__law_bent T) rfl ar__law_bent (hr.mono (by decide)) rfl tk (ga_cons (ge_var (pv 1)) (ga_cons (ge_var (pv 3)) ga_nil)) rfl (fun _ _ _ _ _ _ us hl => match us, hl with | [_, _], _ => rfl)) (ga_cons (ge_call (fg__law_bent T) rfl ar__law_bent (hr.mono (by decide)) rfl tk (ga_cons (ge_var (pv 1)) (ga_cons (ge_var (pv 3)) ga_nil)) rfl (fun _ _ _ _ _ _ us hl => match us, hl with | [_, _], _ => rfl)) (ga_cons (ge_call (fg__law_bent T) rfl ar__law_bent (hr.mono (by decide)) rfl tk (ga_cons (ge_var (pv 1)) (ga_cons (ge_var (pv 3)) ga_nil)) rfl (fun _ _ _ _ _ _ us hl => match us, hl with | [_, _], _ => rfl)) (ga_cons (ge_call (fg__law_odd T) rfl ar__law_odd (hr.mono (by decide)) rfl tk (ga_cons (ge_var (pv 1)) ga_nil) rfl (fun _ _ _ _ _ _ us hl => match us, hl with | [_], _ => rfl)) ga_nil)))))) ga_nil)) rfl (fun _ _ _ _ _ _ us hl => match us, hl with | [_, _], _ => rfl)) (gg_name (pg_name (i := 4) nd rfl (Or.inl rfl))))
    (gss_cons (gs_asg (ge_call (fg__law_is_poly T) rfl ar__law_is_poly (hr.mono (by decide)) rfl tk (ga_cons (ge_var (pv 4)) ga_nil) rfl (fun _ _ _ _ _ _ us hl => match us, hl with | [_], _ => rfl)) (gg_name (pg_name (i := 5) nd rfl (Or.inl rfl))))
    (gss_cons (gs_if (gt_not (gt_val (ge_call (fg__law_same T 6) rfl (ar__law_same 6) (hr.mono (by decide)) rfl tk (ga_cons (ge_lst (ga_cons (ge_call (fg_is_part T) rfl ar_is_part (hr.mono (by decide)) rfl tk (ga_cons (ge_var (pv 4)) ga_nil) rfl (fun _ _ _ _ _ _ us hl => match us, hl with | [_], _ => rfl)) (ga_cons (ge_callK0 (ix := [0]) (ks := ["value"]) (fg_is_part T) rfl ar_is_part (hr.mono (by decide)) rfl tk (gk_cons (ge_var (pv 4)) gk_nil) rfl (fun _ _ _ _ _ _ ws hl => match ws, hl with | [_], _ => rfl)) ga_nil))) (ga_cons (ge_lst (ga_cons (ge_var (pv 5)) (ga_cons (ge_var (pv 5)) ga_nil))) ga_nil)) rfl (fun _ _ _ _ _ _ us hl => match us, hl with | [_, _], _ => rfl)))) (gss_one (gs_ret (ge_c pe_bl))) gss_nil)
    (gss_one (gs_if (gt_val (ge_var (pv 5))) (gss_cons (gs_par (i := 6) (j := 7) rfl nd rfl rfl (by decide) rfl rfl (ga_cons (ge_call (fg__law_told T) rfl ar__law_told (hr.mono (by decide)) rfl tk (ga_cons (ge_var (pv 4)) ga_nil) rfl (fun _ _ _ _ _ _ us hl => match us, hl with | [_], _ => rfl)) (ga_cons (ge_call (fg__law_area T) rfl ar__law_area (hr.mono (by decide)) rfl tk (ga_cons (ge_var (pv 4)) ga_nil) rfl (fun _ _ _ _ _ _ us hl => match us, hl with | [_], _ => rfl)) ga_nil)))
    (gss_cons (gs_for po_of rfl (gi_rng1 rfl (T.free 15) (ga_cons (ge_callB (cLen ⟨rfl⟩) rfl (T.free 6) (by decide +kernel) (ga_cons (ge_var (pv 4)) ga_nil)) ga_nil)) (gg_name (pg_name (i := 8) nd rfl (Or.inl rfl))) (gss_cons (gs_asg (ge_bin (opAdd ⟨rfl⟩) (ge_slice (slAny ⟨rfl⟩) (ge_var (pv 4)) (go_some (ge_var (pv 8))) go_none) (ge_slice (slAny ⟨rfl⟩) (ge_var (pv 4)) go_none (go_some (ge_var (pv 8))))) (gg_name (pg_name (i := 9) nd rfl (Or.inl rfl))))
    (gss_one (gs_if (gt_not (gt_val (ge_call (fg__law_same T 6) rfl (ar__law_same 6) (hr.mono (by decide)) rfl tk (ga_cons (ge_lst (ga_cons (ge_call (fg_is_part T) rfl ar_is_part (hr.mono (by decide)) rfl tk (ga_cons (ge_var (pv 9)) ga_nil) rfl (fun _ _ _ _ _ _ us hl => match us, hl with | [_], _ => rfl)) (ga_cons (ge_call (fg_part_told T) rfl ar_part_told (hr.mono (by decide)) rfl tk (ga_cons (ge_var (pv 9)) ga_nil) rfl (fun _ _ _ _ _ _ us hl => match us, hl with | [_], _ => rfl)) (ga_cons (ge_call (fg_area_twice T) rfl ar_area_twice (hr.mono (by decide)) rfl tk (ga_cons (ge_var (pv 9)) ga_nil) rfl (fun _ _ _ _ _ _ us hl => match us, hl with | [_], _ => rfl)) ga_nil)))) (ga_cons (ge_lst (ga_cons (ge_c pe_bl) (ga_cons (ge_var (pv 6)) (ga_cons (ge_var (pv 7)) ga_nil)))) ga_nil)) rfl (fun _ _ _ _ _ _ us hl => match us, hl with | [_, _], _ => rfl)))) (gss_one (gs_ret (ge_c pe_bl))) gss_nil))))
    (gss_cons (gs_asg (ge_call (fg__law_flipped T) rfl ar__law_flipped (hr.mono (by decide)) rfl tk (ga_cons (ge_var (pv 4)) ga_nil) rfl (fun _ _ _ _ _ _ us hl => match us, hl with | [_], _ => rfl)) (gg_name (pg_name (i := 10) nd rfl (Or.inl rfl))))
    (gss_one (gs_if (gt_not (gt_val (ge_call (fg__law_same T 6) rfl (ar__law_same 6) (hr.mono (by decide)) rfl tk (ga_cons (ge_lst (ga_cons (ge_call (fg_is_part T) rfl ar_is_part (hr.mono (by decide)) rfl tk (ga_cons (ge_var (pv 10)) ga_nil) rfl (fun _ _ _ _ _ _ us hl => match us, hl with | [_], _ => rfl)) (ga_cons (ge_callK0 (ix := [0]) (ks := ["part"]) (fg_area_twice T) rfl ar_area_twice (hr.mono (by decide)) rfl tk (gk_cons (ge_var (pv 10)) gk_nil) rfl (fun _ _ _ _ _ _ ws hl => match ws, hl with | [_], _ => rfl)) (ga_cons (ge_callK0 (ix := [0]) (ks := ["part"]) (fg_part_told T) rfl ar_part_told (hr.mono (by decide)) rfl tk (gk_cons (ge_var (pv 6)) gk_nil) rfl (fun _ _ _ _ _ _ ws hl => match ws, hl with | [_], _ => rfl)) ga_nil)))) (ga_cons (ge_lst (ga_cons (ge_c pe_bl) (ga_cons (ge_var (pv 7)) (ga_cons (ge_var (pv 6)) ga_nil)))) ga_nil)) rfl (fun _ _ _ _ _ _ us hl => match us, hl with | [_, _], _ => rfl)))) (gss_one (gs_ret (ge_c pe_bl))) gss_nil))))) gss_nil)))))))
    (gss_one (gs_ret (ge_c pe_bl)))))
theorem fg_law (T : Hd fa fn K mg) : FnG P w (gK K) mg base 7 "law" s_law ["script"] [] f_law := fg_of (T.glo 51) (fd_law T) sc_law (fb_law T)
end
end Lw

set_option Elab.async false
set_option linter.all false
set_option maxRecDepth 100000
set_option maxHeartbeats 4000000
/-! SD, the plain side: how the shallow functions are reckoned (by simp), step by step, no continuation is opened before its turn. -/
namespace SD
open PySem PySem.Spec PyProof.Rows L2

section
variable {α β : Type} {ρ : En} {μ μ1 : Sto} {d : DV}
@[simp] theorem of_some {a : α} : R.of (some a) μ = .ok a μ := rfl
@[simp] theorem of_none : (R.of none μ : R α) = .stuck := rfl
@[simp] theorem ofS_some {a : α} : R.ofS (some (a, μ)) = .ok a μ := rfl
@[simp] theorem ofS_none : (R.ofS none : R α) = .stuck := rfl
@[simp] theorem eC_ap : eC d ρ μ = .ok d μ := rfl
@[simp] theorem eVar_ap {i : Nat} : eVar i ρ μ = match ρ[i]? with
  | some (some d) => .ok d μ
  | _ => .stuck := rfl
/-! defunctionalised continuations -/
def R.un (f : V1) (r : R DV) : R DV := match r with
  | .ok x μ => R.of (f x μ) μ
  | .ex c ns xs μ => .ex c ns xs μ
  | .stuck => .stuck
def R.bin1 (f : V2) (r : R DV) (b : DE) (ρ : En) : R DV := r.bind fun x μ1 => (b ρ μ1).bind fun y μ2 => R.of (f x y μ2) μ2
def R.bin2 (f : V2) (x : DV) (r : R DV) : R DV := r.bind fun y μ2 => R.of (f x y μ2) μ2
@[simp] theorem eUn_ap {f : V1} {a : DE} : eUn f a ρ μ = R.un f (a ρ μ) := by unfold eUn R.un R.bind; cases a ρ μ <;> rfl
@[simp] theorem un_ok {f : V1} {x : DV} : R.un f (.ok x μ) = R.of (f x μ) μ := rfl
@[simp] theorem eBin_ap {f : V2} {a b : DE} : eBin f a b ρ μ = R.bin1 f (a ρ μ) b ρ := rfl
@[simp] theorem bin1_ok {f : V2} {x : DV} {b : DE} : R.bin1 f (.ok x μ) b ρ = R.bin2 f x (b ρ μ) := rfl
@[simp] theorem bin2_ok {f : V2} {x y : DV} : R.bin2 f x (.ok y μ) = R.of (f x y μ) μ := rfl
def R.tb (r : R DV) : R Bool := r.bind fun d μ1 => R.of (asB d) μ1
@[simp] theorem tB_ap {f : DE} : tB' f ρ μ = (f ρ μ).tb := rfl
@[simp] theorem tb_ok {b : Bool} : (R.ok (.bl b) μ).tb = .ok b μ := rfl
def R.ch1 (f f' : V2) (r : R DV) (b c : DE) (ρ : En) : R DV := r.bind fun x μ1 => (b ρ μ1).bind fun y μ2 => (R.of ((f x y μ2).bind asB) μ2).bind fun k μ3 =>
  if k = true then (c ρ μ3).bind fun z μ4 => R.of (f' y z μ4) μ4 else .ok (.bl false) μ3
def R.ch2 (f f' : V2) (x : DV) (r : R DV) (c : DE) (ρ : En) : R DV := r.bind fun y μ2 => (R.of ((f x y μ2).bind asB) μ2).bind fun k μ3 =>
  if k = true then (c ρ μ3).bind fun z μ4 => R.of (f' y z μ4) μ4 else .ok (.bl false) μ3
def R.ch3 (f' : V2) (y : DV) (r : R Bool) (c : DE) (ρ : En) : R DV := r.bind fun k μ3 => if k = true then (c ρ μ3).bind fun z μ4 => R.of (f' y z μ4) μ4 else .ok (.bl false) μ3
@[simp] theorem eChain_ap {f f' : V2} {a b c : DE} : eChain f f' a b c ρ μ = R.ch1 f f' (a ρ μ) b c ρ := rfl
@[simp] theorem ch1_ok {f f' : V2} {x : DV} {b c : DE} : R.ch1 f f' (.ok x μ) b c ρ = R.ch2 f f' x (b ρ μ) c ρ := rfl
@[simp] theorem ch2_ok {f f' : V2} {x y : DV} {c : DE} : R.ch2 f f' x (.ok y μ) c ρ = R.ch3 f' y (R.of ((f x y μ).bind asB) μ) c ρ := rfl
@[simp] theorem ch3_t {f' : V2} {y : DV} {c : DE} : R.ch3 f' y (.ok true μ) c ρ = R.bin2 f' y (c ρ μ) := rfl
@[simp] theorem ch3_f {f' : V2} {y : DV} {c : DE} : R.ch3 f' y (.ok false μ) c ρ = .ok (.bl false) μ := rfl
@[simp] theorem asB_bl {b : Bool} : asB (.bl b) = some b := rfl
def R.tand (r : R Bool) (u : DT) (ρ : En) : R Bool := r.bind fun b μ1 => if b = true then u ρ μ1 else .ok false μ1
def R.tor (r : R Bool) (u : DT) (ρ : En) : R Bool := r.bind fun b μ1 => if b = true then .ok true μ1 else u ρ μ1
def R.tnot (r : R Bool) : R Bool := r.bind fun b μ1 => .ok (!b) μ1
@[simp] theorem tAnd_ap {t u : DT} : tAnd' t u ρ μ = R.tand (t ρ μ) u ρ := rfl
@[simp] theorem tOr_ap {t u : DT} : tOr' t u ρ μ = R.tor (t ρ μ) u ρ := rfl
@[simp] theorem tNot_ap {t : DT} : tNot' t ρ μ = R.tnot (t ρ μ) := rfl
@[simp] theorem tand_t {u : DT} : R.tand (.ok true μ) u ρ = u ρ μ := rfl
@[simp] theorem tand_f {u : DT} : R.tand (.ok false μ) u ρ = .ok false μ := rfl
@[simp] theorem tor_t {u : DT} : R.tor (.ok true μ) u ρ = .ok true μ := rfl
@[simp] theorem tor_f {u : DT} : R.tor (.ok false μ) u ρ = u ρ μ := rfl
@[simp] theorem tnot_ok {b : Bool} : R.tnot (.ok b μ) = .ok (!b) μ := rfl
def R.eand (r : R DV) (b : DE) (ρ : En) : R DV := r.bind fun x μ1 => (R.of (asB x) μ1).bind fun k μ2 => if k = true then b ρ μ2 else .ok (.bl false) μ2
def R.eor (r : R DV) (b : DE) (ρ : En) : R DV := r.bind fun x μ1 => (R.of (asB x) μ1).bind fun k μ2 => if k = true then .ok (.bl true) μ2 else b ρ μ2
def R.enot (r : R DV) : R DV := r.bind fun x μ1 => (R.of (asB x) μ1).bind fun k μ2 => .ok (.bl (!k)) μ2
@[simp] theorem eAnd_ap {a b : DE} : eAnd a b ρ μ = R.eand (a ρ μ) b ρ := rfl
@[simp] theorem eOr_ap {a b : DE} : eOr a b ρ μ = R.eor (a ρ μ) b ρ := rfl
@[simp] theorem eNot_ap {a : DE} : eNot a ρ μ = R.enot (a ρ μ) := rfl
@[simp] theorem eand_t {b : DE} : R.eand (.ok (.bl true) μ) b ρ = b ρ μ := rfl
@[simp] theorem eand_f {b : DE} : R.eand (.ok (.bl false) μ) b ρ = .ok (.bl false) μ := rfl
@[simp] theorem eor_t {b : DE} : R.eor (.ok (.bl true) μ) b ρ = .ok (.bl true) μ := rfl
@[simp] theorem eor_f {b : DE} : R.eor (.ok (.bl false) μ) b ρ = b ρ μ := rfl
@[simp] theorem enot_ok {b : Bool} : R.enot (.ok (.bl b) μ) = .ok (.bl (!b)) μ := rfl
def R.eif (r : R Bool) (a b : DE) (ρ : En) : R DV := r.bind fun k μ1 => if k = true then a ρ μ1 else b ρ μ1
@[simp] theorem eIf_ap {t : DT} {a b : DE} : eIf t a b ρ μ = R.eif (t ρ μ) a b ρ := rfl
@[simp] theorem eif_t {a b : DE} : R.eif (.ok true μ) a b ρ = a ρ μ := rfl
@[simp] theorem eif_f {a b : DE} : R.eif (.ok false μ) a b ρ = b ρ μ := rfl
def R.ac1 (r : R DV) (q : DA) (ρ : En) : R (List DV) := r.bind fun x μ1 => (q ρ μ1).bind fun xs μ2 => .ok (x :: xs) μ2
def R.ac2 (x : DV) (r : R (List DV)) : R (List DV) := r.bind fun xs μ2 => .ok (x :: xs) μ2
@[simp] theorem aNil_ap : aNil ρ μ = .ok [] μ := rfl
@[simp] theorem aCons_ap {a : DE} {r : DA} : aCons a r ρ μ = R.ac1 (a ρ μ) r ρ := rfl
@[simp] theorem ac1_ok {x : DV} {r : DA} : R.ac1 (.ok x μ) r ρ = R.ac2 x (r ρ μ) := rfl
@[simp] theorem ac2_ok {x : DV} {xs : List DV} : R.ac2 x (.ok xs μ) = .ok (x :: xs) μ := rfl
def R.mk (f : List DV → Sto → R DV) (r : R (List DV)) : R DV := r.bind f
@[simp] theorem mk_ok {f : List DV → Sto → R DV} {xs : List DV} : R.mk f (.ok xs μ) = f xs μ := rfl
def mkT : List DV → Sto → R DV := fun xs μ1 => if okLen xs.length = true then .ok (.tup xs) μ1 else .stuck
def mkL : List DV → Sto → R DV := fun xs μ1 => if okLen xs.length = true then .ok (.lst xs) μ1 else .stuck
def mkC : List DV → Sto → R DV := fun xs μ1 => if okLen xs.length = true then .ok (.cell μ1.length) (μ1 ++ [.lst xs]) else .stuck
@[simp] theorem eTup_ap {r : DA} : eTup r ρ μ = R.mk mkT (r ρ μ) := rfl
@[simp] theorem eLst_ap {r : DA} : eLst r ρ μ = R.mk mkL (r ρ μ) := rfl
@[simp] theorem eLstC_ap {r : DA} : eLstC r ρ μ = R.mk mkC (r ρ μ) := rfl
theorem okLen_small {n : Nat} (h : n ≤ 16777216) : okLen n = true := okLen_iff.mpr (by rw [sizeLine_eq]; exact h)
theorem mkT_small {xs : List DV} (h : xs.length ≤ 16777216) : mkT xs μ = .ok (.tup xs) μ := if_pos (okLen_small h)
theorem mkL_small {xs : List DV} (h : xs.length ≤ 16777216) : mkL xs μ = .ok (.lst xs) μ := if_pos (okLen_small h)
theorem mkC_small {xs : List DV} (h : xs.length ≤ 16777216) : mkC xs μ = .ok (.cell μ.length) (μ ++ [.lst xs]) := if_pos (okLen_small h)
@[simp] theorem mkT0 : mkT [] μ = .ok (.tup []) μ := mkT_small (by decide)
@[simp] theorem mkL0 : mkL [] μ = .ok (.lst []) μ := mkL_small (by decide)
@[simp] theorem mkC0 : mkC [] μ = .ok (.cell μ.length) (μ ++ [.lst []]) := mkC_small (by decide)
@[simp] theorem mkT1 {a : DV} : mkT [a] μ = .ok (.tup [a]) μ := mkT_small (by show 1 ≤ _; decide)
@[simp] theorem mkT2 {a b : DV} : mkT [a, b] μ = .ok (.tup [a, b]) μ := mkT_small (by show 2 ≤ _; decide)
@[simp] theorem mkT3 {a b c : DV} : mkT [a, b, c] μ = .ok (.tup [a, b, c]) μ := mkT_small (by show 3 ≤ _; decide)
@[simp] theorem mkL1 {a : DV} : mkL [a] μ = .ok (.lst [a]) μ := mkL_small (by show 1 ≤ _; decide)
@[simp] theorem mkL2 {a b : DV} : mkL [a, b] μ = .ok (.lst [a, b]) μ := mkL_small (by show 2 ≤ _; decide)
@[simp] theorem mkL3 {a b c : DV} : mkL [a, b, c] μ = .ok (.lst [a, b, c]) μ := mkL_small (by show 3 ≤ _; decide)
@[simp] theorem eFn_ap {f : VN} {r : DA} : eFn f r ρ μ = R.mk (fun xs μ1 => R.of (f xs μ1) μ1) (r ρ μ) := rfl
@[simp] theorem eCall_ap {F : Fn} {r : DA} : eCall F r ρ μ = R.mk F (r ρ μ) := rfl
@[simp] theorem eCallD_ap {F : Fn} {ds : List DV} {r : DA} : eCallD F ds r ρ μ = R.mk (fun xs μ1 => F (xs ++ ds) μ1) (r ρ μ) := rfl
def R.ck1 (F : Fn) (ix : List Nat) (n m : Nat) (r : R (List DV)) (k : DA) (ρ : En) : R DV := r.bind fun xs μ1 => (k ρ μ1).bind fun ys μ2 => if xs.length = n ∧ ys.length = m then F (permL ix (xs ++ ys)) μ2 else .stuck
def R.ck2 (F : Fn) (ix : List Nat) (n m : Nat) (xs : List DV) (r : R (List DV)) : R DV := r.bind fun ys μ2 => if xs.length = n ∧ ys.length = m then F (permL ix (xs ++ ys)) μ2 else .stuck
@[simp] theorem eCallK_ap {F : Fn} {ix : List Nat} {n m : Nat} {r k : DA} : eCallK F ix n m r k ρ μ = R.ck1 F ix n m (r ρ μ) k ρ := rfl
@[simp] theorem ck1_ok {F : Fn} {ix : List Nat} {n m : Nat} {xs : List DV} {k : DA} : R.ck1 F ix n m (.ok xs μ) k ρ = R.ck2 F ix n m xs (k ρ μ) := rfl
@[simp] theorem ck2_ok {F : Fn} {ix : List Nat} {n m : Nat} {xs ys : List DV} : R.ck2 F ix n m xs (.ok ys μ) = if xs.length = n ∧ ys.length = m then F (permL ix (xs ++ ys)) μ else .stuck := rfl
def R.o1 (r : R DV) : R (Option Int) := r.bind fun x μ1 => (R.of (asI x) μ1).bind fun i μ2 => .ok (some i) μ2
@[simp] theorem oNone_ap : oNone ρ μ = .ok none μ := rfl
@[simp] theorem oSome_ap {a : DE} : oSome a ρ μ = R.o1 (a ρ μ) := rfl
@[simp] theorem o1_ok {i : Int} : R.o1 (.ok (.int i) μ) = .ok (some i) μ := rfl
def R.sl1 (f : VSl) (r : R DV) (lo hi : DO) (ρ : En) : R DV := r.bind fun x μ1 => (lo ρ μ1).bind fun l μ2 => (hi ρ μ2).bind fun u μ3 => R.of (f x l u μ3) μ3
def R.sl2 (f : VSl) (x : DV) (r : R (Option Int)) (hi : DO) (ρ : En) : R DV := r.bind fun l μ2 => (hi ρ μ2).bind fun u μ3 => R.of (f x l u μ3) μ3
def R.sl3 (f : VSl) (x : DV) (l : Option Int) (r : R (Option Int)) : R DV := r.bind fun u μ3 => R.of (f x l u μ3) μ3
@[simp] theorem eSl_ap {f : VSl} {a : DE} {lo hi : DO} : eSl f a lo hi ρ μ = R.sl1 f (a ρ μ) lo hi ρ := rfl
@[simp] theorem sl1_ok {f : VSl} {x : DV} {lo hi : DO} : R.sl1 f (.ok x μ) lo hi ρ = R.sl2 f x (lo ρ μ) hi ρ := rfl
@[simp] theorem sl2_ok {f : VSl} {x : DV} {l : Option Int} {hi : DO} : R.sl2 f x (.ok l μ) hi ρ = R.sl3 f x l (hi ρ μ) := rfl
@[simp] theorem sl3_ok {f : VSl} {x : DV} {l u : Option Int} : R.sl3 f x l (.ok u μ) = R.of (f x l u μ) μ := rfl
def R.bm1 (T : String) (f : VM) (r : R DV) (q : DA) (ρ : En) : R DV := r.bind fun x μ1 => if recv T x μ1 = true then (q ρ μ1).bind fun xs μ2 => R.ofS (f x xs μ2) else .stuck
def R.bm2 (f : VM) (x : DV) (r : R (List DV)) : R DV := r.bind fun xs μ2 => R.ofS (f x xs μ2)
@[simp] theorem eBm_ap {T : String} {f : VM} {o : DE} {r : DA} : eBm T f o r ρ μ = R.bm1 T f (o ρ μ) r ρ := rfl
@[simp] theorem bm1_ok {T : String} {f : VM} {x : DV} {q : DA} : R.bm1 T f (.ok x μ) q ρ = if recv T x μ = true then R.bm2 f x (q ρ μ) else .stuck := rfl
@[simp] theorem bm2_ok {f : VM} {x : DV} {xs : List DV} : R.bm2 f x (.ok xs μ) = R.ofS (f x xs μ) := rfl
def R.bm0 (T : String) (f : VM) (r : R DV) : R DV := r.bind fun x μ1 => if recv T x μ1 = true then R.ofS (f x [] μ1) else .stuck
@[simp] theorem eBm0_ap {T : String} {f : VM} {o : DE} : eBm0 T f o ρ μ = R.bm0 T f (o ρ μ) := rfl
@[simp] theorem bm0_ok {T : String} {f : VM} {x : DV} : R.bm0 T f (.ok x μ) = if recv T x μ = true then R.ofS (f x [] μ) else .stuck := rfl
@[simp] theorem recv_str {x : Str} : recv "str" (.str x) μ = true := rfl
@[simp] theorem recv_cell {i : Nat} {xs : List DV} (h : μ[i]? = some (.lst xs)) : recv "list" (.cell i) μ = true := by simp only [recv, h]; rfl

/-! statements -/
@[simp] theorem sNop_ap : sNop ρ μ = .nx ρ μ := rfl
@[simp] theorem sBrk_ap : sBrk ρ μ = .bk ρ μ := rfl
@[simp] theorem sCnt_ap : sCnt ρ μ = .ct ρ μ := rfl
@[simp] theorem sRetN_ap : sRetN ρ μ = .rt .non μ := rfl
def SR.seq (r : SR) (h : DS) : SR := match r with
  | .nx ρ' μ' => h ρ' μ'
  | r => r
@[simp] theorem sSeq_ap {f h : DS} : sSeq f h ρ μ = SR.seq (f ρ μ) h := rfl
@[simp] theorem seq_nx {h : DS} : SR.seq (.nx ρ μ) h = h ρ μ := rfl
@[simp] theorem seq_rt {h : DS} : SR.seq (.rt d μ) h = .rt d μ := rfl
@[simp] theorem seq_bk {h : DS} : SR.seq (.bk ρ μ) h = .bk ρ μ := rfl
@[simp] theorem seq_ct {h : DS} : SR.seq (.ct ρ μ) h = .ct ρ μ := rfl
@[simp] theorem seq_ex {h : DS} {c : Nat} {ns : List Str} {xs : List DV} : SR.seq (.ex c ns xs ρ μ) h = .ex c ns xs ρ μ := rfl
def R.ret (r : R DV) (ρ : En) : SR := r.toS ρ fun d μ1 => .rt d μ1
def R.xpr (r : R DV) (ρ : En) : SR := r.toS ρ fun _ μ1 => .nx ρ μ1
def R.sif (r : R Bool) (f h : DS) (ρ : En) : SR := r.toS ρ fun k μ1 => if k = true then f ρ μ1 else h ρ μ1
def R.asg (r : R DV) (t : DG) (ρ : En) : SR := r.toS ρ fun d μ1 => match t d ρ μ1 with
  | some ρ' => .nx ρ' μ1
  | none => .stuck
def R.par (i j : Nat) (r : R (List DV)) (ρ : En) : SR := r.toS ρ fun ds μ1 => match ds with
  | [d, e] => .nx ((ρ.set i (some d)).set j (some e)) μ1
  | _ => .stuck
@[simp] theorem sRet_ap {a : DE} : sRet a ρ μ = R.ret (a ρ μ) ρ := rfl
@[simp] theorem ret_ok : R.ret (.ok d μ) ρ = .rt d μ := rfl
@[simp] theorem ret_ex {c : Nat} {ns : List Str} {xs : List DV} : R.ret (.ex c ns xs μ) ρ = .ex c ns xs ρ μ := rfl
@[simp] theorem sExpr_ap {a : DE} : sExpr a ρ μ = R.xpr (a ρ μ) ρ := rfl
@[simp] theorem xpr_ok : R.xpr (.ok d μ) ρ = .nx ρ μ := rfl
@[simp] theorem sIf_ap {t : DT} {f h : DS} : sIf t f h ρ μ = R.sif (t ρ μ) f h ρ := rfl
@[simp] theorem sif_t {f h : DS} : R.sif (.ok true μ) f h ρ = f ρ μ := rfl
@[simp] theorem sif_f {f h : DS} : R.sif (.ok false μ) f h ρ = h ρ μ := rfl
@[simp] theorem sAsg_ap {a : DE} {t : DG} : sAsg a t ρ μ = R.asg (a ρ μ) t ρ := rfl
@[simp] theorem asg_ok {t : DG} : R.asg (.ok d μ) t ρ = match t d ρ μ with
  | some ρ' => .nx ρ' μ
  | none => .stuck := rfl
@[simp] theorem sPar_ap {i j : Nat} {r : DA} : sPar i j r ρ μ = R.par i j (r ρ μ) ρ := rfl
@[simp] theorem par_ok {i j : Nat} {d e : DV} : R.par i j (.ok [d, e] μ) ρ = .nx ((ρ.set i (some d)).set j (some e)) μ := rfl
def R.par3 (i j l : Nat) (r : R (List DV)) (ρ : En) : SR := r.toS ρ fun ds μ1 => match ds with
  | [d, e, f] => .nx (((ρ.set i (some d)).set j (some e)).set l (some f)) μ1
  | _ => .stuck
@[simp] theorem sPar3_ap {i j l : Nat} {r : DA} : sPar3 i j l r ρ μ = R.par3 i j l (r ρ μ) ρ := rfl
@[simp] theorem par3_ok {i j l : Nat} {d e f : DV} : R.par3 i j l (.ok [d, e, f] μ) ρ = .nx (((ρ.set i (some d)).set j (some e)).set l (some f)) μ := rfl
@[simp] theorem gUnl_ap {f : DGs} {n : Nat} {xs : List DV} : gUnl' f n (.lst xs) ρ μ = if xs.length = n then f xs ρ μ else none := rfl
@[simp] theorem gN_ap {i : Nat} : gN i d ρ μ = some (ρ.set i (some d)) := rfl
@[simp] theorem gNil_ap : gNil' [] ρ μ = some ρ := rfl
@[simp] theorem gCons_ap {f : DG} {fs : DGs} {ds : List DV} : gCons' f fs (d :: ds) ρ μ = (f d ρ μ).bind fun ρ' => fs ds ρ' μ := rfl
@[simp] theorem gTup_ap {f : DGs} {n : Nat} {xs : List DV} : gTup' f n (.tup xs) ρ μ = if xs.length = n then f xs ρ μ else none := rfl
def R.st1 (r : R DV) (o i : DE) (ρ : En) : SR := r.toS ρ fun y μ1 => (o ρ μ1).toS ρ fun d μ2 => (i ρ μ2).toS ρ fun k μ3 => match d, k with
  | .cell c, .int k => match μ3[c]? with
    | some (.lst xs) => match ixN xs.length k with
      | some j => .nx ρ (μ3.set c (.lst (xs.set j y)))
      | none => .stuck
    | _ => .stuck
  | _, _ => .stuck
def R.st2 (y : DV) (r : R DV) (i : DE) (ρ : En) : SR := r.toS ρ fun d μ2 => (i ρ μ2).toS ρ fun k μ3 => match d, k with
  | .cell c, .int k => match μ3[c]? with
    | some (.lst xs) => match ixN xs.length k with
      | some j => .nx ρ (μ3.set c (.lst (xs.set j y)))
      | none => .stuck
    | _ => .stuck
  | _, _ => .stuck
def setAt (c : Nat) (k : Int) (y : DV) (ρ : En) (μ3 : Sto) : SR := match μ3[c]? with
    | some (.lst xs) => match ixN xs.length k with
      | some j => .nx ρ (μ3.set c (.lst (xs.set j y)))
      | none => .stuck
    | _ => .stuck
def R.st3 (y d : DV) (r : R DV) (ρ : En) : SR := r.toS ρ fun k μ3 => match d, k with
  | .cell c, .int k => setAt c k y ρ μ3
  | _, _ => .stuck
@[simp] theorem sSetIx_ap {e o i : DE} : sSetIx e o i ρ μ = R.st1 (e ρ μ) o i ρ := rfl
@[simp] theorem st1_ok {y : DV} {o i : DE} : R.st1 (.ok y μ) o i ρ = R.st2 y (o ρ μ) i ρ := rfl
@[simp] theorem st2_ok {y : DV} {i : DE} : R.st2 y (.ok d μ) i ρ = R.st3 y d (i ρ μ) ρ := rfl
@[simp] theorem st3_ok {y : DV} {c : Nat} {k : Int} : R.st3 y (.cell c) (.ok (.int k) μ) ρ = setAt c k y ρ μ := rfl

/-! defs -/
theorem finF_same : finF μ.length d μ = .ok d μ := if_pos rfl
@[simp] theorem fin_same : fin .fz μ.length d μ = .ok d μ := finF_same
def SR.fin (md : Md) (n : Nat) (r : SR) : R DV := match r with
  | .nx _ μ' => SD.fin md n .non μ'
  | .rt d μ' => SD.fin md n d μ'
  | .ex c ns xs _ μ' => finX n c ns xs μ'
  | _ => .stuck
theorem runF_ap {md : Md} {np n : Nat} {b : DS} {ds : List DV} (h : ds.length = np) : runF md np n b ds μ = SR.fin md μ.length (b (ds.map some ++ List.replicate (n - ds.length) none) μ) := by
  unfold runF SR.fin
  rw [if_pos h]
  try (cases b (ds.map some ++ List.replicate (n - ds.length) none) μ <;> rfl)
@[simp] theorem sfin_rt {md : Md} {n : Nat} : SR.fin md n (.rt d μ) = fin md n d μ := rfl
@[simp] theorem sfin_nx {md : Md} {n : Nat} : SR.fin md n (.nx ρ μ) = fin md n .non μ := rfl
theorem fin_len {n : Nat} (h : μ.length = n) : fin .fz n d μ = .ok d μ := by subst h; exact finF_same

/-! loops over what stays -/
def loopD (t : DG) (f : DS) : List DV → DS
  | [] => fun ρ μ => .nx ρ μ
  | d :: ds => fun ρ μ => match t d ρ μ with
    | none => .stuck
    | some ρ1 => match f ρ1 μ with
      | .nx ρ' μ' => loopD t f ds ρ' μ'
      | .ct ρ' μ' => loopD t f ds ρ' μ'
      | .bk ρ' μ' => .nx ρ' μ'
      | r => r
theorem loopF_fix {t : DG} {f : DS} : ∀ (n k : Nat) (ds : List DV) (ρ : En) (μ : Sto), ds.length + 1 = n + k → k ≤ ds.length → loopF (.fix ds) t f n k ρ μ = loopD t f (ds.drop k) ρ μ
  | 0, k, ds, ρ, μ, h, hk => by omega
  | n + 1, k, ds, ρ, μ, h, hk => by
    unfold loopF
    show (match (some ds[k]? : Option (Option DV)) with
      | none => SR.stuck
      | some none => .nx ρ μ
      | some (some d) => match t d ρ μ with
        | none => .stuck
        | some ρ1 => match f ρ1 μ with
          | .nx ρ' μ' => loopF (.fix ds) t f n (k + 1) ρ' μ'
          | .ct ρ' μ' => loopF (.fix ds) t f n (k + 1) ρ' μ'
          | .bk ρ' μ' => .nx ρ' μ'
          | r => r) = _
    by_cases hl : k < ds.length
    · have e : ds[k]? = some ds[k] := List.getElem?_eq_getElem hl
      rw [List.drop_eq_getElem_cons hl, e]
      unfold loopD
      simp only
      cases t ds[k] ρ μ with
      | none => rfl
      | some ρ1 =>
        simp only
        cases f ρ1 μ with
        | nx ρ' μ' => exact loopF_fix n (k + 1) ds ρ' μ' (by omega) hl
        | ct ρ' μ' => exact loopF_fix n (k + 1) ds ρ' μ' (by omega) hl
        | _ => rfl
    · have e : ds[k]? = none := List.getElem?_eq_none_iff.mpr (by omega)
      rw [e, List.drop_eq_nil_of_le (by omega)]
      rfl
def R.for1 (r : R Wk) (t : DG) (f : DS) (ρ : En) : SR := r.toS ρ fun w μ1 => loopF w t f (wkLen w μ1 + 1) 0 ρ μ1
@[simp] theorem sFor_ap {it : DI} {t : DG} {f : DS} : sFor it t f ρ μ = R.for1 (it ρ μ) t f ρ := rfl
@[simp] theorem for1_fix {t : DG} {f : DS} {ds : List DV} : R.for1 (.ok (.fix ds) μ) t f ρ = loopD t f ds ρ μ := by
  show loopF (.fix ds) t f (ds.length + 1) 0 ρ μ = _
  rw [loopF_fix (ds.length + 1) 0 ds ρ μ rfl (Nat.zero_le _), List.drop_zero]
def R.seqi (r : R DV) : R Wk := r.bind fun d μ1 => R.of (wkOf d μ1) μ1
@[simp] theorem iSeq_ap {a : DE} : iSeq a ρ μ = R.seqi (a ρ μ) := rfl
@[simp] theorem seqi_ok : R.seqi (.ok d μ) = R.of (wkOf d μ) μ := rfl
def R.rg1 (r : R (List DV)) : R Wk := r.bind fun ds μ1 => R.of (rngOf1 ds) μ1
def R.rg2 (r : R (List DV)) : R Wk := r.bind fun ds μ1 => R.of (rngOf2 ds) μ1
@[simp] theorem iRng1_ap {r : DA} : iRng1' r ρ μ = R.rg1 (r ρ μ) := rfl
@[simp] theorem iRng2_ap {r : DA} : iRng2' r ρ μ = R.rg2 (r ρ μ) := rfl
@[simp] theorem rg1_ok {ds : List DV} : R.rg1 (.ok ds μ) = R.of (rngOf1 ds) μ := rfl
@[simp] theorem rg2_ok {ds : List DV} : R.rg2 (.ok ds μ) = R.of (rngOf2 ds) μ := rfl
/-- turn by turn, an invariant -/
theorem loopD_inv {t : DG} {f : DS} (I : En → Sto → Prop) : ∀ (ds : List DV) (ρ : En) (μ : Sto), I ρ μ → (∀ d ∈ ds, ∀ ρ μ, I ρ μ → ∃ ρ1, t d ρ μ = some ρ1 ∧ ∃ ρ' μ', (f ρ1 μ = .nx ρ' μ' ∨ f ρ1 μ = .ct ρ' μ') ∧ I ρ' μ') →
    ∃ ρ' μ', loopD t f ds ρ μ = .nx ρ' μ' ∧ I ρ' μ'
  | [], ρ, μ, h, _ => ⟨ρ, μ, rfl, h⟩
  | d :: ds, ρ, μ, h, ht => by
    obtain ⟨ρ1, e1, ρ', μ', e2, h2⟩ := ht d (by simp) ρ μ h
    obtain ⟨ρ2, μ2, e3, h3⟩ := loopD_inv I ds ρ' μ' h2 fun d hd => ht d (List.mem_cons_of_mem _ hd)
    refine ⟨ρ2, μ2, ?_, h3⟩
    unfold loopD
    rw [e1]
    simp only
    rcases e2 with e2 | e2 <;> rw [e2] <;> exact e3

/-! comprehensions over what stays -/
def compD (t : DG) (tt : DT) (te : DE) (ρ : En) : List DV → Sto → R (List DV)
  | [], μ => .ok [] μ
  | d :: ds, μ => match t d ρ μ with
    | none => .stuck
    | some ρ1 => (tt ρ1 μ).nox.bind fun b μ1 => if b = true then (te ρ1 μ1).nox.bind fun y μ2 => (compD t tt te ρ ds μ2).bind fun ys μ3 => .ok (y :: ys) μ3 else compD t tt te ρ ds μ1
theorem loopL_fix {t : DG} {tt : DT} {te : DE} {ρ : En} : ∀ (n k : Nat) (ds : List DV) (μ : Sto), ds.length + 1 = n + k → k ≤ ds.length → loopL (.fix ds) t tt te ρ n k μ = compD t tt te ρ (ds.drop k) μ
  | 0, k, ds, μ, h, hk => by omega
  | n + 1, k, ds, μ, h, hk => by
    unfold loopL
    show (match (some ds[k]? : Option (Option DV)) with
      | none => R.stuck
      | some none => .ok [] μ
      | some (some d) => match t d ρ μ with
        | none => .stuck
        | some ρ1 => (tt ρ1 μ).nox.bind fun b μ1 => if b = true then (te ρ1 μ1).nox.bind fun y μ2 => (loopL (.fix ds) t tt te ρ n (k + 1) μ2).bind fun ys μ3 => .ok (y :: ys) μ3 else loopL (.fix ds) t tt te ρ n (k + 1) μ1) = _
    by_cases hl : k < ds.length
    · have e : ds[k]? = some ds[k] := List.getElem?_eq_getElem hl
      rw [List.drop_eq_getElem_cons hl, e]
      unfold compD
      simp only
      have ih : ∀ μ, loopL (.fix ds) t tt te ρ n (k + 1) μ = compD t tt te ρ (ds.drop (k + 1)) μ := fun μ => loopL_fix n (k + 1) ds μ (by omega) hl
      simp only [ih]
    · have e : ds[k]? = none := List.getElem?_eq_none_iff.mpr (by omega)
      rw [e, List.drop_eq_nil_of_le (by omega)]
      rfl
def R.lc1 (r : R Wk) (t : DG) (tt : DT) (te : DE) (ρ : En) : R (List DV) := r.bind fun w μ1 => if okLen (wkLen w μ1 + 1) = true then loopL w t tt te ρ (wkLen w μ1 + 1) 0 μ1 else .stuck
@[simp] theorem eLc_ap {it : DI} {t : DG} {tt : DT} {te : DE} {vs : List Nat} : eLc it t tt te vs ρ μ = R.mk (fun ys μ1 => .ok (.lst ys) μ1) (R.lc1 (it ρ μ) t tt te (wipeE ρ vs)) := rfl
@[simp] theorem eLcC_ap {it : DI} {t : DG} {tt : DT} {te : DE} {vs : List Nat} : eLcC it t tt te vs ρ μ = R.mk (fun ys μ1 => .ok (.cell μ1.length) (μ1 ++ [.lst ys])) (R.lc1 (it ρ μ) t tt te (wipeE ρ vs)) := rfl
theorem lc1_fix {t : DG} {tt : DT} {te : DE} {ds : List DV} (h : ds.length < 16777216) : R.lc1 (.ok (.fix ds) μ) t tt te ρ = compD t tt te ρ ds μ := by
  show (if okLen (ds.length + 1) = true then loopL (.fix ds) t tt te ρ (ds.length + 1) 0 μ else .stuck) = _
  rw [if_pos (okLen_small h), loopL_fix (ds.length + 1) 0 ds μ rfl (Nat.zero_le _), List.drop_zero]
/-- elements that leave the store as it is -/
theorem compD_map {t : DG} {te : DE} (g : DV → DV) : ∀ (ds : List DV), (∀ d ∈ ds, ∃ ρ1, t d ρ μ = some ρ1 ∧ te ρ1 μ = .ok (g d) μ) → compD t tYes' te ρ ds μ = .ok (ds.map g) μ
  | [], _ => rfl
  | d :: ds, h => by
    obtain ⟨ρ1, e1, e2⟩ := h d (by simp)
    unfold compD
    rw [e1]
    show (te ρ1 μ).nox.bind _ = _
    rw [e2]
    show (compD t tYes' te ρ ds μ).bind _ = _
    rw [compD_map g ds fun d hd => h d (List.mem_cons_of_mem _ hd)]
    rfl
theorem compD_filter {t : DG} {tt : DT} {te : DE} (p : DV → Bool) (g : DV → DV) : ∀ (ds : List DV), (∀ d ∈ ds, ∃ ρ1, t d ρ μ = some ρ1 ∧ tt ρ1 μ = .ok (p d) μ ∧ (p d = true → te ρ1 μ = .ok (g d) μ)) → compD t tt te ρ ds μ = .ok ((ds.filter p).map g) μ
  | [], _ => rfl
  | d :: ds, h => by
    obtain ⟨ρ1, e1, e2, e3⟩ := h d (by simp)
    unfold compD
    rw [e1]
    simp only
    rw [e2]
    have ih := compD_filter (t := t) (tt := tt) (te := te) p g ds fun d hd => h d (List.mem_cons_of_mem _ hd)
    cases hp : p d with
    | false =>
      rw [List.filter_cons_of_neg (by simp [hp])]
      exact ih
    | true =>
      rw [List.filter_cons_of_pos hp]
      show (te ρ1 μ).nox.bind _ = _
      rw [e3 hp]
      show (compD t tt te ρ ds μ).bind _ = _
      rw [ih]
      rfl
/-- elements that turn the store: an invariant -/
theorem compD_inv {t : DG} {te : DE} (I : Sto → Prop) (p : DV → Prop) : ∀ (ds : List DV) (μ : Sto), I μ → (∀ d ∈ ds, ∀ μ, I μ → ∃ ρ1, t d ρ μ = some ρ1 ∧ ∃ y μ', te ρ1 μ = .ok y μ' ∧ I μ' ∧ p y) →
    ∃ ys μ', compD t tYes' te ρ ds μ = .ok ys μ' ∧ I μ' ∧ ys.length = ds.length ∧ ∀ y ∈ ys, p y
  | [], μ, hI, _ => ⟨[], μ, rfl, hI, rfl, fun _ h => nomatch h⟩
  | d :: ds, μ, hI, h => by
    obtain ⟨ρ1, e1, y, μ1, e2, h2, hp⟩ := h d (by simp) μ hI
    obtain ⟨ys, μ2, e3, h3, hl, hq⟩ := compD_inv I p ds μ1 h2 fun d hd => h d (List.mem_cons_of_mem _ hd)
    refine ⟨y :: ys, μ2, ?_, h3, by simp [hl], fun z hz => ?_⟩
    · unfold compD
      rw [e1]
      show (te ρ1 μ).nox.bind _ = _
      rw [e2]
      show (compD t tYes' te ρ ds μ1).bind _ = _
      rw [e3]
      rfl
    · rcases List.mem_cons.mp hz with rfl | hz
      · exact hp
      · exact hq z hz
@[simp] theorem tYes_ap : tYes' ρ μ = .ok true μ := rfl
end
end SD

set_option Elab.async false
set_option linter.all false
set_option maxRecDepth 100000
set_option maxHeartbeats 4000000
/-! Plane geometry over whole numbers, no program in sight: corners, edges, parting edges, shared stretches. -/
namespace Lw
abbrev Pt := Int × Int
def turn (p q r : Pt) : Int := (q.1 - p.1) * (r.2 - p.2) - (q.2 - p.2) * (r.1 - p.1)
def dot (p q : Pt) (r : Pt) : Int := (q.1 - p.1) * (r.1 - p.1) + (q.2 - p.2) * (r.2 - p.2)
theorem turn_a {a b : Pt} : turn a b a = 0 := by unfold turn; simp
theorem turn_b {a b : Pt} : turn a b b = 0 := by unfold turn; rw [Int.mul_comm]; omega
/-! ### edges -/
def cor (P : List Pt) (k : Nat) : Pt := P.getD k (0, 0)
def nx (n k : Nat) : Nat := if k + 1 = n then 0 else k + 1
def pr (n k : Nat) : Nat := if k = 0 then n - 1 else k - 1
theorem nx_lt {n k : Nat} (h : k < n) : nx n k < n := by unfold nx; split <;> omega
theorem pr_lt {n k : Nat} (h : k < n) : pr n k < n := by unfold pr; split <;> omega
theorem nx_pr {n k : Nat} (h : k < n) : nx n (pr n k) = k := by unfold nx pr; (repeat' split) <;> omega
theorem pr_nx {n k : Nat} (h : k < n) : pr n (nx n k) = k := by unfold nx pr; (repeat' split) <;> omega
theorem nx_mod {n k : Nat} (h : k < n) : (k + 1) % n = nx n k := by
  unfold nx
  split
  · rename_i e; rw [e, Nat.mod_self]
  · exact Nat.mod_eq_of_lt (by omega)
def eL (P : List Pt) : List (Pt × Pt) := (List.range P.length).map fun k => (cor P k, cor P (nx P.length k))
def eP (P : List Pt) : List (Pt × Pt) := (List.range P.length).map fun k => (cor P (pr P.length k), cor P k)
theorem mem_eL {P : List Pt} {e : Pt × Pt} : e ∈ eL P ↔ ∃ k, k < P.length ∧ (cor P k, cor P (nx P.length k)) = e := by simp [eL]
theorem mem_eP {P : List Pt} {e : Pt × Pt} : e ∈ eP P ↔ e ∈ eL P := by
  rw [mem_eL]
  simp only [eP, List.mem_map, List.mem_range]
  constructor
  · rintro ⟨k, hk, rfl⟩
    exact ⟨pr P.length k, pr_lt hk, by rw [nx_pr hk]⟩
  · rintro ⟨k, hk, rfl⟩
    exact ⟨nx P.length k, nx_lt hk, by rw [pr_nx hk]⟩
theorem cor_get {P : List Pt} {k : Nat} (h : k < P.length) : cor P k = P[k] := by
  unfold cor
  rw [List.getD_eq_getElem?_getD, List.getElem?_eq_getElem h]; rfl
theorem cor_mem {P : List Pt} {k : Nat} (h : k < P.length) : cor P k ∈ P := by rw [cor_get h]; exact List.getElem_mem h
theorem mem_cor {P : List Pt} {x : Pt} (h : x ∈ P) : ∃ k, k < P.length ∧ cor P k = x := by
  obtain ⟨k, hk, e⟩ := List.getElem_of_mem h
  exact ⟨k, hk, by rw [cor_get hk, e]⟩
theorem eL_mem {P : List Pt} {a b : Pt} (h : (a, b) ∈ eL P) : a ∈ P ∧ b ∈ P := by
  obtain ⟨k, hk, e⟩ := mem_eL.mp h
  cases e
  exact ⟨cor_mem hk, cor_mem (nx_lt hk)⟩
/-- begun at another corner -/
def rot (k : Nat) (P : List Pt) : List Pt := P.drop k ++ P.take k
theorem rot_len {k : Nat} {P : List Pt} : (rot k P).length = P.length := by unfold rot; simp; omega
theorem rot_mem {k : Nat} {P : List Pt} {x : Pt} : x ∈ rot k P ↔ x ∈ P := by
  unfold rot
  rw [List.mem_append, Or.comm, ← List.mem_append, List.take_append_drop]
theorem rot_cor {k : Nat} {P : List Pt} {i : Nat} (hk : k ≤ P.length) (h : i < P.length) : cor (rot k P) i = cor P (if i + k < P.length then i + k else i + k - P.length) := by
  unfold cor rot
  rw [List.getD_eq_getElem?_getD, List.getD_eq_getElem?_getD, List.getElem?_append, List.length_drop]
  by_cases hc : i + k < P.length
  · rw [if_pos hc, if_pos (by omega), List.getElem?_drop, Nat.add_comm]
  · rw [if_neg hc, if_neg (by omega), List.getElem?_take, if_pos (by omega)]
    congr 2
    omega
theorem rot_eL {k : Nat} {P : List Pt} {e : Pt × Pt} (hk : k ≤ P.length) : e ∈ eL (rot k P) ↔ e ∈ eL P := by
  rw [mem_eL, mem_eL, rot_len]
  constructor
  · rintro ⟨i, hi, rfl⟩
    rw [rot_cor hk hi, rot_cor hk (nx_lt hi)]
    refine ⟨if i + k < P.length then i + k else i + k - P.length, by split <;> omega, ?_⟩
    congr 2
    unfold nx
    repeat' split
    all_goals omega
  · rintro ⟨i, hi, rfl⟩
    refine ⟨if k ≤ i then i - k else i + P.length - k, by split <;> omega, ?_⟩
    rw [rot_cor hk (by split <;> omega), rot_cor hk (nx_lt (by split <;> omega))]
    congr 2
    · repeat' split
      all_goals omega
    · unfold nx
      repeat' split
      all_goals omega
theorem map_cor {P : List Pt} {f : Pt → Pt} {i : Nat} (h : i < P.length) : cor (P.map f) i = f (cor P i) := by
  rw [cor_get (by simpa using h), cor_get h, List.getElem_map]
theorem map_eL {P : List Pt} {f : Pt → Pt} {e : Pt × Pt} : e ∈ eL (P.map f) ↔ ∃ a b, (a, b) ∈ eL P ∧ (f a, f b) = e := by
  rw [mem_eL]
  constructor
  · rintro ⟨k, hk, rfl⟩
    rw [List.length_map] at hk ⊢
    exact ⟨_, _, mem_eL.mpr ⟨k, hk, rfl⟩, by rw [map_cor hk, map_cor (nx_lt hk)]⟩
  · rintro ⟨a, b, h, rfl⟩
    obtain ⟨k, hk, e⟩ := mem_eL.mp h
    cases e
    exact ⟨k, by simpa using hk, by rw [List.length_map, map_cor hk, map_cor (nx_lt hk)]⟩
theorem rev_cor {P : List Pt} {i : Nat} (h : i < P.length) : cor P.reverse i = cor P (P.length - 1 - i) := by
  rw [cor_get (by simpa using h), cor_get (by omega), List.getElem_reverse]
theorem rev_eL1 {P : List Pt} {a b : Pt} (h : (a, b) ∈ eL P) : (b, a) ∈ eL P.reverse := by
  obtain ⟨k, hk, e⟩ := mem_eL.mp h
  cases e
  have hn := nx_lt hk
  refine mem_eL.mpr ⟨P.length - 1 - nx P.length k, by rw [List.length_reverse]; omega, ?_⟩
  rw [List.length_reverse, rev_cor (by omega), rev_cor (nx_lt (by omega))]
  congr 2
  · omega
  · unfold nx at hn ⊢
    repeat' split
    all_goals (try split at hn) <;> omega
theorem rev_eL {P : List Pt} {a b : Pt} : (a, b) ∈ eL P.reverse ↔ (b, a) ∈ eL P := by
  constructor
  · intro h
    have := rev_eL1 h
    rwa [List.reverse_reverse] at this
  · exact rev_eL1
/-! ### parting edges -/
/-- no corner of Q is left of the edge -/
def noL (a b : Pt) (Q : List Pt) : Bool := Q.all fun c => decide (turn a b c ≤ 0)
def sep (P Q : List Pt) : Bool := (eL P).any fun e => noL e.1 e.2 Q
def over (P Q : List Pt) : Bool := !sep P Q && !sep Q P
theorem sep_iff {P Q : List Pt} : sep P Q = true ↔ ∃ a b, (a, b) ∈ eL P ∧ ∀ c ∈ Q, turn a b c ≤ 0 := by
  unfold sep noL
  simp only [List.any_eq_true, List.all_eq_true, decide_eq_true_eq]
  constructor
  · rintro ⟨⟨a, b⟩, h1, h2⟩; exact ⟨a, b, h1, h2⟩
  · rintro ⟨a, b, h1, h2⟩; exact ⟨(a, b), h1, h2⟩
theorem over_comm {P Q : List Pt} : over P Q = over Q P := by unfold over; rw [Bool.and_comm]
/-- what is used of parts: no corner right of an edge; of every edge some corner left -/
structure Rnd (P : List Pt) : Prop where
  lft : ∀ a b, (a, b) ∈ eL P → ∀ c ∈ P, 0 ≤ turn a b c
  som : ∀ a b, (a, b) ∈ eL P → ∃ c ∈ P, 0 < turn a b c
theorem Rnd.ne {P : List Pt} (h : Rnd P) {a b : Pt} (e : (a, b) ∈ eL P) : a ≠ b := by
  rintro rfl
  obtain ⟨c, _, hc⟩ := h.som _ _ e
  unfold turn at hc
  simp at hc
theorem Rnd.self {P : List Pt} (h : Rnd P) : over P P = true := by
  have : sep P P = false := by
    cases q : sep P P with
    | false => rfl
    | true =>
      obtain ⟨a, b, h1, h2⟩ := sep_iff.mp q
      obtain ⟨c, hc, h3⟩ := h.som a b h1
      have := h2 c hc
      omega
  unfold over
  rw [this]; rfl
/-! ### shared stretches -/
def lo2 (x y : Int) : Int := if y < x then y else x
def hi2 (x y : Int) : Int := if y > x then y else x
def shr (a b c d : Pt) : Bool := decide (turn a b c = 0) && (decide (turn a b d = 0) && (decide (lo2 (dot a b c) (dot a b d) < dot a b b) && decide (0 < hi2 (dot a b c) (dot a b d))))
theorem dot_pos {a b : Pt} (h : a ≠ b) : 0 < dot a b b := by
  unfold dot
  have h1 : 0 ≤ (b.1 - a.1) * (b.1 - a.1) := by
    rcases Int.le_total 0 (b.1 - a.1) with h | h
    · exact Int.mul_nonneg h h
    · exact Int.mul_nonneg_of_nonpos_of_nonpos h h
  have h2 : 0 ≤ (b.2 - a.2) * (b.2 - a.2) := by
    rcases Int.le_total 0 (b.2 - a.2) with h | h
    · exact Int.mul_nonneg h h
    · exact Int.mul_nonneg_of_nonpos_of_nonpos h h
  rcases Int.lt_or_eq_of_le h1 with h3 | h3
  · omega
  · rcases Int.lt_or_eq_of_le h2 with h4 | h4
    · omega
    · have e1 : b.1 - a.1 = 0 := by rcases Int.mul_eq_zero.mp h3.symm with h | h <;> exact h
      have e2 : b.2 - a.2 = 0 := by rcases Int.mul_eq_zero.mp h4.symm with h | h <;> exact h
      exact absurd (Prod.ext (by omega) (by omega)) h
theorem id1 (ux uy vx vy wx wy : Int) : (ux * ux + uy * uy) * (vx * wx + vy * wy) = (ux * vx + uy * vy) * (ux * wx + uy * wy) + (ux * vy - uy * vx) * (ux * wy - uy * wx) := by grind
theorem id2 (ux uy vx vy wx wy : Int) : (ux * ux + uy * uy) * (vx * wy - vy * wx) = (ux * vx + uy * vy) * (ux * wy - uy * wx) - (ux * vy - uy * vx) * (ux * wx + uy * wy) := by grind
theorem turn_d {a b c d : Pt} : turn a b d = turn a b c + ((b.1 - a.1) * (d.2 - c.2) - (b.2 - a.2) * (d.1 - c.1)) := by unfold turn; grind
theorem dot_d {a b c d : Pt} : dot a b d = dot a b c + ((b.1 - a.1) * (d.1 - c.1) + (b.2 - a.2) * (d.2 - c.2)) := by unfold dot; grind
theorem pos_of_mul {a b : Int} (ha : 0 < a) (h : 0 < a * b) : 0 < b := by
  by_cases h1 : 0 < b
  · exact h1
  · have := Int.mul_nonpos_of_nonneg_of_nonpos (Int.le_of_lt ha) (by omega : b ≤ 0)
    omega
theorem pos_iff {a b : Int} (ha : 0 < a) : 0 < a * b ↔ 0 < b := ⟨pos_of_mul ha, Int.mul_pos ha⟩
theorem neg_iff {a b : Int} (ha : a < 0) : 0 < a * b ↔ b < 0 := by
  have := pos_iff (a := -a) (b := -b) (by omega)
  rw [Int.neg_mul_neg] at this
  rw [this]; omega
/-- the sums: tc, td along the one; sa, sb along the other -/
theorem stretch {L M D tc sa : Int} (hL : 0 < L) (h1 : L * sa = -(D * tc)) (h2 : L * M = D * D) (hM : 0 < M) :
    (lo2 tc (tc + D) < L ∧ 0 < hi2 tc (tc + D)) ↔ (lo2 sa (sa + D) < M ∧ 0 < hi2 sa (sa + D)) := by
  have hD : D ≠ 0 := by
    rintro rfl
    have := Int.mul_pos hL hM
    omega
  have e1 : L * (M - sa) = D * (tc + D) := by grind
  have e2 : L * (sa + D) = D * (L - tc) := by grind
  have e3 : L * (M - (sa + D)) = D * (tc + D - L) := by grind
  have e4 : L * sa = D * (-tc) := by grind
  have p1 := pos_iff (a := L) (b := M - sa) hL
  have p2 := pos_iff (a := L) (b := sa + D) hL
  have p3 := pos_iff (a := L) (b := M - (sa + D)) hL
  have p4 := pos_iff (a := L) (b := sa) hL
  rw [e1] at p1; rw [e2] at p2; rw [e3] at p3; rw [e4] at p4
  unfold lo2 hi2
  rcases Int.lt_or_gt_of_ne hD with h | h
  · have q1 := neg_iff (a := D) (b := tc + D) h
    have q2 := neg_iff (a := D) (b := L - tc) h
    have q3 := neg_iff (a := D) (b := tc + D - L) h
    have q4 := neg_iff (a := D) (b := -tc) h
    rw [if_pos (by omega), if_neg (by omega), if_pos (by omega), if_neg (by omega)]
    constructor
    · rintro ⟨x, y⟩
      exact ⟨by have := p3.mp (q3.mpr (by omega)); omega, by have := p4.mp (q4.mpr (by omega)); omega⟩
    · rintro ⟨x, y⟩
      exact ⟨by have := q3.mp (p3.mpr (by omega)); omega, by have := q4.mp (p4.mpr (by omega)); omega⟩
  · have q1 := pos_iff (a := D) (b := tc + D) h
    have q2 := pos_iff (a := D) (b := L - tc) h
    rw [if_neg (by omega), if_pos (by omega), if_neg (by omega), if_pos (by omega)]
    constructor
    · rintro ⟨x, y⟩
      exact ⟨by have := p1.mp (q1.mpr (by omega)); omega, by have := p2.mp (q2.mpr (by omega)); omega⟩
    · rintro ⟨x, y⟩
      exact ⟨by have := q2.mp (p2.mpr (by omega)); omega, by have := q1.mp (p1.mpr (by omega)); omega⟩
theorem zero_of_mul {a b : Int} (ha : 0 < a) (h : a * b = 0) : b = 0 := by
  rcases Int.mul_eq_zero.mp h with h | h
  · omega
  · exact h
theorem shr_iff {a b c d : Pt} : shr a b c d = true ↔ turn a b c = 0 ∧ turn a b d = 0 ∧ lo2 (dot a b c) (dot a b d) < dot a b b ∧ 0 < hi2 (dot a b c) (dot a b d) := by
  unfold shr; simp [Bool.and_eq_true]
theorem shr_to {a b c d : Pt} (h1 : a ≠ b) (h2 : c ≠ d) (h : shr a b c d = true) : shr c d a b = true := by
  obtain ⟨t1, t2, t3⟩ := shr_iff.mp h
  have hL := dot_pos h1
  have hM := dot_pos h2
  obtain ⟨a1, a2⟩ := a; obtain ⟨b1, b2⟩ := b; obtain ⟨c1, c2⟩ := c; obtain ⟨d1, d2⟩ := d
  simp only [turn, dot] at t1 t2 t3 hL hM
  have x1 : (b1 - a1) * (d2 - c2) - (b2 - a2) * (d1 - c1) = 0 := by grind
  have i1 := id1 (b1 - a1) (b2 - a2) (d1 - c1) (d2 - c2) (c1 - a1) (c2 - a2)
  have i2 := id2 (b1 - a1) (b2 - a2) (d1 - c1) (d2 - c2) (c1 - a1) (c2 - a2)
  have i3 := id1 (b1 - a1) (b2 - a2) (d1 - c1) (d2 - c2) (d1 - c1) (d2 - c2)
  rw [x1, t1] at i1 i2
  rw [x1] at i3
  have y1 : (d1 - c1) * (c2 - a2) - (d2 - c2) * (c1 - a1) = 0 := zero_of_mul hL (by rw [i2]; simp)
  have st := stretch (L := (b1 - a1) * (b1 - a1) + (b2 - a2) * (b2 - a2)) (M := (d1 - c1) * (d1 - c1) + (d2 - c2) * (d2 - c2)) (D := (b1 - a1) * (d1 - c1) + (b2 - a2) * (d2 - c2))
    (tc := (b1 - a1) * (c1 - a1) + (b2 - a2) * (c2 - a2)) (sa := (d1 - c1) * (a1 - c1) + (d2 - c2) * (a2 - c2)) hL (by grind) (by grind) hM
  rw [shr_iff]
  simp only [turn, dot]
  refine ⟨by grind, by grind, ?_⟩
  have f1 : (b1 - a1) * (d1 - a1) + (b2 - a2) * (d2 - a2) = (b1 - a1) * (c1 - a1) + (b2 - a2) * (c2 - a2) + ((b1 - a1) * (d1 - c1) + (b2 - a2) * (d2 - c2)) := by grind
  have f2 : (d1 - c1) * (b1 - c1) + (d2 - c2) * (b2 - c2) = (d1 - c1) * (a1 - c1) + (d2 - c2) * (a2 - c2) + ((b1 - a1) * (d1 - c1) + (b2 - a2) * (d2 - c2)) := by grind
  rw [f1] at t3
  rw [f2]
  exact st.mp t3
theorem shr_comm {a b c d : Pt} (h1 : a ≠ b) (h2 : c ≠ d) : shr a b c d = shr c d a b := by
  rw [Bool.eq_iff_iff]
  exact ⟨shr_to h1 h2, shr_to h2 h1⟩
/-- every edge has a length -/
def Nd (P : List Pt) : Prop := ∀ a b, (a, b) ∈ eL P → a ≠ b
theorem Rnd.nd {P : List Pt} (h : Rnd P) : Nd P := fun _ _ e => h.ne e
def tch (P Q : List Pt) : Bool := (eL P).any fun e => (eL Q).any fun f => shr e.1 e.2 f.1 f.2
theorem tch_iff {P Q : List Pt} : tch P Q = true ↔ ∃ a b c d, (a, b) ∈ eL P ∧ (c, d) ∈ eL Q ∧ shr a b c d = true := by
  unfold tch
  simp only [List.any_eq_true]
  constructor
  · rintro ⟨⟨a, b⟩, h1, ⟨c, d⟩, h2, h3⟩; exact ⟨a, b, c, d, h1, h2, h3⟩
  · rintro ⟨a, b, c, d, h1, h2, h3⟩; exact ⟨(a, b), h1, (c, d), h2, h3⟩
theorem tch_comm {P Q : List Pt} (hp : Nd P) (hq : Nd Q) : tch P Q = tch Q P := by
  rw [Bool.eq_iff_iff, tch_iff, tch_iff]
  constructor
  · rintro ⟨a, b, c, d, h1, h2, h3⟩; exact ⟨c, d, a, b, h2, h1, shr_to (hp _ _ h1) (hq _ _ h2) h3⟩
  · rintro ⟨a, b, c, d, h1, h2, h3⟩; exact ⟨c, d, a, b, h2, h1, shr_to (hq _ _ h1) (hp _ _ h2) h3⟩
/-! ### moved, turned, mirrored; begun elsewhere -/
structure Rig (f : Pt → Pt) : Prop where
  turn : ∀ a b c, turn (f a) (f b) (f c) = turn a b c
  dot : ∀ a b c, dot (f a) (f b) (f c) = dot a b c
def quart (p : Pt) : Pt := (0 - p.2, p.1)
def sent (u v : Int) (p : Pt) : Pt := (p.1 + u, p.2 + v)
theorem rig_quart : Rig quart := ⟨fun a b c => by unfold turn quart; grind, fun a b c => by unfold dot quart; grind⟩
theorem rig_sent {u v : Int} : Rig (sent u v) := ⟨fun a b c => by unfold turn sent; grind, fun a b c => by unfold dot sent; grind⟩
theorem Rig.shr {f : Pt → Pt} (h : Rig f) {a b c d : Pt} : shr (f a) (f b) (f c) (f d) = shr a b c d := by unfold Lw.shr; simp only [h.turn, h.dot]
theorem Rig.sep {f : Pt → Pt} (h : Rig f) {P Q : List Pt} : sep (P.map f) (Q.map f) = sep P Q := by
  rw [Bool.eq_iff_iff, sep_iff, sep_iff]
  constructor
  · rintro ⟨a, b, h1, h2⟩
    obtain ⟨a', b', h3, e⟩ := map_eL.mp h1
    cases e
    exact ⟨a', b', h3, fun c hc => by have := h2 (f c) (List.mem_map_of_mem hc); rwa [h.turn] at this⟩
  · rintro ⟨a, b, h1, h2⟩
    refine ⟨f a, f b, map_eL.mpr ⟨a, b, h1, rfl⟩, fun c hc => ?_⟩
    obtain ⟨c', hc', rfl⟩ := List.mem_map.mp hc
    rw [h.turn]; exact h2 c' hc'
theorem Rig.over {f : Pt → Pt} (h : Rig f) {P Q : List Pt} : over (P.map f) (Q.map f) = over P Q := by unfold Lw.over; rw [h.sep, h.sep]
theorem Rig.tch {f : Pt → Pt} (h : Rig f) {P Q : List Pt} : tch (P.map f) (Q.map f) = tch P Q := by
  rw [Bool.eq_iff_iff, tch_iff, tch_iff]
  constructor
  · rintro ⟨a, b, c, d, h1, h2, h3⟩
    obtain ⟨a', b', h4, e⟩ := map_eL.mp h1
    cases e
    obtain ⟨c', d', h5, e⟩ := map_eL.mp h2
    cases e
    exact ⟨a', b', c', d', h4, h5, by rwa [h.shr] at h3⟩
  · rintro ⟨a, b, c, d, h1, h2, h3⟩
    exact ⟨f a, f b, f c, f d, map_eL.mpr ⟨a, b, h1, rfl⟩, map_eL.mpr ⟨c, d, h2, rfl⟩, by rw [h.shr]; exact h3⟩
theorem Rig.nd {f : Pt → Pt} (h : Rig f) {P : List Pt} (hp : Nd P) : Nd (P.map f) := fun a b e he => by
  obtain ⟨a', b', h3, e'⟩ := map_eL.mp e
  cases e'
  have h0 := dot_pos (hp _ _ h3)
  rw [← h.dot, he] at h0
  unfold Lw.dot at h0
  simp at h0
theorem Rig.rnd {f : Pt → Pt} (h : Rig f) {P : List Pt} (hp : Rnd P) : Rnd (P.map f) := ⟨fun a b e c hc => by
  obtain ⟨a', b', h3, e'⟩ := map_eL.mp e
  cases e'
  obtain ⟨c', hc', rfl⟩ := List.mem_map.mp hc
  rw [h.turn]; exact hp.lft _ _ h3 c' hc', fun a b e => by
  obtain ⟨a', b', h3, e'⟩ := map_eL.mp e
  cases e'
  obtain ⟨c, hc, h4⟩ := hp.som _ _ h3
  exact ⟨f c, List.mem_map_of_mem hc, by rw [h.turn]; exact h4⟩⟩
theorem rot_sep {j k : Nat} {P Q : List Pt} (hj : j ≤ P.length) (hk : k ≤ Q.length) : sep (rot j P) (rot k Q) = sep P Q := by
  rw [Bool.eq_iff_iff, sep_iff, sep_iff]
  simp only [rot_eL hj, rot_mem]
theorem rot_over {j k : Nat} {P Q : List Pt} (hj : j ≤ P.length) (hk : k ≤ Q.length) : over (rot j P) (rot k Q) = over P Q := by unfold over; rw [rot_sep hj hk, rot_sep hk hj]
theorem rot_tch {j k : Nat} {P Q : List Pt} (hj : j ≤ P.length) (hk : k ≤ Q.length) : tch (rot j P) (rot k Q) = tch P Q := by
  rw [Bool.eq_iff_iff, tch_iff, tch_iff]
  simp only [rot_eL hj, rot_eL hk]
theorem rot_nd {j : Nat} {P : List Pt} (hj : j ≤ P.length) (h : Nd P) : Nd (rot j P) := fun a b e => h a b ((rot_eL hj).mp e)
def mirr (p : Pt) : Pt := (0 - p.1, p.2)
def flip' (P : List Pt) : List Pt := (P.map mirr).reverse
theorem flip_eL {P : List Pt} {x y : Pt} : (x, y) ∈ eL (flip' P) ↔ ∃ a b, (a, b) ∈ eL P ∧ x = mirr b ∧ y = mirr a := by
  unfold flip'
  rw [rev_eL, map_eL]
  constructor
  · rintro ⟨a, b, h, e⟩
    cases e
    exact ⟨a, b, h, rfl, rfl⟩
  · rintro ⟨a, b, h, rfl, rfl⟩
    exact ⟨a, b, h, rfl⟩
theorem flip_mem {P : List Pt} {c : Pt} : c ∈ flip' P ↔ ∃ c' ∈ P, mirr c' = c := by
  unfold flip'
  rw [List.mem_reverse, List.mem_map]
theorem mirr_turn {a b c : Pt} : turn (mirr b) (mirr a) (mirr c) = turn a b c := by unfold turn mirr; grind
theorem mirr_dot {a b c : Pt} : dot (mirr b) (mirr a) (mirr c) = dot a b b - dot a b c := by unfold dot mirr; grind
theorem mirr_shr {a b c d : Pt} : shr (mirr b) (mirr a) (mirr d) (mirr c) = shr a b c d := by
  rw [Bool.eq_iff_iff, shr_iff, shr_iff]
  have e0 : dot (mirr b) (mirr a) (mirr a) = dot a b b := by unfold dot mirr; grind
  rw [mirr_turn, mirr_turn, mirr_dot, mirr_dot, e0]
  unfold lo2 hi2
  constructor
  · rintro ⟨h1, h2, h3, h4⟩
    refine ⟨h2, h1, ?_, ?_⟩
    all_goals (repeat' split at h3) <;> (repeat' split at h4) <;> (repeat' split) <;> omega
  · rintro ⟨h1, h2, h3, h4⟩
    refine ⟨h2, h1, ?_, ?_⟩
    all_goals (repeat' split at h3) <;> (repeat' split at h4) <;> (repeat' split) <;> omega
theorem flip_sep {P Q : List Pt} : sep (flip' P) (flip' Q) = sep P Q := by
  rw [Bool.eq_iff_iff, sep_iff, sep_iff]
  constructor
  · rintro ⟨x, y, h1, h2⟩
    obtain ⟨a, b, h3, rfl, rfl⟩ := flip_eL.mp h1
    exact ⟨a, b, h3, fun c hc => by have := h2 (mirr c) (flip_mem.mpr ⟨c, hc, rfl⟩); rwa [mirr_turn] at this⟩
  · rintro ⟨a, b, h1, h2⟩
    refine ⟨mirr b, mirr a, flip_eL.mpr ⟨a, b, h1, rfl, rfl⟩, fun c hc => ?_⟩
    obtain ⟨c', hc', rfl⟩ := flip_mem.mp hc
    rw [mirr_turn]; exact h2 c' hc'
theorem flip_over {P Q : List Pt} : over (flip' P) (flip' Q) = over P Q := by unfold over; rw [flip_sep, flip_sep]
theorem flip_tch {P Q : List Pt} : tch (flip' P) (flip' Q) = tch P Q := by
  rw [Bool.eq_iff_iff, tch_iff, tch_iff]
  constructor
  · rintro ⟨x, y, z, w, h1, h2, h3⟩
    obtain ⟨a, b, h4, rfl, rfl⟩ := flip_eL.mp h1
    obtain ⟨c, d, h5, rfl, rfl⟩ := flip_eL.mp h2
    exact ⟨a, b, c, d, h4, h5, by rwa [mirr_shr] at h3⟩
  · rintro ⟨a, b, c, d, h1, h2, h3⟩
    exact ⟨mirr b, mirr a, mirr d, mirr c, flip_eL.mpr ⟨a, b, h1, rfl, rfl⟩, flip_eL.mpr ⟨c, d, h2, rfl, rfl⟩, by rw [mirr_shr]; exact h3⟩
theorem flip_nd {P : List Pt} (h : Nd P) : Nd (flip' P) := fun x y e he => by
  obtain ⟨a, b, h3, rfl, rfl⟩ := flip_eL.mp e
  have := h a b h3
  apply this
  have e1 : (mirr b).1 = (mirr a).1 := by rw [he]
  have e2 : (mirr b).2 = (mirr a).2 := by rw [he]
  unfold mirr at e1 e2
  exact Prod.ext (by simp at e1; omega) (by simpa using e2.symm)
/-! ### the law's own way: normals over all differences -/
theorem meet_iff {P Q : List Pt} (hp : Rnd P) (hq : Rnd Q) (h0 : P ≠ []) :
    ((∃ a b, (a, b) ∈ eL P ∧ ∀ y ∈ Q, ∀ x ∈ P, 0 ≤ (b.2 - a.2) * (y.1 - x.1) + (a.1 - b.1) * (y.2 - x.2)) ∨ (∃ a b, (a, b) ∈ eL Q ∧ ∀ y ∈ Q, ∀ x ∈ P, 0 ≤ (a.2 - b.2) * (y.1 - x.1) + (b.1 - a.1) * (y.2 - x.2))) ↔ (sep P Q = true ∨ sep Q P = true) := by
  have e1 : ∀ a b x y : Pt, (b.2 - a.2) * (y.1 - x.1) + (a.1 - b.1) * (y.2 - x.2) = turn a b x - turn a b y := fun a b x y => by unfold turn; grind
  have e2 : ∀ a b x y : Pt, turn b a x - turn b a y = turn a b y - turn a b x := fun a b x y => by unfold turn; grind
  simp only [e1, sep_iff]
  constructor
  · rintro (⟨a, b, h1, h2⟩ | ⟨a, b, h1, h2⟩)
    · exact .inl ⟨a, b, h1, fun c hc => by have := h2 c hc a (eL_mem h1).1; rw [turn_a] at this; omega⟩
    · exact .inr ⟨a, b, h1, fun c hc => by have := h2 a (eL_mem h1).1 c hc; rw [e2, turn_a] at this; omega⟩
  · rintro (⟨a, b, h1, h2⟩ | ⟨a, b, h1, h2⟩)
    · exact .inl ⟨a, b, h1, fun y hy x hx => by have := h2 y hy; have := hp.lft a b h1 x hx; omega⟩
    · exact .inr ⟨a, b, h1, fun y hy x hx => by have := h2 x hx; have := hq.lft a b h1 y hy; rw [e2]; omega⟩
end Lw

set_option Elab.async false
set_option linter.all false
set_option maxRecDepth 100000
set_option maxHeartbeats 4000000
/-! Parts: each corner but the ends of an edge to the left of it; begun elsewhere, mirrored; the area. No program in sight. -/
namespace Lw
def okP (P : List Pt) (k : Nat) : Prop := ∀ j, j < P.length → j ≠ k → j ≠ nx P.length k → 0 < turn (cor P k) (cor P (nx P.length k)) (cor P j)
structure Cv (P : List Pt) : Prop where
  len : 3 ≤ P.length
  ok : ∀ k, k < P.length → okP P k
theorem nx_ne {n k : Nat} (h : 2 ≤ n) (hk : k < n) : nx n k ≠ k := by unfold nx; split <;> omega
theorem nx_nx {n k : Nat} (h : 3 ≤ n) (hk : k < n) : nx n (nx n k) ≠ k := by unfold nx; (repeat' split) <;> omega
theorem Cv.inj {P : List Pt} (h : Cv P) {i j : Nat} (hi : i < P.length) (hj : j < P.length) (e : cor P i = cor P j) : i = j := by
  by_cases hij : i = j
  · exact hij
  · exfalso
    by_cases hn : j = nx P.length i
    · have h1 := h.ok j hj i hi (by omega) (by rw [hn]; exact fun z => nx_nx h.len hi z.symm)
      rw [← e, turn_a] at h1
      omega
    · have h1 := h.ok i hi j hj (by omega) hn
      rw [← e, turn_a] at h1
      omega
def wr (n i : Nat) : Nat := if i < n then i else i - n
theorem rot_cor' {k : Nat} {P : List Pt} {i : Nat} (hk : k ≤ P.length) (h : i < P.length) : cor (rot k P) i = cor P (wr P.length (i + k)) := rot_cor hk h
theorem wr_nx {n i k : Nat} (hi : i < n) (hk : k ≤ n) : wr n (nx n i + k) = nx n (wr n (i + k)) := by
  unfold wr nx
  repeat' split
  all_goals omega
theorem wr_lt {n i k : Nat} (hi : i < n) (hk : k ≤ n) : wr n (i + k) < n := by unfold wr; split <;> omega
theorem wr_inj {n i j k : Nat} (hi : i < n) (hj : j < n) (hk : k ≤ n) (h : i ≠ j) : wr n (i + k) ≠ wr n (j + k) := by
  unfold wr
  (repeat' split) <;> omega
theorem Cv.rot {P : List Pt} (h : Cv P) {k : Nat} (hk : k ≤ P.length) : Cv (Lw.rot k P) := ⟨by rw [rot_len]; exact h.len, fun i hi j hj h1 h2 => by
  rw [rot_len] at hi hj h2 ⊢
  rw [rot_cor' hk hi, rot_cor' hk (nx_lt hi), rot_cor' hk hj, wr_nx hi hk]
  refine h.ok _ (wr_lt hi hk) _ (wr_lt hj hk) (wr_inj hj hi hk h1) ?_
  rw [← wr_nx hi hk]
  exact wr_inj hj (nx_lt hi) hk h2⟩
theorem flip_cor {P : List Pt} {i : Nat} (h : i < P.length) : cor (flip' P) i = mirr (cor P (P.length - 1 - i)) := by
  unfold flip'
  rw [rev_cor (by rw [List.length_map]; exact h), List.length_map, map_cor (by omega)]
theorem flip_len {P : List Pt} : (flip' P).length = P.length := by unfold flip'; rw [List.length_reverse, List.length_map]
theorem Cv.flip {P : List Pt} (h : Cv P) : Cv (flip' P) := ⟨by rw [flip_len]; exact h.len, fun i hi j hj h1 h2 => by
  rw [flip_len] at hi hj h2 ⊢
  rw [flip_cor hi, flip_cor (nx_lt hi), flip_cor hj]
  have hl := h.len
  have e : P.length - 1 - i = nx P.length (P.length - 1 - nx P.length i) := by unfold nx; (repeat' split) <;> omega
  rw [e, mirr_turn]
  have hn := nx_lt hi
  refine h.ok _ (by omega) _ (by omega) ?_ ?_
  · omega
  · rw [← e]; omega⟩
/-- the others, seen from corner k on -/
theorem rest_iff {P : List Pt} {k : Nat} (h3 : 3 ≤ P.length) (hk : k < P.length) : (∀ c ∈ (rot k P).drop 2, 0 < turn (cor (rot k P) 0) (cor (rot k P) 1) c) ↔ okP P k := by
  have hk' : k ≤ P.length := by omega
  have e0 : cor (rot k P) 0 = cor P k := by rw [rot_cor' hk' (by omega)]; congr 1; unfold wr; split <;> omega
  have e1 : cor (rot k P) 1 = cor P (nx P.length k) := by rw [rot_cor' hk' (by omega)]; congr 1; unfold wr nx; (repeat' split) <;> omega
  rw [e0, e1]
  constructor
  · intro h j hj h1 h2
    refine h _ ?_
    -- the place of j, seen from k on
    have hi : ∃ i, 2 ≤ i ∧ i < P.length ∧ wr P.length (i + k) = j := by
      by_cases q : k ≤ j
      · refine ⟨j - k, ?_, by omega, by unfold wr; split <;> omega⟩
        unfold nx at h2
        split at h2 <;> omega
      · refine ⟨j + P.length - k, ?_, by omega, by unfold wr; split <;> omega⟩
        unfold nx at h2
        split at h2 <;> omega
    obtain ⟨i, i2, il, e⟩ := hi
    rw [← e, ← rot_cor' hk' il, cor_get (by rw [rot_len]; exact il), List.mem_iff_getElem]
    refine ⟨i - 2, by rw [List.length_drop, rot_len]; omega, ?_⟩
    rw [List.getElem_drop]
    congr 1
    omega
  · intro h c hc
    obtain ⟨i, hi, rfl⟩ := List.mem_iff_getElem.mp hc
    rw [List.length_drop, rot_len] at hi
    rw [List.getElem_drop, ← cor_get (by rw [rot_len]; omega), rot_cor' hk' (by omega)]
    refine h _ (wr_lt (by omega) hk') ?_ ?_
    · unfold wr; split <;> omega
    · unfold wr nx; (repeat' split) <;> omega
/-! the area, twice -/
def cr (a b : Pt) : Int := a.1 * b.2 - a.2 * b.1
def area (P : List Pt) : Int := ((eL P).map fun e => cr e.1 e.2).sum
def areaP (P : List Pt) : Int := ((eP P).map fun e => cr e.1 e.2).sum
theorem few {P : List Pt} (h3 : 3 ≤ P.length) (h6 : P.length ≤ 6) : (∃ a b c, P = [a, b, c]) ∨ (∃ a b c d, P = [a, b, c, d]) ∨ (∃ a b c d e, P = [a, b, c, d, e]) ∨ (∃ a b c d e f, P = [a, b, c, d, e, f]) := by
  match P, h3, h6 with
  | [a, b, c], _, _ => exact .inl ⟨a, b, c, rfl⟩
  | [a, b, c, d], _, _ => exact .inr (.inl ⟨a, b, c, d, rfl⟩)
  | [a, b, c, d, e], _, _ => exact .inr (.inr (.inl ⟨a, b, c, d, e, rfl⟩))
  | [a, b, c, d, e, f], _, _ => exact .inr (.inr (.inr ⟨a, b, c, d, e, f, rfl⟩))
theorem area3 {a b c : Pt} : area [a, b, c] = cr a b + (cr b c + (cr c a + 0)) := rfl
theorem area4 {a b c d : Pt} : area [a, b, c, d] = cr a b + (cr b c + (cr c d + (cr d a + 0))) := rfl
theorem area5 {a b c d e : Pt} : area [a, b, c, d, e] = cr a b + (cr b c + (cr c d + (cr d e + (cr e a + 0)))) := rfl
theorem area6 {a b c d e f : Pt} : area [a, b, c, d, e, f] = cr a b + (cr b c + (cr c d + (cr d e + (cr e f + (cr f a + 0))))) := rfl
theorem areaP3 {a b c : Pt} : areaP [a, b, c] = cr c a + (cr a b + (cr b c + 0)) := rfl
theorem areaP4 {a b c d : Pt} : areaP [a, b, c, d] = cr d a + (cr a b + (cr b c + (cr c d + 0))) := rfl
theorem areaP5 {a b c d e : Pt} : areaP [a, b, c, d, e] = cr e a + (cr a b + (cr b c + (cr c d + (cr d e + 0)))) := rfl
theorem areaP6 {a b c d e f : Pt} : areaP [a, b, c, d, e, f] = cr f a + (cr a b + (cr b c + (cr c d + (cr d e + (cr e f + 0))))) := rfl
theorem area_eq {P : List Pt} (h3 : 3 ≤ P.length) (h6 : P.length ≤ 6) : areaP P = area P := by
  rcases few h3 h6 with ⟨a, b, c, rfl⟩ | ⟨a, b, c, d, rfl⟩ | ⟨a, b, c, d, e, rfl⟩ | ⟨a, b, c, d, e, f, rfl⟩
  · rw [area3, areaP3]; omega
  · rw [area4, areaP4]; omega
  · rw [area5, areaP5]; omega
  · rw [area6, areaP6]; omega
theorem area_rot {P : List Pt} {k : Nat} (h3 : 3 ≤ P.length) (h6 : P.length ≤ 6) (hk : k < P.length) : area (rot k P) = area P := by
  rcases few h3 h6 with ⟨a, b, c, rfl⟩ | ⟨a, b, c, d, rfl⟩ | ⟨a, b, c, d, e, rfl⟩ | ⟨a, b, c, d, e, f, rfl⟩
  · match k, hk with
    | 0, _ => rfl
    | 1, _ => show area [b, c, a] = _; rw [area3, area3]; omega
    | 2, _ => show area [c, a, b] = _; rw [area3, area3]; omega
  · match k, hk with
    | 0, _ => rfl
    | 1, _ => show area [b, c, d, a] = _; rw [area4, area4]; omega
    | 2, _ => show area [c, d, a, b] = _; rw [area4, area4]; omega
    | 3, _ => show area [d, a, b, c] = _; rw [area4, area4]; omega
  · match k, hk with
    | 0, _ => rfl
    | 1, _ => show area [b, c, d, e, a] = _; rw [area5, area5]; omega
    | 2, _ => show area [c, d, e, a, b] = _; rw [area5, area5]; omega
    | 3, _ => show area [d, e, a, b, c] = _; rw [area5, area5]; omega
    | 4, _ => show area [e, a, b, c, d] = _; rw [area5, area5]; omega
  · match k, hk with
    | 0, _ => rfl
    | 1, _ => show area [b, c, d, e, f, a] = _; rw [area6, area6]; omega
    | 2, _ => show area [c, d, e, f, a, b] = _; rw [area6, area6]; omega
    | 3, _ => show area [d, e, f, a, b, c] = _; rw [area6, area6]; omega
    | 4, _ => show area [e, f, a, b, c, d] = _; rw [area6, area6]; omega
    | 5, _ => show area [f, a, b, c, d, e] = _; rw [area6, area6]; omega
theorem cr_mirr {a b : Pt} : cr (mirr b) (mirr a) = cr a b := by unfold cr mirr; grind
theorem area_flip {P : List Pt} (h3 : 3 ≤ P.length) (h6 : P.length ≤ 6) : area (flip' P) = area P := by
  rcases few h3 h6 with ⟨a, b, c, rfl⟩ | ⟨a, b, c, d, rfl⟩ | ⟨a, b, c, d, e, rfl⟩ | ⟨a, b, c, d, e, f, rfl⟩
  · show area [mirr c, mirr b, mirr a] = _; rw [area3, area3]; simp only [cr_mirr]; omega
  · show area [mirr d, mirr c, mirr b, mirr a] = _; rw [area4, area4]; simp only [cr_mirr]; omega
  · show area [mirr e, mirr d, mirr c, mirr b, mirr a] = _; rw [area5, area5]; simp only [cr_mirr]; omega
  · show area [mirr f, mirr e, mirr d, mirr c, mirr b, mirr a] = _; rw [area6, area6]; simp only [cr_mirr]; omega
/-! begun twice elsewhere -/
theorem ext_cor {P Q : List Pt} (hl : P.length = Q.length) (h : ∀ i, i < P.length → cor P i = cor Q i) : P = Q := by
  refine List.ext_getElem hl fun i h1 h2 => ?_
  rw [← cor_get h1, ← cor_get h2]
  exact h i h1
theorem rot_rot {P : List Pt} {j k : Nat} (hj : j < P.length) (hk : k ≤ P.length) : rot j (rot k P) = rot (wr P.length (j + k)) P := by
  refine ext_cor (by rw [rot_len, rot_len, rot_len]) fun i hi => ?_
  rw [rot_len, rot_len] at hi
  have hw := wr_lt hj hk
  rw [rot_cor' (by rw [rot_len]; omega) (by rw [rot_len]; exact hi), rot_len, rot_cor' hk (wr_lt hi (by omega)), rot_cor' (by omega) hi]
  congr 1
  unfold wr
  (repeat' split) <;> omega
/-- the same first corner, the same part -/
theorem rot_same {P : List Pt} (h : Cv P) {i j : Nat} (hi : i < P.length) (hj : j < P.length) (e : cor P i = cor P j) : rot i P = rot j P := by rw [h.inj hi hj e]
end Lw

set_option Elab.async false
set_option linter.all false
set_option maxRecDepth 100000
set_option maxHeartbeats 4000000
/-! The box of a law, plain side. -/
namespace Lw
open PySem PySem.Spec PyProof.Rows L2 SD
section
variable {μ : Sto} {a b : Int}
@[simp] theorem vAdd_i : vAdd (.int a) (.int b) μ = some (.int (a + b)) := rfl
@[simp] theorem vSub_i : vSub (.int a) (.int b) μ = some (.int (a - b)) := rfl
@[simp] theorem vNeg_i : vNeg (.int a) μ = some (.int (-a)) := rfl
theorem vMul_r (h : b.natAbs < 18446744073709551616) : vMul (.int a) (.int b) μ = some (.int (a * b)) := by
  have : mulOk a b = true := by unfold mulOk; simp [h]
  show (if mulOk a b = true then some (DV.int (a * b)) else none) = _
  rw [if_pos this]
theorem vMul_l (h : a.natAbs < 18446744073709551616) : vMul (.int a) (.int b) μ = some (.int (a * b)) := by
  have : mulOk a b = true := by unfold mulOk; simp [h]
  show (if mulOk a b = true then some (DV.int (a * b)) else none) = _
  rw [if_pos this]
theorem vMod_i (h : 0 < b) : vMod (.int a) (.int b) μ = some (.int (a % b)) := by
  show (if decide (0 < b) = true then some (DV.int (a % b)) else none) = _
  rw [if_pos (decide_eq_true h)]
theorem vDiv_i (h : 0 < b) (h' : b < 1073741824) : vDiv (.int a) (.int b) μ = some (.int (a / b)) := by
  unfold vDiv
  simp [h, h']
theorem vPow_i {n : Nat} (h : n ≤ 1000000) (h' : a.natAbs < 18446744073709551616) : vPow (.int a) (.int (n : Int)) μ = some (.int (a ^ n)) := by
  show (if (decide ((0 : Int) ≤ n) && decide ((n : Int) ≤ 1000000) && decide (a.natAbs < 2 ^ 64)) = true then some (DV.int (a ^ (n : Int).toNat)) else none) = _
  rw [if_pos (by simp [h']; omega)]
  rfl
@[simp] theorem vEq_i : vEq (.int a) (.int b) μ = some (.bl (decide (a = b))) := by
  show some (DV.bl (PyData.eqv (.int a) (.int b))) = _
  simp [PyData.eqv]; rfl
@[simp] theorem vNe_i : vNe (.int a) (.int b) μ = some (.bl (!decide (a = b))) := by
  show some (DV.bl (!PyData.eqv (.int a) (.int b))) = _
  simp [PyData.eqv]; rfl
@[simp] theorem vLt_i : vLt (.int a) (.int b) μ = some (.bl (decide (a < b))) := rfl
@[simp] theorem vLe_i : vLe (.int a) (.int b) μ = some (.bl (decide (a ≤ b))) := rfl
@[simp] theorem vGt_i : vGt (.int a) (.int b) μ = some (.bl (decide (b < a))) := rfl
@[simp] theorem vGe_i : vGe (.int a) (.int b) μ = some (.bl (decide (b ≤ a))) := rfl
@[simp] theorem vInt_i : vInt [.int a] μ = some (.int a) := rfl
@[simp] theorem vAbs_i : vAbs [.int a] μ = some (.int (if a < 0 then -a else a)) := rfl
@[simp] theorem vLen_l {xs : List DV} : vLen [.lst xs] μ = some (.int xs.length) := rfl
@[simp] theorem vLen_t {xs : List DV} : vLen [.tup xs] μ = some (.int xs.length) := rfl
@[simp] theorem runF0 {md : Md} {n : Nat} {b : DS} : runF md 0 n b [] μ = SR.fin md μ.length (b ([] ++ List.replicate n none) μ) := runF_ap rfl
@[simp] theorem runF1 {md : Md} {n : Nat} {b : DS} {x : DV} : runF md 1 n b [x] μ = SR.fin md μ.length (b ([some x] ++ List.replicate (n - 1) none) μ) := runF_ap rfl
@[simp] theorem runF2 {md : Md} {n : Nat} {b : DS} {x y : DV} : runF md 2 n b [x, y] μ = SR.fin md μ.length (b ([some x, some y] ++ List.replicate (n - 2) none) μ) := runF_ap rfl
@[simp] theorem runF3 {md : Md} {n : Nat} {b : DS} {x y z : DV} : runF md 3 n b [x, y, z] μ = SR.fin md μ.length (b ([some x, some y, some z] ++ List.replicate (n - 3) none) μ) := runF_ap rfl
@[simp] theorem fin_cons {d : DV} {x : CO} : fin .fz (μ.length + 1) d (x :: μ) = .ok d (x :: μ) := fin_len rfl
@[simp] theorem fin_cons1 {d : DV} {x : CO} : fin .fz 1 d [x] = .ok d [x] := fin_len rfl
theorem atI_nat {α : Type} {xs : List α} {k : Nat} (h : k < xs.length) : atI xs (k : Int) = xs[k]? := by
  unfold atI ixN
  rw [if_pos (by omega), if_pos (by omega)]
  rfl
end
structure Bx where
  cs : List Int
  i : Nat
  r : Int
  m : Int
  c : Int
def enc (b : Bx) : CO := .lst [.lst (b.cs.map .int), .int b.i, .int b.r, .int b.m, .int b.c]
section
variable {μ : Sto} {b : Bx} {ρ : En}
@[simp] theorem bx0 : vIx (.cell 0) (.int 0) (enc b :: μ) = some (.lst (b.cs.map .int)) := rfl
@[simp] theorem bx1 : vIx (.cell 0) (.int 1) (enc b :: μ) = some (.int b.i) := rfl
@[simp] theorem bx2 : vIx (.cell 0) (.int 2) (enc b :: μ) = some (.int b.r) := rfl
@[simp] theorem bx3 : vIx (.cell 0) (.int 3) (enc b :: μ) = some (.int b.m) := rfl
@[simp] theorem bx4 : vIx (.cell 0) (.int 4) (enc b :: μ) = some (.int b.c) := rfl
@[simp] theorem sb1 {k : Nat} : setAt 0 1 (.int ((k : Int) + 1)) ρ (enc b :: μ) = .nx ρ (enc { b with i := k + 1 } :: μ) := rfl
@[simp] theorem sb2 {k : Int} : setAt 0 2 (.int k) ρ (enc b :: μ) = .nx ρ (enc { b with r := k } :: μ) := rfl
@[simp] theorem sb3 {k : Int} : setAt 0 3 (.int k) ρ (enc b :: μ) = .nx ρ (enc { b with m := k } :: μ) := rfl
@[simp] theorem sb4 {k : Int} : setAt 0 4 (.int k) ρ (enc b :: μ) = .nx ρ (enc { b with c := k } :: μ) := rfl
theorem bxAt {k : Nat} (h : k < b.cs.length) : vIx (.lst (b.cs.map .int)) (.int (k : Int)) μ = some (.int b.cs[k]) := by
  show atI (b.cs.map DV.int) (k : Int) = _
  rw [atI_nat (by simpa using h)]
  simp [h]
theorem step_pos (x : Int) : (x % 2147483587).natAbs < 18446744073709551616 := by
  have h1 := Int.emod_nonneg x (b := 2147483587) (by decide)
  have h2 := Int.emod_lt_of_pos x (b := 2147483587) (by decide)
  omega
theorem take_ok (many : Int) (h0 : 0 < many) (h1 : many < 1073741824) : ∃ n b', f__law_take [.cell 0, .int many] (enc b :: μ) = .ok (.int n) (enc b' :: μ) ∧ 0 ≤ n ∧ n < many := by
  have pw3 : ∀ (a : Int) (μ : Sto), a.natAbs < 18446744073709551616 → vPow (.int a) (.int 3) μ = some (.int (a ^ 3)) := fun a μ h => vPow_i (n := 3) (by decide) h
  have pw18 : ∀ (μ : Sto), vPow (.int 10) (.int 18) μ = some (.int 1000000000000000000) := fun μ => vPow_i (n := 18) (by decide) (by decide)
  have m1 : ∀ x : Int, 0 ≤ x % many := fun x => Int.emod_nonneg x (by omega)
  have m2 : ∀ x : Int, x % many < many := fun x => Int.emod_lt_of_pos x h0
  have cut : ∃ t1 t2, b__law_take = sSeq t1 t2 ∧ (∀ b : Bx, ∃ ρ' b', t1 [some (.cell 0), some (.int many), none, none, none] (enc b :: μ) = .nx ρ' (enc b' :: μ) ∧ ∃ x y z, ρ' = [some (.cell 0), some (.int many), x, y, z]) ∧
      ∀ (b : Bx) (x y z : Option DV), ∃ n b', SR.fin .fz (μ.length + 1) (t2 [some (.cell 0), some (.int many), x, y, z] (enc b :: μ)) = .ok (.int n) (enc b' :: μ) ∧ 0 ≤ n ∧ n < many := by
    refine ⟨_, _, rfl, ?_, ?_⟩
    · intro b
      by_cases h1 : b.r = 0
      · by_cases h2 : b.i < b.cs.length
        · by_cases h3 : 1000000000000000000 ≤ (if b.cs[b.i] < 0 then -b.cs[b.i] else b.cs[b.i])
          · exact ⟨[some (.cell 0), some (.int many), some (.int b.cs[b.i]), none, none], ⟨b.cs, b.i + 1, if b.cs[b.i] < 0 then -b.cs[b.i] else b.cs[b.i], (b.m * 48271 + b.cs[b.i] % 2147483399 * 7 + 13) % 2147483587, b.c⟩, by simp [h1, h2, h3, bxAt, vMod_i, vMul_r, pw18], _, _, _, rfl⟩
          · exact ⟨[some (.cell 0), some (.int many), some (.int b.cs[b.i]), none, none], ⟨b.cs, b.i + 1, b.r, (b.m * 48271 + b.cs[b.i] % 2147483399 * 7 + 13) % 2147483587, b.c⟩, by simp [h1, h2, h3, bxAt, vMod_i, vMul_r, pw18], _, _, _, rfl⟩
        · exact ⟨[some (.cell 0), some (.int many), none, none, none], b, by simp [h1, h2], _, _, _, rfl⟩
      · exact ⟨[some (.cell 0), some (.int many), none, none, none], b, by simp [h1], _, _, _, rfl⟩
    · intro b x y z
      by_cases hr : 0 < b.r
      · refine ⟨b.r % many, { b with r := b.r / many }, ?_, m1 _, m2 _⟩
        simp [hr, vMod_i h0, vDiv_i h0 h1]
      · refine ⟨((((b.m + (b.c + 1) * 6007) % 2147483587) ^ 3 + 30011 * ((b.m + (b.c + 1) * 6007) % 2147483587) + 977) % 2147483587 / 59 + (((b.m + (b.c + 1) * 6007) % 2147483587) ^ 3 + 30011 * ((b.m + (b.c + 1) * 6007) % 2147483587) + 977) % 2147483587 % 7919 * 37) % many,
          ⟨b.cs, b.i, b.r, (((b.m + (b.c + 1) * 6007) % 2147483587) ^ 3 + 30011 * ((b.m + (b.c + 1) * 6007) % 2147483587) + 977) % 2147483587, b.c + 1⟩, ?_, m1 _, m2 _⟩
        simp [hr, vMod_i, vDiv_i, vMul_r, vMul_l, pw3, step_pos, h0, h1]
  obtain ⟨t1, t2, e, p1, p2⟩ := cut
  obtain ⟨ρ', b1, q1, x, y, z, q2⟩ := p1 b
  subst q2
  obtain ⟨n, b', q5, q6⟩ := p2 b1 x y z
  refine ⟨n, b', ?_, q6⟩
  unfold f__law_take
  rw [runF2, e, sSeq_ap]
  show SR.fin .fz (μ.length + 1) (SR.seq (t1 [some (.cell 0), some (.int many), none, none, none] (enc b :: μ)) t2) = _
  rw [q1]
  exact q5
end
end Lw

set_option Elab.async false
set_option linter.all false
set_option maxRecDepth 100000
set_option maxHeartbeats 4000000
namespace Lw
open PySem PySem.Spec PyProof.Rows L2 SD
section
variable {μ : Sto} {b : Bx}
theorem low_ints : ∀ (ns : List Int), lowL 0 (ns.map .int) = true
  | [] => rfl
  | n :: ns => by simp [lowL, DV.low, low_ints ns]
theorem cut_ints {ns : List Int} {lo hi : Option Int} : ∃ ms : List Int, SD.cutD (ns.map .int) lo hi = ms.map .int := by
  unfold SD.cutD
  rw [← List.map_drop, ← List.map_take]
  exact ⟨_, rfl⟩
theorem box_ok (ns : List Int) (own : Int) : ∃ b, f__law_box [.scr (ns.map .int), .int own] [] = .ok (.cell 0) [enc b] := by
  obtain ⟨ms, hm⟩ := cut_ints (ns := ns) (lo := none) (hi := some 63)
  have hs : vSlc (.scr (ns.map .int)) none (some 63) [] = some (.lst (ms.map .int)) := by
    show some (DV.lst (SD.cutD (ns.map .int) none (some 63))) = _
    rw [hm]
  have hlen : (ms.map DV.int).length < 16777216 := by
    rw [← hm]
    unfold SD.cutD
    refine Nat.lt_of_le_of_lt (List.length_take_le _ _) ?_
    have : HT.sIx (ns.map DV.int).length (ns.map DV.int).length (some 63) ≤ 63 := by
      show (if (63 : Int) < 0 then ((63 : Int) + ((ns.map DV.int).length : Int)).toNat else min (63 : Int).toNat (ns.map DV.int).length) ≤ 63
      rw [if_neg (by decide)]
      exact Nat.min_le_left _ _
    omega
  have lp : ∃ m x, loopD (gN 3) (sAsg (eBin vMod (eFn vInt (aCons (eBin vAdd (eBin vAdd (eBin vMul (eVar 2) (eC (.int 40503))) (eBin vMod (eFn vInt (aCons (eVar 3) aNil)) (eC (.int 2147483423)))) (eC (.int 11))) aNil)) (eC (.int 2147483587))) (gN 2)) (ms.map .int) [some (.scr (ns.map .int)), some (.int own), some (.int own), none] [] = .nx [some (.scr (ns.map .int)), some (.int own), some (.int m), x] [] := by
    obtain ⟨ρ', μ', e, ⟨m, x, h1⟩, h2⟩ := loopD_inv (t := gN 3) (f := sAsg (eBin vMod (eFn vInt (aCons (eBin vAdd (eBin vAdd (eBin vMul (eVar 2) (eC (.int 40503))) (eBin vMod (eFn vInt (aCons (eVar 3) aNil)) (eC (.int 2147483423)))) (eC (.int 11))) aNil)) (eC (.int 2147483587))) (gN 2))
      (fun ρ μ => (∃ m x, ρ = [some (.scr (ns.map .int)), some (.int own), some (.int m), x]) ∧ μ = []) (ms.map .int) [some (.scr (ns.map .int)), some (.int own), some (.int own), none] [] ⟨⟨own, none, rfl⟩, rfl⟩ (by
        rintro d hd ρ μ ⟨⟨m, x, rfl⟩, rfl⟩
        obtain ⟨n, hn, rfl⟩ := List.mem_map.mp hd
        exact ⟨[some (.scr (ns.map .int)), some (.int own), some (.int m), some (.int n)], rfl, [some (.scr (ns.map .int)), some (.int own), some (.int ((m * 40503 + n % 2147483423 + 11) % 2147483587)), some (.int n)], [], .inl (by simp [vMod_i, vMul_r]), ⟨_, _, rfl⟩, rfl⟩)
    subst h1 h2
    exact ⟨m, x, e⟩
  obtain ⟨m, x, e⟩ := lp
  refine ⟨⟨ms, 0, 0, m, 0⟩, ?_⟩
  have ec : compD (gN 3) tYes' (eFn vInt (aCons (eVar 3) aNil)) [some (.scr (ns.map .int)), some (.int own), some (.int m), none] (ms.map .int) [] = .ok (ms.map .int) [] := by

    have := compD_map (μ := []) (ρ := [some (.scr (ns.map .int)), some (.int own), some (.int m), none]) (t := gN 3) (te := eFn vInt (aCons (eVar 3) aNil)) id (ms.map .int) (by
      intro d hd
      obtain ⟨n, hn, rfl⟩ := List.mem_map.mp hd
      exact ⟨_, rfl, by simp⟩)
    rw [List.map_id] at this
    exact this
  unfold f__law_box
  rw [runF2]
  unfold b__law_box
  have hk : ∀ (ρ : En) (t : DG) (tt : DT) (te : DE), R.lc1 (.ok (.fix (ms.map DV.int)) []) t tt te ρ = compD t tt te ρ (ms.map .int) [] := fun ρ t tt te => lc1_fix hlen
  have hw : wkOf (.lst (ms.map DV.int)) [] = some (.fix (ms.map DV.int)) := rfl
  have wp : wipeE [some (.scr (ns.map .int)), some (.int own), some (.int m), x] [3] = [some (.scr (ns.map .int)), some (.int own), some (.int m), none] := rfl
  have h5 : ∀ (x1 x2 x3 x4 x5 : DV), mkC [x1, x2, x3, x4, x5] [] = .ok (.cell 0) [.lst [x1, x2, x3, x4, x5]] := fun _ _ _ _ _ => mkC_small (by show 5 ≤ _; decide)
  have hf : fin .cl 0 (.cell 0) [CO.lst [.lst (ms.map .int), .int 0, .int 0, .int m, .int 0]] = .ok (.cell 0) [CO.lst [.lst (ms.map .int), .int 0, .int 0, .int m, .int 0]] := by
    unfold fin finC
    simp [lowL, DV.low, low_ints]
  simp [hs, hw, e, wp, hk, ec, h5]
  exact hf
theorem pick_ok (xs : List DV) (h0 : 0 < xs.length) (h1 : xs.length < 1073741824) : ∃ d b', f__law_pick [.cell 0, .lst xs] (enc b :: μ) = .ok d (enc b' :: μ) ∧ d ∈ xs := by
  obtain ⟨n, b', e, p0, p1⟩ := take_ok (μ := μ) (b := b) xs.length (by omega) (by omega)
  obtain ⟨k, rfl⟩ := Int.eq_ofNat_of_zero_le p0
  have hk : k < xs.length := by omega
  refine ⟨xs[k], b', ?_, List.getElem_mem hk⟩
  have hx : vIx (.lst xs) (.int (k : Int)) (enc b' :: μ) = some xs[k] := by
    show atI xs (k : Int) = _
    rw [atI_nat hk, List.getElem?_eq_getElem hk]
  unfold f__law_pick
  rw [runF2]
  unfold b__law_pick
  simp [e, hx]
end
end Lw

set_option Elab.async false
set_option linter.all false
set_option maxRecDepth 100000
set_option maxHeartbeats 4000000
/-! What the plain sides of several laws share: built-ins, `_law_same`, `_law_gcd`, the box as functions. -/
namespace Lw
open PySem PySem.Spec PyProof.Rows L2 SD
section
variable {μ : Sto}
@[simp] theorem vIsi_ty {d : DV} {t : T7} : vIsi [d, .ty t] μ = (tyOf μ d).map fun a => .bl (a.sub t) := rfl
@[simp] theorem ty_non : tyOf μ .non = some .non := rfl
@[simp] theorem ty_bl {b : Bool} : tyOf μ (.bl b) = some .bl := rfl
@[simp] theorem ty_int {b : Int} : tyOf μ (.int b) = some .int := rfl
@[simp] theorem ty_str {b : Str} : tyOf μ (.str b) = some .str := rfl
@[simp] theorem ty_tup {b : List DV} : tyOf μ (.tup b) = some .tup := rfl
@[simp] theorem ty_lst {b : List DV} : tyOf μ (.lst b) = some .lst := rfl
@[simp] theorem ty_dct {b : List Key} {c : List DV} : tyOf μ (.dct b c) = some .dct := rfl
@[simp] theorem tup0 {xs : List DV} {x : DV} : vIx (.tup (x :: xs)) (.int 0) μ = some x := by
  show atI (x :: xs) ((0 : Nat) : Int) = _
  rw [atI_nat (by simp)] <;> rfl
@[simp] theorem tup1 {xs : List DV} {x y : DV} : vIx (.tup (x :: y :: xs)) (.int 1) μ = some y := by
  show atI (x :: y :: xs) ((1 : Nat) : Int) = _
  rw [atI_nat (by simp)] <;> rfl
theorem vAll_map {α : Type} (l : List α) (p : α → Bool) : vAll [.lst (l.map fun x => .bl (p x))] μ = some (.bl (l.all p)) := by
  have : ∀ l : List α, asBs (l.map fun x => .bl (p x)) = some (l.map p) := by
    intro l
    induction l with
    | nil => rfl
    | cons a l ih => simp [asBs, ih]
  show (asBs (l.map fun x => .bl (p x))).map (fun bs => DV.bl (bs.all id)) = _
  rw [this]
  simp
theorem all2 {a b : Bool} : vAll [.lst [.bl a, .bl b]] μ = some (.bl (a && b)) := by
  have := vAll_map (μ := μ) [a, b] id
  simpa using this
theorem lc_two {t : DG} {tt : DT} {te : DE} {ρ : En} {x y : DV} : R.lc1 (.ok (.fix [x, y]) μ) t tt te ρ = compD t tt te ρ [x, y] μ := lc1_fix (by show 2 < _; decide)
theorem wk_two {x y : DV} : wkOf (.tup [x, y]) μ = some (.fix [x, y]) := rfl
theorem wipe1 {a b : Option DV} : wipeE [a, b] [1] = [a, none] := rfl
theorem gcd_step (x y : Int) (hx : 0 ≤ x) (hy : 0 < y) : Int.gcd x y = Int.gcd y (x % y) := by
  obtain ⟨a, rfl⟩ := Int.eq_ofNat_of_zero_le hx
  obtain ⟨b, rfl⟩ := Int.eq_ofNat_of_zero_le (by omega : 0 ≤ y)
  have : ((a : Int) % (b : Int)) = ((a % b : Nat) : Int) := by simp
  rw [this]
  simp only [Int.gcd_natCast_natCast]
  rw [Nat.gcd_comm, Nat.gcd_rec, Nat.gcd_comm]
theorem abs_eq (a : Int) : (if a < 0 then -a else a) = (a.natAbs : Int) := by split <;> omega
def leaf : DV → Bool
  | .non | .bl _ | .int _ => true
  | _ => false
@[simp] theorem vIsi_lt {d : DV} : vIsi [d, .tup [.ty .lst, .ty .tup]] μ = (tyOf μ d).map fun a => .bl (a.sub .lst || a.sub .tup) := by
  show (match tyOf μ d, asTys [.ty .lst, .ty .tup] with
    | some a, some ts => some (DV.bl (ts.any fun t => a.sub t))
    | _, _ => none) = _
  have : asTys [.ty .lst, .ty .tup] = some [.lst, .tup] := rfl
  rw [this]
  cases tyOf μ d with
  | none => rfl
  | some a => simp
@[simp] theorem vEq_b {a b : Bool} : vEq (.bl a) (.bl b) μ = some (.bl (a == b)) := rfl
@[simp] theorem vNe_b {a b : Bool} : vNe (.bl a) (.bl b) μ = some (.bl (!(a == b))) := rfl
theorem vEq_n : vEq .non .non μ = some (.bl true) := rfl
theorem eq5 {a b c d e : Bool} : vEq (.lst [.bl a, .bl b, .bl c, .bl d, .bl e]) (.lst [.bl a, .bl b, .bl c, .bl d, .bl e]) μ = some (.bl true) := by
  cases a <;> cases b <;> cases c <;> cases d <;> cases e <;> rfl
@[simp] theorem lst0 {xs : List DV} {x : DV} : vIx (.lst (x :: xs)) (.int 0) μ = some x := by
  show atI (x :: xs) ((0 : Nat) : Int) = _
  rw [atI_nat (by simp)] <;> rfl
@[simp] theorem lst1 {xs : List DV} {x y : DV} : vIx (.lst (x :: y :: xs)) (.int 1) μ = some y := by
  show atI (x :: y :: xs) ((1 : Nat) : Int) = _
  rw [atI_nat (by simp)] <;> rfl
theorem mkL5 {a b c d e : DV} : mkL [a, b, c, d, e] μ = .ok (.lst [a, b, c, d, e]) μ := mkL_small (by show 5 ≤ _; decide)
theorem vIs_n {d : DV} (h : leaf d = true) : vIs d .non μ = some (.bl (isNon d)) := by
  cases d <;> first | (simp [leaf] at h; done) | rfl
def kindD (d : DV) : DV := .lst [.bl (match d with | .bl _ => true | _ => false), .bl (match d with | .bl _ => true | .int _ => true | _ => false), .bl false, .bl false, .bl (isNon d)]
theorem kinds {d : DV} (h : leaf d = true) (ρ : En) (hρ : 4 < ρ.length) : compD (gN 4) tYes' (eLst (aCons (eFn vIsi (aCons (eVar 4) (aCons (eC (.ty .bl)) aNil))) (aCons (eFn vIsi (aCons (eVar 4) (aCons (eC (.ty .int)) aNil))) (aCons (eFn vIsi (aCons (eVar 4) (aCons (eC (.ty .str)) aNil))) (aCons (eFn vIsi (aCons (eVar 4) (aCons (eC (.ty .dct)) aNil))) (aCons (eBin vIs (eVar 4) (eC .non)) aNil)))))) ρ [d, d] μ = .ok [kindD d, kindD d] μ := by
  have := compD_map (μ := μ) (ρ := ρ) (t := gN 4) (te := eLst (aCons (eFn vIsi (aCons (eVar 4) (aCons (eC (.ty .bl)) aNil))) (aCons (eFn vIsi (aCons (eVar 4) (aCons (eC (.ty .int)) aNil))) (aCons (eFn vIsi (aCons (eVar 4) (aCons (eC (.ty .str)) aNil))) (aCons (eFn vIsi (aCons (eVar 4) (aCons (eC (.ty .dct)) aNil))) (aCons (eBin vIs (eVar 4) (eC .non)) aNil)))))) kindD [d, d] (fun z hz => ⟨ρ.set 4 (some z), rfl, by
    have e : z = d := by simpa using hz
    subst e
    have hg : (ρ.set 4 (some z))[4]? = some (some z) := by rw [List.getElem?_set_self hρ]
    cases z <;> first | (simp [leaf] at h; done) | simp [hρ, T7.sub, vIs_n h, mkL5, kindD]⟩)
  simpa using this
theorem kind_eq {d : DV} : vEq (kindD d) (kindD d) μ = some (.bl true) := eq5
theorem leaf_eq {d : DV} (h : leaf d = true) : vEq d d μ = some (.bl true) := by
  cases d <;> first | (simp [leaf] at h; done) | simp [vEq_n]
theorem same_leaf (k : Nat) {d : DV} (h : leaf d = true) : f__law_same (k + 1) [d, d] μ = .ok (.bl true) μ := by
  unfold f__law_same
  rw [runF2]
  unfold b__law_same
  have wp : wipeE [some d, some d, none, none, none] [4] = [some d, some d, none, none, none] := rfl
  have hk := kinds (μ := μ) h [some d, some d, none, none, none] (by show 4 < 5; decide)
  cases d <;> first | (simp [leaf] at h; done) | simp [T7.sub, wk_two, lc_two, wp, hk, kind_eq, leaf_eq h]
theorem same_succ (k : Nat) : f__law_same (k + 1) = runF .fz 2 5 (b__law_same (f__law_same k)) := rfl
theorem rng_n {n : Nat} (h : n ≤ 1000) : rngOf1 [.int (n : Int)] = some (.fix ((List.range n).map fun (i : Nat) => DV.int (i : Int))) := by
  have hb : inB (n : Int) = true := by
    exact Nat.ble_eq_true_of_le (by show n ≤ _; omega)
  simp only [rngOf1, hb, if_true, Int.toNat_natCast, Int.zero_add]
theorem lc_rng {n : Nat} (h : n ≤ 1000) {t : DG} {tt : DT} {te : DE} {ρ : En} : R.lc1 (.ok (.fix ((List.range n).map fun (i : Nat) => DV.int (i : Int))) μ) t tt te ρ = compD t tt te ρ ((List.range n).map fun (i : Nat) => DV.int (i : Int)) μ := lc1_fix (by rw [List.length_map, List.length_range]; omega)
theorem same_list (k : Nat) {ds : List DV} (h : ds.all leaf = true) (hl : ds.length ≤ 1000) : f__law_same (k + 2) [.lst ds, .lst ds] μ = .ok (.bl true) μ := by
  rw [same_succ, runF2]
  unfold b__law_same
  have wp : wipeE [some (.lst ds), some (.lst ds), none, none, none] [3] = [some (.lst ds), some (.lst ds), none, none, none] := rfl
  have hc : compD (gN 3) tYes' (eCall (f__law_same (k + 1)) (aCons (eBin vIx (eVar 0) (eVar 3)) (aCons (eBin vIx (eVar 1) (eVar 3)) aNil))) [some (.lst ds), some (.lst ds), none, none, none] ((List.range ds.length).map fun (i : Nat) => DV.int (i : Int)) μ = .ok ((List.range ds.length).map fun i => .bl true) μ := by
    have := compD_map (μ := μ) (ρ := [some (.lst ds), some (.lst ds), none, none, none]) (t := gN 3) (te := eCall (f__law_same (k + 1)) (aCons (eBin vIx (eVar 0) (eVar 3)) (aCons (eBin vIx (eVar 1) (eVar 3)) aNil))) (fun _ => .bl true) ((List.range ds.length).map fun (i : Nat) => DV.int (i : Int)) (fun z hz => by
      obtain ⟨i, hi, rfl⟩ := List.mem_map.mp hz
      have hi' : i < ds.length := List.mem_range.mp hi
      have hx : vIx (.lst ds) (.int (i : Int)) μ = some ds[i] := by
        show atI ds (i : Int) = _
        rw [atI_nat hi', List.getElem?_eq_getElem hi']
      have hlf : leaf ds[i] = true := List.all_eq_true.mp h _ (List.getElem_mem hi')
      exact ⟨_, rfl, by simp [hx, same_leaf k hlf]⟩)
    rw [this, List.map_map]
    rfl
  have hv : vAll [.lst ((List.range ds.length).map fun _ => DV.bl true)] μ = some (.bl true) := by
    rw [vAll_map (μ := μ) (List.range ds.length) fun _ => true]
    simp
  have hrg : ∀ ρ : En, ρ[1]? = some (some (.lst ds)) → iRng1' (aCons (eFn vLen (aCons (eVar 1) aNil)) aNil) ρ μ = .ok (.fix ((List.range ds.length).map fun (i : Nat) => DV.int (i : Int))) μ := by
    intro ρ hρ
    rw [iRng1_ap]
    simp only [eFn_ap, aCons_ap, aNil_ap, eVar_ap, hρ, ac1_ok, ac2_ok, mk_ok, vLen_l, of_some, rg1_ok]
    rw [rng_n hl, of_some]
  have hlc : eLc (iRng1' (aCons (eFn vLen (aCons (eVar 1) aNil)) aNil)) (gN 3) tYes' (eCall (f__law_same (k + 1)) (aCons (eBin vIx (eVar 0) (eVar 3)) (aCons (eBin vIx (eVar 1) (eVar 3)) aNil))) [3] [some (.lst ds), some (.lst ds), none, none, none] μ = .ok (.lst ((List.range ds.length).map fun _ => DV.bl true)) μ := by
    rw [eLc_ap, wp, hrg _ rfl, lc_rng hl, hc, mk_ok]
  have hall : eFn vAll (aCons (eLc (iRng1' (aCons (eFn vLen (aCons (eVar 1) aNil)) aNil)) (gN 3) tYes' (eCall (f__law_same (k + 1)) (aCons (eBin vIx (eVar 0) (eVar 3)) (aCons (eBin vIx (eVar 1) (eVar 3)) aNil))) [3]) aNil) [some (.lst ds), some (.lst ds), none, none, none] μ = .ok (.bl true) μ := by
    rw [eFn_ap, aCons_ap, hlc, ac1_ok, aNil_ap, ac2_ok, mk_ok, hv, of_some]
  show SR.fin .fz μ.length (_ : SR) = _
  generalize eFn vAll (aCons (eLc (iRng1' (aCons (eFn vLen (aCons (eVar 1) aNil)) aNil)) (gN 3) tYes' (eCall (f__law_same (k + 1)) (aCons (eBin vIx (eVar 0) (eVar 3)) (aCons (eBin vIx (eVar 1) (eVar 3)) aNil))) [3]) aNil) = E at hall ⊢
  simp [T7.sub, hall]
theorem gcd_loop2 (p q : Option DV) : ∀ (n : Nat) (x y : Int), 0 ≤ x → 0 ≤ y → y.toNat < n →
    loopW (tB' (eBin vNe (eVar 2) (eC (.int 0)))) (sPar 2 3 (aCons (eBin vMod (eFn vInt (aCons (eVar 3) aNil)) (eFn vInt (aCons (eVar 2) aNil))) (aCons (eVar 2) aNil))) n [p, q, some (.int y), some (.int x)] μ = .nx [p, q, some (.int 0), some (.int (Int.gcd x y))] μ
  | 0, x, y, hx, hy, h => by omega
  | n + 1, x, y, hx, hy, h => by
    unfold loopW
    by_cases h0 : y = 0
    · subst h0
      have : ((Int.gcd x 0 : Nat) : Int) = x := by simp; omega
      simp [this, R.toS]
      omega
    · have hp : 0 < y := by omega
      have h1 := Int.emod_nonneg x (b := y) h0
      have h2 := Int.emod_lt_of_pos x hp
      have := gcd_loop2 p q n y (x % y) hy h1 (by omega)
      simp only [tB_ap, eBin_ap, eVar_ap, eC_ap, List.getElem?_cons_succ, List.getElem?_cons_zero, bin1_ok, bin2_ok, vNe_i, of_some, tb_ok, h0, decide_false, Bool.not_false]
      show (match R.par 2 3 _ _ with
        | .nx ρ' μ' => _
        | .ct ρ' μ' => _
        | .bk ρ' μ' => _
        | r => _) = _
      simp [vMod_i hp, this]
      rw [gcd_step x y hx hp]
end
theorem tk_ex (b : Bx) (many : Int) : ∃ r : Int × Bx, 0 < many → many < 1073741824 → f__law_take [.cell 0, .int many] [enc b] = .ok (.int r.1) [enc r.2] ∧ 0 ≤ r.1 ∧ r.1 < many := by
  by_cases h0 : 0 < many
  · by_cases h1 : many < 1073741824
    · obtain ⟨n, b', h⟩ := take_ok (μ := []) (b := b) many h0 h1
      exact ⟨(n, b'), fun _ _ => h⟩
    · exact ⟨(0, b), fun _ h => absurd h h1⟩
  · exact ⟨(0, b), fun h _ => absurd h h0⟩
noncomputable def tkN (b : Bx) (many : Int) : Int := (Classical.choose (tk_ex b many)).1
noncomputable def tkB (b : Bx) (many : Int) : Bx := (Classical.choose (tk_ex b many)).2
theorem take_s {b : Bx} {many : Int} (h0 : 0 < many) (h1 : many < 1073741824) : f__law_take [.cell 0, .int many] [enc b] = .ok (.int (tkN b many)) [enc (tkB b many)] := (Classical.choose_spec (tk_ex b many) h0 h1).1
theorem tk_lo {b : Bx} {many : Int} (h0 : 0 < many) (h1 : many < 1073741824) : 0 ≤ tkN b many := (Classical.choose_spec (tk_ex b many) h0 h1).2.1
theorem tk_hi {b : Bx} {many : Int} (h0 : 0 < many) (h1 : many < 1073741824) : tkN b many < many := (Classical.choose_spec (tk_ex b many) h0 h1).2.2
theorem pk_ex (b : Bx) (xs : List DV) : ∃ r : DV × Bx, 0 < xs.length → xs.length < 1073741824 → f__law_pick [.cell 0, .lst xs] [enc b] = .ok r.1 [enc r.2] ∧ r.1 ∈ xs := by
  by_cases h0 : 0 < xs.length
  · by_cases h1 : xs.length < 1073741824
    · obtain ⟨n, b', h⟩ := pick_ok (μ := []) (b := b) xs h0 h1
      exact ⟨(n, b'), fun _ _ => h⟩
    · exact ⟨(.non, b), fun _ h => absurd h h1⟩
  · exact ⟨(.non, b), fun h _ => absurd h h0⟩
noncomputable def pkD (b : Bx) (xs : List DV) : DV := (Classical.choose (pk_ex b xs)).1
noncomputable def pkB (b : Bx) (xs : List DV) : Bx := (Classical.choose (pk_ex b xs)).2
theorem pick_s {b : Bx} {xs : List DV} (h0 : 0 < xs.length) (h1 : xs.length < 1073741824) : f__law_pick [.cell 0, .lst xs] [enc b] = .ok (pkD b xs) [enc (pkB b xs)] := (Classical.choose_spec (pk_ex b xs) h0 h1).1
theorem pk_mem {b : Bx} {xs : List DV} (h0 : 0 < xs.length) (h1 : xs.length < 1073741824) : pkD b xs ∈ xs := (Classical.choose_spec (pk_ex b xs) h0 h1).2
theorem pk_all {b : Bx} {xs : List DV} {p : DV → Bool} (h0 : 0 < xs.length) (h1 : xs.length < 1073741824) (h : xs.all p = true) : p (pkD b xs) = true := List.all_eq_true.mp h _ (pk_mem h0 h1)
def Ex (p : DV → Bool) (r : R DV) : Prop := ∃ d b', r = .ok d [enc b'] ∧ p d = true
theorem Ex_ok {p : DV → Bool} {d : DV} {b : Bx} : Ex p (.ok d [enc b]) ↔ p d = true := by
  constructor
  · rintro ⟨d', b', e, h⟩
    injection e with e1 e2
    rw [e1]; exact h
  · exact fun h => ⟨d, b, rfl, h⟩
end Lw

set_option Elab.async false
set_option linter.all false
set_option maxRecDepth 100000
set_option maxHeartbeats 4000000
namespace Lw
open PySem PySem.Spec PyProof.Rows L2 SD
def ptD (p : Pt) : DV := .tup [.int p.1, .int p.2]
def polyD (P : List Pt) : DV := .tup (P.map ptD)
def edD (e : Pt × Pt) : DV := .tup [ptD e.1, ptD e.2]
def edsD (E : List (Pt × Pt)) : DV := .lst (E.map edD)
def bp (p : Pt) : Prop := p.1.natAbs ≤ 100000 ∧ p.2.natAbs ≤ 100000
def Bd (P : List Pt) : Prop := ∀ p ∈ P, bp p
section
variable {μ : Sto} {ρ : En} {α : Type}
@[simp] theorem pt0 {p : Pt} : vIx (ptD p) (.int 0) μ = some (.int p.1) := tup0
@[simp] theorem pt1 {p : Pt} : vIx (ptD p) (.int 1) μ = some (.int p.2) := tup1
@[simp] theorem len_poly {P : List Pt} : vLen [polyD P] μ = some (.int P.length) := by
  show some (DV.int ((P.map ptD).length : Nat)) = _
  rw [List.length_map]
theorem compD_mapL {t : DG} {te : DE} (h g : α → DV) : ∀ (l : List α), (∀ x ∈ l, ∃ ρ1, t (h x) ρ μ = some ρ1 ∧ te ρ1 μ = .ok (g x) μ) → compD t tYes' te ρ (l.map h) μ = .ok (l.map g) μ
  | [], _ => rfl
  | d :: ds, hh => by
    obtain ⟨ρ1, e1, e2⟩ := hh d (by simp)
    rw [List.map_cons, List.map_cons]
    unfold compD
    rw [e1]
    show (te ρ1 μ).nox.bind _ = _
    rw [e2]
    show (compD t tYes' te ρ (ds.map h) μ).bind _ = _
    rw [compD_mapL h g ds fun d hd => hh d (List.mem_cons_of_mem _ hd)]
    rfl
theorem loopD_any {t : DG} {f : DS} (p : α → Bool) (r : DV) (I : En → Prop) (h : α → DV) : ∀ (l : List α) (ρ : En), I ρ → (∀ x ∈ l, ∀ ρ, I ρ → ∃ ρ1, t (h x) ρ μ = some ρ1 ∧ (p x = true → f ρ1 μ = .rt r μ) ∧ (p x = false → ∃ ρ', f ρ1 μ = .nx ρ' μ ∧ I ρ')) →
    (l.any p = true → loopD t f (l.map h) ρ μ = .rt r μ) ∧ (l.any p = false → ∃ ρ', loopD t f (l.map h) ρ μ = .nx ρ' μ ∧ I ρ')
  | [], ρ, hi, _ => ⟨fun e => by simp at e, fun _ => ⟨ρ, rfl, hi⟩⟩
  | x :: l, ρ, hi, hh => by
    obtain ⟨ρ1, e1, e2, e3⟩ := hh x (by simp) ρ hi
    cases hp : p x with
    | true =>
      refine ⟨fun _ => ?_, fun e => by simp [hp] at e⟩
      rw [List.map_cons]
      unfold loopD
      rw [e1]
      simp only [e2 hp]
    | false =>
      obtain ⟨ρ', e4, hi'⟩ := e3 hp
      obtain ⟨q1, q2⟩ := loopD_any p r I h l ρ' hi' fun y hy => hh y (List.mem_cons_of_mem _ hy)
      have e5 : loopD t f ((x :: l).map h) ρ μ = loopD t f (l.map h) ρ' μ := by
        rw [List.map_cons]
        conv => lhs; unfold loopD
        rw [e1]
        simp only [e4]
      rw [e5]
      refine ⟨fun e => q1 ?_, fun e => q2 ?_⟩
      · simpa [hp] using e
      · simpa [hp] using e
theorem wk_lst {xs : List DV} : wkOf (.lst xs) μ = some (.fix xs) := rfl
theorem wk_tup {xs : List DV} : wkOf (.tup xs) μ = some (.fix xs) := rfl
theorem wk_poly {P : List Pt} : wkOf (polyD P) μ = some (.fix (P.map ptD)) := rfl
theorem wk_eds {E : List (Pt × Pt)} : wkOf (edsD E) μ = some (.fix (E.map edD)) := rfl
theorem turn_l {p q r : Pt} (hp : bp p) (hq : bp q) (hr : bp r) : f__law_turn [ptD p, ptD q, ptD r] μ = .ok (.int (turn p q r)) μ := by
  unfold f__law_turn
  rw [runF3]
  unfold b__law_turn
  have m1 : ∀ y μ, vMul (.int (q.1 - p.1)) (.int y) μ = some (.int ((q.1 - p.1) * y)) := fun y μ => vMul_l (by have := hp.1; have := hq.1; omega)
  have m2 : ∀ y μ, vMul (.int (q.2 - p.2)) (.int y) μ = some (.int ((q.2 - p.2) * y)) := fun y μ => vMul_l (by have := hp.2; have := hq.2; omega)
  simp [m1, m2, turn]
theorem turn_p {p q r : Pt} (hp : bp p) (hq : bp q) (hr : bp r) : f_left_of [ptD p, ptD q, ptD r] μ = .ok (.int (turn p q r)) μ := by
  unfold f_left_of
  rw [runF3]
  unfold b_left_of
  have m1 : ∀ y μ, vMul (.int (q.1 - p.1)) (.int y) μ = some (.int ((q.1 - p.1) * y)) := fun y μ => vMul_l (by have := hp.1; have := hq.1; omega)
  have m2 : ∀ y μ, vMul (.int (q.2 - p.2)) (.int y) μ = some (.int ((q.2 - p.2) * y)) := fun y μ => vMul_l (by have := hp.2; have := hq.2; omega)
  simp [m1, m2, turn]
theorem ix_cor {P : List Pt} {k : Nat} (h : k < P.length) : vIx (polyD P) (.int (k : Int)) μ = some (ptD (cor P k)) := by
  show atI (P.map ptD) (k : Int) = _
  rw [atI_nat (by simpa using h), List.getElem?_map, List.getElem?_eq_getElem h, cor_get h]
  rfl
theorem ix_pred {P : List Pt} {k : Nat} (h : k < P.length) : vIx (polyD P) (.int ((k : Int) - 1)) μ = some (ptD (cor P (pr P.length k))) := by
  by_cases hk : k = 0
  · subst hk
    show atI (P.map ptD) (((0 : Nat) : Int) - 1) = _
    have e : pr P.length 0 = P.length - 1 := rfl
    rw [e]
    unfold atI ixN
    rw [List.length_map, if_neg (by omega), if_pos (by omega)]
    have e2 : ((((0 : Nat) : Int) - 1) + (P.length : Int)).toNat = P.length - 1 := by omega
    rw [e2]
    show (P.map ptD)[P.length - 1]? = _
    rw [List.getElem?_map, List.getElem?_eq_getElem (by omega), cor_get (by omega)]
    rfl
  · have e : ((k : Int) - 1) = ((k - 1 : Nat) : Int) := by omega
    have e2 : pr P.length k = k - 1 := by unfold pr; rw [if_neg hk]
    rw [e, e2]
    exact ix_cor (by omega)
theorem wipeE1 {a b : Option DV} : wipeE [a, b] [1] = [a, none] := rfl
theorem edges_p {P : List Pt} (hl : P.length ≤ 1000) : f_edges [polyD P] μ = .ok (edsD (eP P)) μ := by
  unfold f_edges
  rw [runF1]
  unfold b_edges
  have hc : compD (gN 1) tYes' (eTup (aCons (eBin vIx (eVar 0) (eBin vSub (eVar 1) (eC (.int 1)))) (aCons (eBin vIx (eVar 0) (eVar 1)) aNil))) [some (polyD P), none] ((List.range P.length).map fun (i : Nat) => DV.int (i : Int)) μ = .ok ((List.range P.length).map fun k => edD (cor P (pr P.length k), cor P k)) μ := by
    refine compD_mapL _ _ _ fun k hk => ?_
    have hk' := List.mem_range.mp hk
    exact ⟨_, rfl, by simp [ix_cor hk', ix_pred hk']; rfl⟩
  have e : (eP P).map edD = (List.range P.length).map fun k => edD (cor P (pr P.length k), cor P k) := by unfold eP; rw [List.map_map]; rfl
  unfold edsD
  rw [e]
  simp only [sRet_ap, eLc_ap, iRng1_ap, aCons_ap, eFn_ap, eVar_ap, aNil_ap, List.cons_append, List.nil_append, List.replicate, List.getElem?_cons_zero, ac1_ok, ac2_ok, mk_ok, len_poly, of_some, rg1_ok, rng_n hl, wipeE1, lc_rng hl, hc, ret_ok, sfin_rt, fin_same]
theorem edges_l {P : List Pt} (hl : P.length ≤ 1000) : f__law_edges [polyD P] μ = .ok (edsD (eL P)) μ := by
  unfold f__law_edges
  rw [runF1]
  unfold b__law_edges
  have hc : compD (gN 1) tYes' (eTup (aCons (eBin vIx (eVar 0) (eVar 1)) (aCons (eBin vIx (eVar 0) (eBin vMod (eFn vInt (aCons (eBin vAdd (eVar 1) (eC (.int 1))) aNil)) (eFn vLen (aCons (eVar 0) aNil)))) aNil))) [some (polyD P), none] ((List.range P.length).map fun (i : Nat) => DV.int (i : Int)) μ = .ok ((List.range P.length).map fun k => edD (cor P k, cor P (nx P.length k))) μ := by
    refine compD_mapL _ _ _ fun k hk => ?_
    have hk' := List.mem_range.mp hk
    have hm : vMod (.int ((k : Int) + 1)) (.int (P.length : Int)) μ = some (.int ((nx P.length k : Nat) : Int)) := by
      rw [vMod_i (by omega)]
      have : ((k : Int) + 1) % (P.length : Int) = (((k + 1) % P.length : Nat) : Int) := by simp
      rw [this, nx_mod hk']
    exact ⟨_, rfl, by simp [ix_cor hk', hm, ix_cor (nx_lt hk')]; rfl⟩
  have e : (eL P).map edD = (List.range P.length).map fun k => edD (cor P k, cor P (nx P.length k)) := by unfold eL; rw [List.map_map]; rfl
  unfold edsD
  rw [e]
  simp only [sRet_ap, eLc_ap, iRng1_ap, aCons_ap, eFn_ap, eVar_ap, aNil_ap, List.cons_append, List.nil_append, List.replicate, List.getElem?_cons_zero, ac1_ok, ac2_ok, mk_ok, len_poly, of_some, rg1_ok, rng_n hl, wipeE1, lc_rng hl, hc, ret_ok, sfin_rt, fin_same]
@[simp] theorem g2_pt {i j : Nat} {p : Pt} : gTup' (gCons' (gN i) (gCons' (gN j) gNil')) 2 (ptD p) ρ μ = some ((ρ.set i (some (.int p.1))).set j (some (.int p.2))) := rfl
@[simp] theorem g2_ed {i j : Nat} {e : Pt × Pt} : gTup' (gCons' (gN i) (gCons' (gN j) gNil')) 2 (edD e) ρ μ = some ((ρ.set i (some (ptD e.1))).set j (some (ptD e.2))) := rfl
@[simp] theorem g2_tup {i j : Nat} {x y : DV} : gTup' (gCons' (gN i) (gCons' (gN j) gNil')) 2 (.tup [x, y]) ρ μ = some ((ρ.set i (some x)).set j (some y)) := rfl
end
end Lw

set_option Elab.async false
set_option linter.all false
set_option maxRecDepth 100000
set_option maxHeartbeats 4000000
/-! k03: who is a part, by the package and by the law: values of any kind. -/
namespace Lw
open PySem PySem.Spec PyProof.Rows L2 SD
section
variable {μ : Sto} {ρ : En} {α : Type}
def p0 : DV → Bool
  | .str _ | .non | .bl _ | .int _ | .tup _ | .lst _ | .dct _ _ => true
  | _ => false
def p1 : DV → Bool
  | .tup xs => xs.all p0
  | d => p0 d
def p2 : DV → Bool
  | .tup xs => xs.all p1
  | d => p0 d
def wholeB : DV → Bool
  | .int _ => true
  | _ => false
def numB (lo hi : Int) : DV → Bool
  | .int i => decide (lo ≤ i) && decide (i ≤ hi)
  | _ => false
def pairB (m : Int) : DV → Bool
  | .tup [x, y] => numB (-m) m x && numB (-m) m y
  | _ => false
theorem whole1 {d : DV} (h : p0 d = true) : f_is_whole [d] μ = .ok (.bl (wholeB d)) μ := by
  unfold f_is_whole
  rw [runF1]
  unfold b_is_whole
  cases d <;> first | (simp [p0] at h; done) | simp [T7.sub, wholeB]
theorem whole2 {d : DV} (h : p0 d = true) : f__law_is_whole [d] μ = .ok (.bl (wholeB d)) μ := by
  unfold f__law_is_whole
  rw [runF1]
  unfold b__law_is_whole
  cases d <;> first | (simp [p0] at h; done) | simp [T7.sub, wholeB]
theorem numb1 {d : DV} {lo hi : Int} (h : p0 d = true) : f_is_number [d, .int lo, .int hi] μ = .ok (.bl (numB lo hi d)) μ := by
  unfold f_is_number
  rw [runF3]
  unfold b_is_number
  cases d with
  | int i => by_cases h1 : lo ≤ i <;> simp [whole1 h, wholeB, numB, h1]
  | _ => simp [whole1 h, wholeB, numB]
theorem all_two {xs : List DV} {p : DV → Bool} (h : xs.all p = true) (hl : xs.length = 2) : ∃ x y, xs = [x, y] ∧ p x = true ∧ p y = true := by
  match xs, hl with
  | [x, y], _ => exact ⟨x, y, rfl, by simp at h; exact h.1, by simp at h; exact h.2⟩
theorem pairB_len {m : Int} {xs : List DV} (h : xs.length ≠ 2) : pairB m (.tup xs) = false := by
  match xs with
  | [] => rfl
  | [_] => rfl
  | [_, _] => exact absurd rfl h
  | _ :: _ :: _ :: _ => rfl
theorem pair1 {d : DV} {m : Int} (h : p1 d = true) : f_is_pair [d, .int m] μ = .ok (.bl (pairB m d)) μ := by
  unfold f_is_pair
  rw [runF2]
  unfold b_is_pair
  cases d with
  | tup xs =>
    by_cases hl : xs.length = 2
    · obtain ⟨x, y, rfl, hx, hy⟩ := all_two (p := p0) h hl
      by_cases hn : numB (-m) m x = true <;> simp [T7.sub, numb1, hx, hy, pairB, hn]
    · have : ¬ (xs.length : Int) = 2 := by omega
      simp [T7.sub, pairB_len hl, this]
  | _ => first | (simp [p1, p0] at h; done) | simp [T7.sub, pairB]
theorem point1 {d : DV} (h : p1 d = true) : f_is_point [d] μ = .ok (.bl (pairB 200 d)) μ := by
  unfold f_is_point
  rw [runF1]
  unfold b_is_point
  simp [pair1 h]
/-- all([… for x in two]) -/
theorem rng2 {x y : DV} {m : Int} (hx : p0 x = true) (hy : p0 y = true) : compD (gN 1) tYes' (eAnd (eCall f__law_is_whole (aCons (eVar 1) aNil)) (eAnd (eBin vLe (eUn vNeg (eC (.int m))) (eVar 1)) (eBin vLe (eVar 1) (eC (.int m))))) [some (.tup [x, y]), none] [x, y] μ = .ok [.bl (numB (-m) m x), .bl (numB (-m) m y)] μ := by
  have := compD_map (μ := μ) (ρ := [some (.tup [x, y]), none]) (t := gN 1) (te := eAnd (eCall f__law_is_whole (aCons (eVar 1) aNil)) (eAnd (eBin vLe (eUn vNeg (eC (.int m))) (eVar 1)) (eBin vLe (eVar 1) (eC (.int m))))) (fun z => .bl (numB (-m) m z)) [x, y] (fun z hz => ⟨[some (.tup [x, y]), some z], rfl, by
    have hz0 : p0 z = true := by simp at hz; rcases hz with rfl | rfl <;> assumption
    cases z with
    | int i => by_cases h1 : -m ≤ i <;> simp [whole2 hz0, wholeB, numB, h1]
    | _ => simp [whole2 hz0, wholeB, numB]⟩)
  simpa using this
theorem spot2 {d : DV} (h : p1 d = true) : f__law_is_spot [d] μ = .ok (.bl (pairB 200 d)) μ := by
  unfold f__law_is_spot
  rw [runF1]
  unfold b__law_is_spot
  cases d with
  | tup xs =>
    by_cases hl : xs.length = 2
    · obtain ⟨x, y, rfl, hx, hy⟩ := all_two (p := p0) h hl
      simp [T7.sub, wk_two, lc_two, wipe1, rng2 (m := 200) hx hy, all2, pairB]
    · have : ¬ (xs.length : Int) = 2 := by omega
      simp [T7.sub, pairB_len hl, this]
  | _ => first | (simp [p1, p0] at h; done) | simp [T7.sub, pairB]
theorem lc_l {xs : List DV} (h : xs.length ≤ 1000000) {t : DG} {tt : DT} {te : DE} : R.lc1 (.ok (.fix xs) μ) t tt te ρ = compD t tt te ρ xs μ := lc1_fix (by omega)
theorem vAdd_l {xs ys : List DV} (h : xs.length + ys.length ≤ 16777216) : vAdd (.lst xs) (.lst ys) μ = some (.lst (xs ++ ys)) := by
  show (if okLen (xs.length + ys.length) = true then some (DV.lst (xs ++ ys)) else none) = _
  rw [if_pos (okLen_small h)]
theorem eL_len {P : List Pt} : (eL P).length = P.length := by unfold eL; rw [List.length_map, List.length_range]
theorem whole_i {i : Int} : f__law_is_whole [.int i] μ = .ok (.bl true) μ := by
  unfold f__law_is_whole
  rw [runF1]
  unfold b__law_is_whole
  simp [T7.sub]
def in2 (i : Int) : Bool := decide (-200 ≤ i) && decide (i ≤ 200)
def sp (p : Pt) : Bool := in2 p.1 && in2 p.2
theorem spot_l {p : Pt} : f__law_is_spot [ptD p] μ = .ok (.bl (sp p)) μ := by
  unfold f__law_is_spot
  rw [runF1]
  unfold b__law_is_spot
  have hc : compD (gN 1) tYes' (eAnd (eCall f__law_is_whole (aCons (eVar 1) aNil)) (eAnd (eBin vLe (eUn vNeg (eC (.int 200))) (eVar 1)) (eBin vLe (eVar 1) (eC (.int 200))))) [some (ptD p), none] [.int p.1, .int p.2] μ = .ok [.bl (in2 p.1), .bl (in2 p.2)] μ :=
    compD_mapL DV.int (fun i => .bl (in2 i)) [p.1, p.2] fun i hi => ⟨_, rfl, by by_cases h : -200 ≤ i <;> simp [whole_i, in2, h]⟩
  have hw : wkOf (ptD p) μ = some (.fix [.int p.1, .int p.2]) := rfl
  have hl : vLen [ptD p] μ = some (.int 2) := rfl
  have hty : tyOf μ (ptD p) = some .tup := rfl
  have wp : wipeE [some (ptD p), none] [1] = [some (ptD p), none] := rfl
  simp [hty, T7.sub, hl, hw, lc_two, wp, hc, all2, sp]
theorem compD_filterL {t : DG} {tt : DT} {te : DE} (h g : α → DV) (p : α → Bool) : ∀ (l : List α), (∀ x ∈ l, ∃ ρ1, t (h x) ρ μ = some ρ1 ∧ tt ρ1 μ = .ok (p x) μ ∧ (p x = true → te ρ1 μ = .ok (g x) μ)) → compD t tt te ρ (l.map h) μ = .ok ((l.filter p).map g) μ
  | [], _ => rfl
  | d :: ds, hh => by
    obtain ⟨ρ1, e1, e2, e3⟩ := hh d (by simp)
    have ih := compD_filterL (t := t) (tt := tt) (te := te) h g p ds fun d hd => hh d (List.mem_cons_of_mem _ hd)
    rw [List.map_cons]
    unfold compD
    rw [e1]
    simp only
    rw [e2]
    cases hp : p d with
    | false =>
      rw [List.filter_cons_of_neg (by simp [hp])]
      exact ih
    | true =>
      rw [List.filter_cons_of_pos hp]
      show (te ρ1 μ).nox.bind _ = _
      rw [e3 hp]
      show (compD t tt te ρ (ds.map h) μ).bind _ = _
      rw [ih]
      rfl
theorem notIn2 {i j k : Int} : vNotIn (.int i) (.lst [.int j, .int k]) μ = some (.bl (!(decide (j = i) || decide (k = i)))) := by
  have e : inL (.int i) [.int j, .int k] = some (PyData.eqv (.int j) (.int i) || (PyData.eqv (.int k) (.int i) || false)) := rfl
  show (inL (.int i) [.int j, .int k]).map (fun b => DV.bl (!b)) = _
  rw [e]
  simp [PyData.eqv]
  rfl
/-- the law's own test, corner by corner -/
def okAt (P : List Pt) (k : Nat) : Bool := ((List.range P.length).filter fun (j : Nat) => !(decide ((k : Int) = (j : Int)) || decide (((nx P.length k : Nat) : Int) = (j : Int)))).all fun j => decide (0 < turn (cor P k) (cor P (nx P.length k)) (cor P j))
theorem okAt_iff {P : List Pt} {k : Nat} : okAt P k = true ↔ ∀ j, j < P.length → j ≠ k → j ≠ nx P.length k → 0 < turn (cor P k) (cor P (nx P.length k)) (cor P j) := by
  unfold okAt
  simp only [List.all_eq_true, List.mem_filter, List.mem_range, decide_eq_true_eq, Bool.not_eq_true', Bool.or_eq_false_iff, decide_eq_false_iff_not]
  constructor
  · intro h j hj h1 h2
    exact h j ⟨hj, by omega, by omega⟩
  · rintro h j ⟨hj, h1, h2⟩
    exact h j hj (by omega) (by omega)
theorem rot_v {μ : Sto} {P : List Pt} {k : Nat} (hk : k < P.length) (hl : P.length ≤ 1000) : vSlc (polyD P) (some (k : Int)) none μ = some (polyD (P.drop k)) ∧ vSlc (polyD P) none (some (k : Int)) μ = some (polyD (P.take k)) ∧ vAdd (polyD (P.drop k)) (polyD (P.take k)) μ = some (polyD (rot k P)) := by
  refine ⟨?_, ?_, ?_⟩
  · show some (DV.tup (SD.cutD (P.map ptD) (some (k : Int)) none)) = _
    unfold SD.cutD polyD
    rw [HT.sIx_nat, HT.sIx_none, List.length_map, Nat.min_eq_left (by omega), List.take_of_length_le (by rw [List.length_drop, List.length_map]; omega), List.map_drop]
  · show some (DV.tup (SD.cutD (P.map ptD) none (some (k : Int)))) = _
    unfold SD.cutD polyD
    rw [HT.sIx_nat, HT.sIx_none, List.drop_zero, List.length_map, Nat.min_eq_left (by omega), Nat.sub_zero, List.map_take]
  · show (if okLen (((P.drop k).map ptD).length + ((P.take k).map ptD).length) = true then some (DV.tup ((P.drop k).map ptD ++ (P.take k).map ptD)) else none) = _
    rw [if_pos (okLen_small (by rw [List.length_map, List.length_map, List.length_drop, List.length_take]; omega))]
    unfold polyD rot
    rw [List.map_append]
/-! parts of whole numbers -/
def polyB (P : List Pt) : Bool := decide (3 ≤ P.length) && (decide (P.length ≤ 6) && (P.all sp && !(List.range P.length).any fun k => !okAt P k))
theorem sp_bp {p : Pt} (h : sp p = true) : bp p := by
  unfold sp in2 at h
  simp only [Bool.and_eq_true, decide_eq_true_eq] at h
  unfold bp
  omega
theorem sp_Bd {P : List Pt} (h : P.all sp = true) : Bd P := fun p hp => sp_bp (List.all_eq_true.mp h p hp)
theorem polyB_iff {P : List Pt} : polyB P = true ↔ Cv P ∧ P.length ≤ 6 ∧ P.all sp = true := by
  unfold polyB
  simp only [Bool.and_eq_true, decide_eq_true_eq, Bool.not_eq_true', List.any_eq_false, List.mem_range]
  constructor
  · rintro ⟨h3, h6, hs, hk⟩
    exact ⟨⟨h3, fun k hl => okAt_iff.mp (by have := hk k hl; simpa using this)⟩, h6, hs⟩
  · rintro ⟨⟨h3, hk⟩, h6, hs⟩
    exact ⟨h3, h6, hs, fun k hl => by rw [okAt_iff.mpr (hk k hl)]; simp⟩
theorem poly_l {P : List Pt} : f__law_is_poly [polyD P] μ = .ok (.bl (polyB P)) μ := by
  unfold f__law_is_poly
  rw [runF1]
  unfold b__law_is_poly
  have hty : tyOf μ (polyD P) = some .tup := rfl
  by_cases h3 : P.length < 3
  · have h3' : (P.length : Int) < 3 := by omega
    have hB : polyB P = false := by unfold polyB; rw [decide_eq_false (by omega : ¬ 3 ≤ P.length)]; rfl
    rw [hB]
    simp [hty, T7.sub, h3']
  have h3' : ¬ (P.length : Int) < 3 := by omega
  have hB3 : decide (3 ≤ P.length) = true := decide_eq_true (by omega)
  by_cases h6 : 6 < P.length
  · have h6' : (6 : Int) < P.length := by omega
    have hB : polyB P = false := by unfold polyB; rw [hB3, decide_eq_false (by omega : ¬ P.length ≤ 6)]; rfl
    rw [hB]
    simp [hty, T7.sub, h3', h6']
  have h6' : ¬ (6 : Int) < P.length := by omega
  have hB6 : decide (P.length ≤ 6) = true := decide_eq_true (by omega)
  have lcP : ∀ t tt te ρ, R.lc1 (.ok (.fix (P.map ptD)) μ) t tt te ρ = compD t tt te ρ (P.map ptD) μ := fun t tt te ρ => lc_l (by rw [List.length_map]; omega)
  have wp : wipeE [some (polyD P), none, none, none, none] [3] = [some (polyD P), none, none, none, none] := rfl
  have h1 : compD (gN 3) tYes' (eCall f__law_is_spot (aCons (eVar 3) aNil)) [some (polyD P), none, none, none, none] (P.map ptD) μ = .ok (P.map fun p => .bl (sp p)) μ :=
    compD_mapL ptD (fun p => .bl (sp p)) P fun p hp => ⟨_, rfl, by simp [spot_l]⟩
  have hv := vAll_map (μ := μ) P sp
  cases hsp : P.all sp with
  | false =>
    rw [hsp] at hv
    have hB : polyB P = false := by unfold polyB; rw [hB3, hB6, hsp]; rfl
    rw [hB]
    simp [hty, T7.sub, h3', h6', wk_poly, lcP, wp, h1, hv]
  | true =>
    rw [hsp] at hv
    have hP := sp_Bd hsp
    have hB : polyB P = !(List.range P.length).any fun k => !okAt P k := by unfold polyB; rw [hB3, hB6, hsp]; rfl
    rw [hB]
    obtain ⟨q1, q2⟩ := loopD_any (μ := μ) (t := gN 1) (f := sSeq (sAsg (eLst (aCons (eVar 1) (aCons (eBin vMod (eFn vInt (aCons (eBin vAdd (eVar 1) (eC (.int 1))) aNil)) (eFn vLen (aCons (eVar 0) aNil))) aNil))) (gN 2)) (sIf (tNot' (tB' (eFn vAll (aCons (eLc (iRng1' (aCons (eFn vLen (aCons (eVar 0) aNil)) aNil)) (gN 4) (tB' (eBin vNotIn (eVar 4) (eVar 2))) (eBin vGt (eCall f__law_turn (aCons (eBin vIx (eVar 0) (eBin vIx (eVar 2) (eC (.int 0)))) (aCons (eBin vIx (eVar 0) (eBin vIx (eVar 2) (eC (.int 1)))) (aCons (eBin vIx (eVar 0) (eVar 4)) aNil)))) (eC (.int 0))) [4]) aNil)))) (sRet (eC (.bl false))) sNop))
      (fun k : Nat => !okAt P k) (.bl false) (fun ρ => ∃ x y, ρ = [some (polyD P), x, y, none, none]) (fun (i : Nat) => DV.int (i : Int)) (List.range P.length) [some (polyD P), none, none, none, none] ⟨_, _, rfl⟩ (by
        rintro k hk ρ ⟨x, y, rfl⟩
        have hk' := List.mem_range.mp hk
        have hn := nx_lt hk'
        have hm : vMod (.int ((k : Int) + 1)) (.int (P.length : Int)) μ = some (.int ((nx P.length k : Nat) : Int)) := by
          rw [vMod_i (by omega)]
          have : ((k : Int) + 1) % (P.length : Int) = (((k + 1) % P.length : Nat) : Int) := by simp
          rw [this, nx_mod hk']
        have hc : compD (gN 4) (tB' (eBin vNotIn (eVar 4) (eVar 2))) (eBin vGt (eCall f__law_turn (aCons (eBin vIx (eVar 0) (eBin vIx (eVar 2) (eC (.int 0)))) (aCons (eBin vIx (eVar 0) (eBin vIx (eVar 2) (eC (.int 1)))) (aCons (eBin vIx (eVar 0) (eVar 4)) aNil)))) (eC (.int 0))) [some (polyD P), some (.int (k : Int)), some (.lst [.int (k : Int), .int ((nx P.length k : Nat) : Int)]), none, none] ((List.range P.length).map fun (i : Nat) => DV.int (i : Int)) μ =
            .ok (((List.range P.length).filter fun (j : Nat) => !(decide ((k : Int) = (j : Int)) || decide (((nx P.length k : Nat) : Int) = (j : Int)))).map fun j => .bl (decide (0 < turn (cor P k) (cor P (nx P.length k)) (cor P j)))) μ := by
          refine compD_filterL (fun (i : Nat) => DV.int (i : Int)) (fun j => .bl (decide (0 < turn (cor P k) (cor P (nx P.length k)) (cor P j)))) (fun (j : Nat) => !(decide ((k : Int) = (j : Int)) || decide (((nx P.length k : Nat) : Int) = (j : Int)))) _ fun j hj => ?_
          have hj' := List.mem_range.mp hj
          have ht := turn_l (μ := μ) (hP _ (cor_mem hk')) (hP _ (cor_mem hn)) (hP _ (cor_mem hj'))
          refine ⟨_, rfl, ?_, fun _ => ?_⟩
          · simp only [tB_ap, eBin_ap, eVar_ap, List.set_cons_succ, List.set_cons_zero, List.getElem?_cons_succ, List.getElem?_cons_zero, bin1_ok, bin2_ok, notIn2, of_some, tb_ok]
          · simp [ix_cor hk', ix_cor hn, ix_cor hj', ht]
        have wp4 : ∀ z w : Option DV, wipeE [some (polyD P), z, w, none, none] [4] = [some (polyD P), z, w, none, none] := fun _ _ => rfl
        have hv2 : vAll [.lst (((List.range P.length).filter fun (j : Nat) => !(decide ((k : Int) = (j : Int)) || decide (((nx P.length k : Nat) : Int) = (j : Int)))).map fun j => DV.bl (decide (0 < turn (cor P k) (cor P (nx P.length k)) (cor P j))))] μ = some (.bl (okAt P k)) := vAll_map _ _
        have hrun : sSeq (sAsg (eLst (aCons (eVar 1) (aCons (eBin vMod (eFn vInt (aCons (eBin vAdd (eVar 1) (eC (.int 1))) aNil)) (eFn vLen (aCons (eVar 0) aNil))) aNil))) (gN 2)) (sIf (tNot' (tB' (eFn vAll (aCons (eLc (iRng1' (aCons (eFn vLen (aCons (eVar 0) aNil)) aNil)) (gN 4) (tB' (eBin vNotIn (eVar 4) (eVar 2))) (eBin vGt (eCall f__law_turn (aCons (eBin vIx (eVar 0) (eBin vIx (eVar 2) (eC (.int 0)))) (aCons (eBin vIx (eVar 0) (eBin vIx (eVar 2) (eC (.int 1)))) (aCons (eBin vIx (eVar 0) (eVar 4)) aNil)))) (eC (.int 0))) [4]) aNil)))) (sRet (eC (.bl false))) sNop) [some (polyD P), some (.int (k : Int)), y, none, none] μ = R.sif (.ok (!okAt P k) μ) (sRet (eC (.bl false))) sNop [some (polyD P), some (.int (k : Int)), some (.lst [.int (k : Int), .int ((nx P.length k : Nat) : Int)]), none, none] := by
          simp only [sSeq_ap, sAsg_ap, eLst_ap, aCons_ap, eVar_ap, List.getElem?_cons_succ, List.getElem?_cons_zero, ac1_ok, eBin_ap, eFn_ap, eC_ap, bin1_ok, bin2_ok, vAdd_i, of_some, aNil_ap, ac2_ok, mk_ok, vInt_i, len_poly, hm, mkL2, asg_ok, gN_ap, List.set_cons_succ, List.set_cons_zero, seq_nx, sIf_ap, tNot_ap, tB_ap, eLc_ap, iRng1_ap, rg1_ok, rng_n (show P.length ≤ 1000 by omega), wp4, lc_rng (show P.length ≤ 1000 by omega), hc, hv2, tb_ok, tnot_ok]
        refine ⟨_, rfl, fun h => ?_, fun h => ?_⟩
        · show sSeq _ _ [some (polyD P), some (.int (k : Int)), y, none, none] μ = _
          rw [hrun, h]; rfl
        · refine ⟨_, ?_, some (.int (k : Int)), some (.lst [.int (k : Int), .int ((nx P.length k : Nat) : Int)]), rfl⟩
          show sSeq _ _ [some (polyD P), some (.int (k : Int)), y, none, none] μ = _
          rw [hrun, h]; rfl)
    have hrn := rng_n (n := P.length) (by omega)
    cases hall : (List.range P.length).any fun k => !okAt P k with
    | true =>
      have q := q1 hall
      generalize hF : sSeq (sAsg (eLst (aCons (eVar 1) (aCons (eBin vMod (eFn vInt (aCons (eBin vAdd (eVar 1) (eC (.int 1))) aNil)) (eFn vLen (aCons (eVar 0) aNil))) aNil))) (gN 2)) (sIf (tNot' (tB' (eFn vAll (aCons (eLc (iRng1' (aCons (eFn vLen (aCons (eVar 0) aNil)) aNil)) (gN 4) (tB' (eBin vNotIn (eVar 4) (eVar 2))) (eBin vGt (eCall f__law_turn (aCons (eBin vIx (eVar 0) (eBin vIx (eVar 2) (eC (.int 0)))) (aCons (eBin vIx (eVar 0) (eBin vIx (eVar 2) (eC (.int 1)))) (aCons (eBin vIx (eVar 0) (eVar 4)) aNil)))) (eC (.int 0))) [4]) aNil)))) (sRet (eC (.bl false))) sNop) = F at q ⊢
      simp [hty, T7.sub, h3', h6', wk_poly, lcP, wp, h1, hv, hrn, q]
    | false =>
      obtain ⟨ρ', q, x, y, rfl⟩ := q2 hall
      generalize hF : sSeq (sAsg (eLst (aCons (eVar 1) (aCons (eBin vMod (eFn vInt (aCons (eBin vAdd (eVar 1) (eC (.int 1))) aNil)) (eFn vLen (aCons (eVar 0) aNil))) aNil))) (gN 2)) (sIf (tNot' (tB' (eFn vAll (aCons (eLc (iRng1' (aCons (eFn vLen (aCons (eVar 0) aNil)) aNil)) (gN 4) (tB' (eBin vNotIn (eVar 4) (eVar 2))) (eBin vGt (eCall f__law_turn (aCons (eBin vIx (eVar 0) (eBin vIx (eVar 2) (eC (.int 0)))) (aCons (eBin vIx (eVar 0) (eBin vIx (eVar 2) (eC (.int 1)))) (aCons (eBin vIx (eVar 0) (eVar 4)) aNil)))) (eC (.int 0))) [4]) aNil)))) (sRet (eC (.bl false))) sNop) = F at q ⊢
      simp [hty, T7.sub, h3', h6', wk_poly, lcP, wp, h1, hv, hrn, q]
/-! the package's own test -/
def partAt (P : List Pt) (k : Nat) : Bool := ((rot k P).drop 2).all fun c => decide (0 < turn (cor (rot k P) 0) (cor (rot k P) 1) c)
theorem partAt_eq {P : List Pt} {k : Nat} (h3 : 3 ≤ P.length) (hk : k < P.length) : partAt P k = okAt P k := by
  rw [Bool.eq_iff_iff, okAt_iff]
  have := rest_iff h3 hk
  unfold okP at this
  rw [← this]
  unfold partAt
  simp only [List.all_eq_true, decide_eq_true_eq]
theorem rst_poly {Q : List Pt} (h : 2 ≤ Q.length) : gRst' (gCons' (gN 2) (gCons' (gN 3) (gCons' (gN 4) gNil'))) 2 (polyD Q) ρ μ = some (((ρ.set 2 (some (ptD (cor Q 0)))).set 3 (some (ptD (cor Q 1)))).set 4 (some (.lst ((Q.drop 2).map ptD)))) := by
  match Q, h with
  | a :: b :: Q, _ =>
    show (if 2 ≤ ((a :: b :: Q).map ptD).length then _ else none) = _
    rw [if_pos (by simp)]
    rfl
theorem part_p {P : List Pt} : f_is_part [polyD P] μ = .ok (.bl (polyB P)) μ := by
  unfold f_is_part
  rw [runF1]
  unfold b_is_part
  have hty : tyOf μ (polyD P) = some .tup := rfl
  by_cases h3 : P.length < 3
  · have h3' : ¬ (3 : Int) ≤ P.length := by omega
    have hB : polyB P = false := by unfold polyB; rw [decide_eq_false (by omega : ¬ 3 ≤ P.length)]; rfl
    rw [hB]
    simp [hty, T7.sub, h3']
  have h3' : (3 : Int) ≤ P.length := by omega
  have hB3 : decide (3 ≤ P.length) = true := decide_eq_true (by omega)
  by_cases h6 : 6 < P.length
  · have h6' : ¬ (P.length : Int) ≤ 6 := by omega
    have hB : polyB P = false := by unfold polyB; rw [hB3, decide_eq_false (by omega : ¬ P.length ≤ 6)]; rfl
    rw [hB]
    simp [hty, T7.sub, h3', h6']
  have h6' : (P.length : Int) ≤ 6 := by omega
  have hB6 : decide (P.length ≤ 6) = true := decide_eq_true (by omega)
  have lcP : ∀ t tt te ρ, R.lc1 (.ok (.fix (P.map ptD)) μ) t tt te ρ = compD t tt te ρ (P.map ptD) μ := fun t tt te ρ => lc_l (by rw [List.length_map]; omega)
  have wp : wipeE [some (polyD P), none, none, none, none, none] [5] = [some (polyD P), none, none, none, none, none] := rfl
  have h1 : compD (gN 5) tYes' (eCall f_is_point (aCons (eVar 5) aNil)) [some (polyD P), none, none, none, none, none] (P.map ptD) μ = .ok (P.map fun p => .bl (sp p)) μ :=
    compD_mapL ptD (fun p => .bl (sp p)) P fun p hp => ⟨_, rfl, by
      have : f_is_point [ptD p] μ = .ok (.bl (sp p)) μ := point1 (d := ptD p) rfl
      simp [this]⟩
  have hv := vAll_map (μ := μ) P sp
  cases hsp : P.all sp with
  | false =>
    rw [hsp] at hv
    have hB : polyB P = false := by unfold polyB; rw [hB3, hB6, hsp]; rfl
    rw [hB]
    simp [hty, T7.sub, h3', h6', wk_poly, lcP, wp, h1, hv]
  | true =>
    rw [hsp] at hv
    have hP := sp_Bd hsp
    have hB : polyB P = !(List.range P.length).any fun k => !partAt P k := by
      unfold polyB; rw [hB3, hB6, hsp]
      show (!(List.range P.length).any fun k => !okAt P k) = _
      congr 1
      rw [Bool.eq_iff_iff, List.any_eq_true, List.any_eq_true]
      constructor
      · rintro ⟨k, hk, h⟩
        exact ⟨k, hk, by rw [partAt_eq (by omega) (List.mem_range.mp hk)]; exact h⟩
      · rintro ⟨k, hk, h⟩
        exact ⟨k, hk, by rw [← partAt_eq (by omega) (List.mem_range.mp hk)]; exact h⟩
    rw [hB]
    obtain ⟨F, hF⟩ : ∃ F : DS, F = sSeq (sAsg (eBin vAdd (eSl vSlc (eVar 0) (oSome (eVar 1)) oNone) (eSl vSlc (eVar 0) oNone (oSome (eVar 1)))) (gRst' (gCons' (gN 2) (gCons' (gN 3) (gCons' (gN 4) gNil'))) 2)) (sIf (tNot' (tB' (eFn vAll (aCons (eLc (iSeq (eVar 4)) (gN 5) tYes' (eBin vGt (eCall f_left_of (aCons (eVar 2) (aCons (eVar 3) (aCons (eVar 5) aNil)))) (eC (.int 0))) [5]) aNil)))) (sRet (eC (.bl false))) sNop) := ⟨_, rfl⟩
    rw [← hF]
    obtain ⟨q1, q2⟩ := loopD_any (μ := μ) (t := gN 1) (f := F) (fun k : Nat => !partAt P k) (.bl false) (fun ρ => ∃ x y z w, ρ = [some (polyD P), x, y, z, w, none]) (fun (i : Nat) => DV.int (i : Int)) (List.range P.length) [some (polyD P), none, none, none, none, none] ⟨_, _, _, _, rfl⟩ (by
      rintro k hk ρ ⟨x, y, z, w, rfl⟩
      have hk' := List.mem_range.mp hk
      obtain ⟨v1, v2, v3⟩ := rot_v (μ := μ) hk' (by omega)
      have hQ : Bd (rot k P) := fun p hp => hP p (rot_mem.mp hp)
      have hQl : (rot k P).length = P.length := rot_len
      have hst := fun ρ => rst_poly (μ := μ) (ρ := ρ) (Q := rot k P) (by omega)
      have hq0 : bp (cor (rot k P) 0) := hQ _ (cor_mem (by omega))
      have hq1 : bp (cor (rot k P) 1) := hQ _ (cor_mem (by omega))
      have hpt : partAt P k = ((rot k P).drop 2).all fun c => decide (0 < turn (cor (rot k P) 0) (cor (rot k P) 1) c) := rfl
      rw [hpt]
      have hdm : ∀ c ∈ (rot k P).drop 2, bp c := fun c hc => hQ c (List.mem_of_mem_drop hc)
      have hdl : ((rot k P).drop 2).length ≤ 1000 := by rw [List.length_drop]; omega
      generalize rot k P = Q at *
      generalize Q.drop 2 = O at *
      generalize cor Q 0 = c0 at *
      generalize cor Q 1 = c1 at *
      have lcO : ∀ t tt te ρ, R.lc1 (.ok (.fix (O.map ptD)) μ) t tt te ρ = compD t tt te ρ (O.map ptD) μ := fun t tt te ρ => lc_l (by rw [List.length_map]; omega)
      have hc : compD (gN 5) tYes' (eBin vGt (eCall f_left_of (aCons (eVar 2) (aCons (eVar 3) (aCons (eVar 5) aNil)))) (eC (.int 0))) [some (polyD P), some (.int (k : Int)), some (ptD c0), some (ptD c1), some (.lst (O.map ptD)), none] (O.map ptD) μ = .ok (O.map fun c => .bl (decide (0 < turn c0 c1 c))) μ :=
        compD_mapL ptD (fun c => .bl (decide (0 < turn c0 c1 c))) O fun c hc => ⟨_, rfl, by simp [turn_p hq0 hq1 (hdm c hc)]⟩
      have hv2 := vAll_map (μ := μ) O fun c => decide (0 < turn c0 c1 c)
      have wp5 : wipeE [some (polyD P), some (.int (k : Int)), some (ptD c0), some (ptD c1), some (.lst (O.map ptD)), none] [5] = [some (polyD P), some (.int (k : Int)), some (ptD c0), some (ptD c1), some (.lst (O.map ptD)), none] := rfl
      refine ⟨_, rfl, fun h => ?_, fun h => ?_⟩
      · have h' : (O.all fun c => decide (0 < turn c0 c1 c)) = false := by simpa using h
        rw [h'] at hv2
        rw [hF]
        simp [v1, v2, v3, hst, wk_lst, lcO, wp5, hc, hv2]
      · have h' : (O.all fun c => decide (0 < turn c0 c1 c)) = true := by simpa using h
        rw [h'] at hv2
        refine ⟨[some (polyD P), some (.int (k : Int)), some (ptD c0), some (ptD c1), some (.lst (O.map ptD)), none], ?_, _, _, _, _, rfl⟩
        rw [hF]
        simp [v1, v2, v3, hst, wk_lst, lcO, wp5, hc, hv2])
    have hrn := rng_n (n := P.length) (by omega)
    cases hall : (List.range P.length).any fun k => !partAt P k with
    | true =>
      have q := q1 hall
      simp [hty, T7.sub, h3', h6', wk_poly, lcP, wp, h1, hv, hrn, q]
    | false =>
      obtain ⟨ρ', q, x, y, z, w, rfl⟩ := q2 hall
      simp [hty, T7.sub, h3', h6', wk_poly, lcP, wp, h1, hv, hrn, q]
theorem pts_of : ∀ {xs : List DV}, xs.all (pairB 200) = true → ∃ P : List Pt, xs = P.map ptD
  | [], _ => ⟨[], rfl⟩
  | x :: xs, h => by
    simp only [List.all_cons, Bool.and_eq_true] at h
    obtain ⟨P, rfl⟩ := pts_of h.2
    have h1 := h.1
    unfold pairB at h1
    split at h1
    · rename_i a b
      cases a <;> cases b <;> first | (simp [numB] at h1; done) | exact ⟨(_, _) :: P, rfl⟩
    · cases h1
/-- any value -/
theorem poly_x {d : DV} (h : p2 d = true) : ∃ r, f__law_is_poly [d] μ = .ok (.bl r) μ ∧ f_is_part [d] μ = .ok (.bl r) μ ∧ (r = true → ∃ P, d = polyD P ∧ polyB P = true) := by
  cases d with
  | tup xs =>
    have hx : xs.all p1 = true := h
    cases hsp : xs.all (pairB 200) with
    | true =>
      obtain ⟨P, rfl⟩ := pts_of hsp
      exact ⟨polyB P, poly_l, part_p, fun e => ⟨P, rfl, e⟩⟩
    | false =>
      refine ⟨false, ?_, ?_, fun e => by cases e⟩
      · unfold f__law_is_poly
        rw [runF1]
        unfold b__law_is_poly
        by_cases h3 : (xs.length : Int) < 3
        · simp [T7.sub, h3]
        by_cases h6 : (6 : Int) < xs.length
        · simp [T7.sub, h3, h6]
        have lcP : ∀ t tt te ρ, R.lc1 (.ok (.fix xs) μ) t tt te ρ = compD t tt te ρ xs μ := fun t tt te ρ => lc_l (by omega)
        have wp : wipeE [some (.tup xs), none, none, none, none] [3] = [some (.tup xs), none, none, none, none] := rfl
        have h1 : compD (gN 3) tYes' (eCall f__law_is_spot (aCons (eVar 3) aNil)) [some (.tup xs), none, none, none, none] xs μ = .ok (xs.map fun p => .bl (pairB 200 p)) μ :=
          compD_map (fun p => .bl (pairB 200 p)) xs fun p hp => ⟨_, rfl, by simp [spot2 (List.all_eq_true.mp hx p hp)]⟩
        have hv := vAll_map (μ := μ) xs (pairB 200)
        rw [hsp] at hv
        simp [T7.sub, h3, h6, wk_tup, lcP, wp, h1, hv]
      · unfold f_is_part
        rw [runF1]
        unfold b_is_part
        by_cases h3 : (3 : Int) ≤ xs.length
        · by_cases h6 : (xs.length : Int) ≤ 6
          · have lcP : ∀ t tt te ρ, R.lc1 (.ok (.fix xs) μ) t tt te ρ = compD t tt te ρ xs μ := fun t tt te ρ => lc_l (by omega)
            have wp : wipeE [some (.tup xs), none, none, none, none, none] [5] = [some (.tup xs), none, none, none, none, none] := rfl
            have h1 : compD (gN 5) tYes' (eCall f_is_point (aCons (eVar 5) aNil)) [some (.tup xs), none, none, none, none, none] xs μ = .ok (xs.map fun p => .bl (pairB 200 p)) μ :=
              compD_map (fun p => .bl (pairB 200 p)) xs fun p hp => ⟨_, rfl, by simp [point1 (List.all_eq_true.mp hx p hp)]⟩
            have hv := vAll_map (μ := μ) xs (pairB 200)
            rw [hsp] at hv
            simp [T7.sub, h3, h6, wk_tup, lcP, wp, h1, hv]
          · simp [T7.sub, h3, h6]
        · simp [T7.sub, h3]
  | _ =>
    first
    | (simp [p2, p0] at h; done)
    | (refine ⟨false, ?_, ?_, fun e => by cases e⟩
       · unfold f__law_is_poly
         rw [runF1]
         unfold b__law_is_poly
         simp [T7.sub]
       · unfold f_is_part
         rw [runF1]
         unfold b_is_part
         simp [T7.sub])
end
end Lw

set_option Elab.async false
set_option linter.all false
set_option maxRecDepth 100000
set_option maxHeartbeats 4000000
/-! k03: drawn shapes. -/
namespace Lw
open PySem PySem.Spec PyProof.Rows L2 SD
section
variable {μ : Sto} {ρ : En} {α : Type}
theorem asIs_map (g : α → Int) : ∀ l : List α, asIs (l.map fun x => .int (g x)) = some (l.map g)
  | [] => rfl
  | x :: l => by simp [asIs, asIs_map g l]
/-- the law's own test, corner by corner -/
theorem sent_l {P : List Pt} {u v : Int} (hl : P.length ≤ 1000) : f__law_sent [polyD P, .int u, .int v] μ = .ok (polyD (P.map (sent u v))) μ := by
  unfold f__law_sent
  rw [runF3]
  unfold b__law_sent
  have lcP : ∀ t tt te ρ, R.lc1 (.ok (.fix (P.map ptD)) μ) t tt te ρ = compD t tt te ρ (P.map ptD) μ := fun t tt te ρ => lc_l (by rw [List.length_map]; omega)
  have wp : wipeE [some (polyD P), some (.int u), some (.int v), none] [3] = [some (polyD P), some (.int u), some (.int v), none] := rfl
  have h1 : compD (gN 3) tYes' (eTup (aCons (eBin vAdd (eBin vIx (eVar 3) (eC (.int 0))) (eVar 1)) (aCons (eBin vAdd (eBin vIx (eVar 3) (eC (.int 1))) (eVar 2)) aNil))) [some (polyD P), some (.int u), some (.int v), none] (P.map ptD) μ = .ok (P.map fun p => ptD (sent u v p)) μ :=
    compD_mapL ptD (fun p => ptD (sent u v p)) P fun p hp => ⟨_, rfl, by simp; rfl⟩
  have ht : ∀ xs, vTuple [.lst xs] μ = some (.tup xs) := fun _ => rfl
  have e : polyD (P.map (sent u v)) = .tup (P.map fun p => ptD (sent u v p)) := by unfold polyD; rw [List.map_map]; rfl
  rw [e]
  simp [wk_poly, lcP, wp, h1, ht]
theorem flip_l {P : List Pt} (hl : P.length ≤ 1000) : f__law_flipped [polyD P] μ = .ok (polyD (flip' P)) μ := by
  unfold f__law_flipped
  rw [runF1]
  unfold b__law_flipped
  have lcP : ∀ t tt te ρ, R.lc1 (.ok (.fix (P.map ptD)) μ) t tt te ρ = compD t tt te ρ (P.map ptD) μ := fun t tt te ρ => lc_l (by rw [List.length_map]; omega)
  have wp : wipeE [some (polyD P), none] [1] = [some (polyD P), none] := rfl
  have h1 : compD (gN 1) tYes' (eTup (aCons (eBin vSub (eC (.int 0)) (eBin vIx (eVar 1) (eC (.int 0)))) (aCons (eBin vIx (eVar 1) (eC (.int 1))) aNil))) [some (polyD P), none] (P.map ptD) μ = .ok (P.map fun p => ptD (mirr p)) μ :=
    compD_mapL ptD (fun p => ptD (mirr p)) P fun p hp => ⟨_, rfl, by
      simp only [eTup_ap, aCons_ap, eBin_ap, eC_ap, eVar_ap, gN_ap, List.set_cons_succ, List.set_cons_zero, List.getElem?_cons_succ, List.getElem?_cons_zero, bin1_ok, bin2_ok, pt0, pt1, of_some, vSub_i, ac1_ok, aNil_ap, ac2_ok, mk_ok, mkT2]
      rfl⟩
  have ht : ∀ xs, vTuple [.lst xs] μ = some (.tup xs) := fun _ => rfl
  have hr : ∀ xs, revD μ (.tup xs) = some (.tup xs.reverse) := fun _ => rfl
  have e : polyD (flip' P) = .tup (P.map fun p => ptD (mirr p)).reverse := by unfold polyD flip'; rw [List.map_reverse, List.map_map]; rfl
  rw [e]
  simp [wk_poly, lcP, wp, h1, ht, eRev, hr]
def quarts : Nat → List Pt → List Pt
  | 0, P => P
  | n + 1, P => quarts n (P.map quart)
theorem quarter_l {P : List Pt} {n : Nat} (hl : P.length ≤ 1000) (hn : n < 4) : f__law_quarter [polyD P, .int (n : Int)] μ = .ok (polyD (quarts n P)) μ := by
  unfold f__law_quarter
  rw [runF2]
  unfold b__law_quarter
  have hstep : ∀ (Q : List Pt), Q.length ≤ 1000 → ∀ x : Option DV, sAsg (eFn vTuple (aCons (eLc (iSeq (eVar 2)) (gN 4) tYes' (eTup (aCons (eBin vSub (eC (.int 0)) (eBin vIx (eVar 4) (eC (.int 1)))) (aCons (eBin vIx (eVar 4) (eC (.int 0))) aNil))) [4]) aNil)) (gN 2) [some (polyD P), some (.int (n : Int)), some (polyD Q), x, none] μ = .nx [some (polyD P), some (.int (n : Int)), some (polyD (Q.map quart)), x, none] μ := by
    intro Q hQ x
    have lcP : ∀ t tt te ρ, R.lc1 (.ok (.fix (Q.map ptD)) μ) t tt te ρ = compD t tt te ρ (Q.map ptD) μ := fun t tt te ρ => lc_l (by rw [List.length_map]; omega)
    have wp : wipeE [some (polyD P), some (.int (n : Int)), some (polyD Q), x, none] [4] = [some (polyD P), some (.int (n : Int)), some (polyD Q), x, none] := rfl
    have h1 : compD (gN 4) tYes' (eTup (aCons (eBin vSub (eC (.int 0)) (eBin vIx (eVar 4) (eC (.int 1)))) (aCons (eBin vIx (eVar 4) (eC (.int 0))) aNil))) [some (polyD P), some (.int (n : Int)), some (polyD Q), x, none] (Q.map ptD) μ = .ok (Q.map fun p => ptD (quart p)) μ :=
      compD_mapL ptD (fun p => ptD (quart p)) Q fun p hp => ⟨_, rfl, by
        simp only [eTup_ap, aCons_ap, eBin_ap, eC_ap, eVar_ap, gN_ap, List.set_cons_succ, List.set_cons_zero, List.getElem?_cons_succ, List.getElem?_cons_zero, bin1_ok, bin2_ok, pt0, pt1, of_some, vSub_i, ac1_ok, aNil_ap, ac2_ok, mk_ok, mkT2]
        rfl⟩
    have ht : ∀ xs, vTuple [.lst xs] μ = some (.tup xs) := fun _ => rfl
    have e : polyD (Q.map quart) = .tup (Q.map fun p => ptD (quart p)) := by unfold polyD; rw [List.map_map]; rfl
    rw [e]
    simp [wk_poly, lcP, wp, h1, ht]
  generalize hF : sAsg (eFn vTuple (aCons (eLc (iSeq (eVar 2)) (gN 4) tYes' (eTup (aCons (eBin vSub (eC (.int 0)) (eBin vIx (eVar 4) (eC (.int 1)))) (aCons (eBin vIx (eVar 4) (eC (.int 0))) aNil))) [4]) aNil)) (gN 2) = F at hstep ⊢
  have hm : vMod (.int (n : Int)) (.int 4) μ = some (.int (n : Int)) := by
    rw [vMod_i (by decide), Int.emod_eq_of_lt (by omega) (by omega)]
  have lp : ∀ (l : List Nat) (Q : List Pt) (x : Option DV), Q.length ≤ 1000 → ∃ x', loopD (gN 3) F (l.map fun (i : Nat) => DV.int (i : Int)) [some (polyD P), some (.int (n : Int)), some (polyD Q), x, none] μ = .nx [some (polyD P), some (.int (n : Int)), some (polyD (quarts l.length Q)), x', none] μ := by
    intro l
    induction l with
    | nil => exact fun Q x _ => ⟨x, rfl⟩
    | cons i l ih =>
      intro Q x hQ
      obtain ⟨x', e⟩ := ih (Q.map quart) (some (.int (i : Int))) (by simpa using hQ)
      refine ⟨x', ?_⟩
      rw [List.map_cons]
      unfold loopD
      show (match F [some (polyD P), some (.int (n : Int)), some (polyD Q), some (.int (i : Int)), none] μ with
        | .nx ρ' μ' => loopD (gN 3) F (l.map fun (i : Nat) => DV.int (i : Int)) ρ' μ'
        | .ct ρ' μ' => loopD (gN 3) F (l.map fun (i : Nat) => DV.int (i : Int)) ρ' μ'
        | .bk ρ' μ' => .nx ρ' μ'
        | r => r) = _
      rw [hstep Q hQ]
      exact e
  obtain ⟨x', e⟩ := lp (List.range n) P none hl
  rw [List.length_range] at e
  simp [hm, rng_n (show n ≤ 1000 by omega), e]
theorem quarts_len : ∀ {n : Nat} {P : List Pt}, (quarts n P).length = P.length
  | 0, _ => rfl
  | n + 1, P => by unfold quarts; rw [quarts_len, List.length_map]
end
theorem ins_ok {b : Bx} {xs : List DV} {k : Int} {y : DV} (hl : xs.length ≤ 1000) (h0 : 0 ≤ k) (h1 : k ≤ 1001) : mInsert (.cell 1) [.int k, y] [enc b, .lst xs] = some (.non, [enc b, .lst (xs.take k.toNat ++ [y] ++ xs.drop k.toNat)]) := by
  show (if (okLen (xs.length + 1) && (decide (0 ≤ k) && decide (k < 2 ^ 63))) = true then some (DV.non, [enc b, CO.lst (xs.take k.toNat ++ [y] ++ xs.drop k.toNat)]) else none) = _
  rw [if_pos]
  rw [okLen_small (by omega)]
  simp
  omega
/-- a good part of a shape: some corners, near the middle, neighbours apart -/
theorem mixed_g {α : Type} (h : α → DV) (hlow : ∀ x n, (h x).low n = true) (b : Bx) (ns : List α) (D : DV) (hD : ∀ μ, wkOf D μ = some (.fix (ns.map h))) (hn : ns.length ≤ 100) : ∃ (ys : List α) (b' : Bx), f__law_mixed [.cell 0, D] [enc b] = .ok (.lst (ys.map h)) [enc b'] ∧ ys.Perm ns := by
  unfold f__law_mixed
  rw [runF2]
  unfold b__law_mixed
  have lp : ∀ (ms acc : List α) (b : Bx) (x : Option DV), acc.length + ms.length ≤ 1000 → ∃ (ys : List α) (b' : Bx) (x' : Option DV), loopD (gN 3) (sExpr (eBm "list" mInsert (eVar 2) (aCons (eCall f__law_take (aCons (eVar 0) (aCons (eBin vAdd (eFn vLen (aCons (eVar 2) aNil)) (eC (.int 1))) aNil))) (aCons (eVar 3) aNil)))) (ms.map h) [some (.cell 0), some D, some (.cell 1), x] [enc b, .lst (acc.map h)] = .nx [some (.cell 0), some D, some (.cell 1), x'] [enc b', .lst (ys.map h)] ∧ ys.Perm (acc ++ ms) := by
    intro ms
    induction ms with
    | nil => exact fun acc b x _ => ⟨acc, b, x, rfl, by simp⟩
    | cons m ms ih =>
      intro acc b x hl
      rw [List.length_cons] at hl
      obtain ⟨k, b1, e, k0, k1⟩ := take_ok (μ := [.lst (acc.map h)]) (b := b) ((acc.length : Int) + 1) (by omega) (by omega)
      have hi := ins_ok (b := b1) (xs := acc.map h) (k := k) (y := h m) (by rw [List.length_map]; omega) k0 (by omega)
      have hm : (acc.map h).take k.toNat ++ [h m] ++ (acc.map h).drop k.toNat = (acc.take k.toNat ++ [m] ++ acc.drop k.toNat).map h := by simp
      rw [hm] at hi
      obtain ⟨ys, b', x', e2, hp⟩ := ih (acc.take k.toNat ++ [m] ++ acc.drop k.toNat) b1 (some (h m)) (by
        have : (acc.take k.toNat ++ [m] ++ acc.drop k.toNat).length = acc.length + 1 := by
          rw [List.length_append, List.length_append, List.length_take, List.length_drop]; simp; omega
        omega)
      refine ⟨ys, b', x', ?_, ?_⟩
      · rw [List.map_cons]
        have hrc : recv "list" (.cell 1) [enc b, .lst (acc.map h)] = true := rfl
        have hln : vLen [.cell 1] [enc b, .lst (acc.map h)] = some (.int (acc.length : Int)) := by
          show some (DV.int ((acc.map h).length : Nat)) = _
          rw [List.length_map]
        have hs : sExpr (eBm "list" mInsert (eVar 2) (aCons (eCall f__law_take (aCons (eVar 0) (aCons (eBin vAdd (eFn vLen (aCons (eVar 2) aNil)) (eC (.int 1))) aNil))) (aCons (eVar 3) aNil))) [some (.cell 0), some D, some (.cell 1), some (h m)] [enc b, .lst (acc.map h)] = .nx [some (.cell 0), some D, some (.cell 1), some (h m)] [enc b1, .lst ((acc.take k.toNat ++ [m] ++ acc.drop k.toNat).map h)] := by
          simp only [sExpr_ap, eBm_ap, eVar_ap, List.getElem?_cons_succ, List.getElem?_cons_zero, bm1_ok, hrc, if_true, aCons_ap, eCall_ap, eBin_ap, eFn_ap, aNil_ap, ac1_ok, ac2_ok, mk_ok, hln, of_some, bin1_ok, eC_ap, bin2_ok, vAdd_i, e, bm2_ok, hi, ofS_some, xpr_ok]
        generalize hF : sExpr (eBm "list" mInsert (eVar 2) (aCons (eCall f__law_take (aCons (eVar 0) (aCons (eBin vAdd (eFn vLen (aCons (eVar 2) aNil)) (eC (.int 1))) aNil))) (aCons (eVar 3) aNil))) = F at hs e2 ⊢
        unfold loopD
        show (match F [some (.cell 0), some D, some (.cell 1), some (h m)] [enc b, .lst (acc.map h)] with
          | .nx ρ' μ' => loopD (gN 3) F (ms.map h) ρ' μ'
          | .ct ρ' μ' => loopD (gN 3) F (ms.map h) ρ' μ'
          | .bk ρ' μ' => .nx ρ' μ'
          | r => r) = _
        rw [hs]
        exact e2
      · refine hp.trans ?_
        have h1 : (acc.take k.toNat ++ [m] ++ acc.drop k.toNat).Perm (acc ++ [m]) := by
          rw [List.append_assoc]
          refine (List.Perm.append_left _ List.perm_append_comm).trans ?_
          rw [← List.append_assoc, List.take_append_drop]
        have h2 := h1.append_right ms
        rw [List.append_assoc acc [m] ms] at h2
        exact h2
  obtain ⟨ys, b', x', e, hp⟩ := lp ns [] b none (by simp; omega)
  refine ⟨ys, b', ?_, by simpa using hp⟩
  have hw : wkOf D [enc b, .lst []] = some (.fix (ns.map h)) := hD _
  have hf : fin .fz 1 (.cell 1) [enc b', .lst (ys.map h)] = .ok (.lst (ys.map h)) [enc b'] := by
    unfold fin finF
    have h1 : CO.low 1 (enc b') = true := by
      unfold enc CO.low
      have : ∀ l : List Int, lowL 1 (l.map .int) = true := fun l => by
        induction l with
        | nil => rfl
        | cons a l ih => simp [lowL, DV.low, ih]
      simp [lowL, DV.low, this]
    have h2 : ∀ l : List α, lowL 1 (l.map h) = true := fun l => by
      induction l with
      | nil => rfl
      | cons a l ih => simp [lowL, hlow, ih]
    simp [h1, h2]
  generalize hF : sExpr (eBm "list" mInsert (eVar 2) (aCons (eCall f__law_take (aCons (eVar 0) (aCons (eBin vAdd (eFn vLen (aCons (eVar 2) aNil)) (eC (.int 1))) aNil))) (aCons (eVar 3) aNil))) = F at e ⊢
  simp only [List.map_nil] at e
  simp only [sSeq_ap, sAsg_ap, eLstC_ap, aNil_ap, mk_ok, mkC0, asg_ok, gN_ap, List.cons_append, List.nil_append, List.replicate, List.set_cons_succ, List.set_cons_zero, seq_nx, sFor_ap, iSeq_ap, eVar_ap, List.getElem?_cons_succ, List.getElem?_cons_zero, seqi_ok, hw, of_some, for1_fix, List.length_singleton, List.cons_append, List.nil_append, e, sRet_ap, ret_ok, sfin_rt, hf]
/-- a good part of a shape: some corners, near the middle, neighbours apart -/
theorem mixed_ok (b : Bx) (ns : List Int) (hn : ns.length ≤ 100) : ∃ (ys : List Int) (b' : Bx), f__law_mixed [.cell 0, .lst (ns.map .int)] [enc b] = .ok (.lst (ys.map .int)) [enc b'] ∧ ys.Perm ns := mixed_g DV.int (fun _ _ => rfl) b ns _ (fun _ => rfl) hn
/-- a good part of a shape: some corners, near the middle, neighbours apart -/
def gd (P : List Pt) : Bool := decide (3 ≤ P.length) && (decide (P.length ≤ 7) && (P.all (fun p => decide (p.1.natAbs ≤ 200) && decide (p.2.natAbs ≤ 200)) && (eL P).all fun e => decide (e.1 ≠ e.2)))
theorem gd_iff {P : List Pt} : gd P = true ↔ 3 ≤ P.length ∧ P.length ≤ 7 ∧ (∀ p ∈ P, p.1.natAbs ≤ 200 ∧ p.2.natAbs ≤ 200) ∧ Nd P := by
  unfold gd Nd
  simp only [Bool.and_eq_true, decide_eq_true_eq, List.all_eq_true]
  constructor
  · rintro ⟨h1, h2, h3, h4⟩
    exact ⟨h1, h2, h3, fun a b h => h4 (a, b) h⟩
  · rintro ⟨h1, h2, h3, h4⟩
    exact ⟨h1, h2, h3, fun e h => h4 e.1 e.2 h⟩
theorem rect_l {μ : Sto} {x y w h : Int} : f__law_rect [.int x, .int y, .int w, .int h] μ = .ok (polyD [(x, y), (x + w, y), (x + w, y + h), (x, y + h)]) μ := by
  unfold f__law_rect
  rw [runF_ap (np := 4) (by rfl)]
  unfold b__law_rect
  simp [mkT_small]
  rfl
def shapes (s : Int) : List (List (List Pt)) := [[[(0, 0), (s, 0), (s, s), (0, s)]], [[(0, 0), (s, 0), (s, s), (0, s)]], [[(0, 0), (s + 3, 0), (s + 3, 1), (0, 1)]], [[(0, 0), (s + 3, 0), (s + 3, 2), (0, 2)]],
  [[(0, 0), (s + 1, 0), (0, s)]], [[(0, 0), (s + 4, 0), (s + 2, 2), (0, 2)]], [[(0, 0), (6, 0), (6, 2), (0, 2)], [(0, 2), (2, 2), (2, 2 + (s + 1)), (0, 2 + (s + 1))]],
  [[(0, 0), (6, 0), (6, 2), (0, 2)], [(0, 2), (2, 2), (2, 2 + (s + 2)), (0, 2 + (s + 2))], [(4, 2), (6, 2), (6, 2 + (s + 2)), (4, 2 + (s + 2))]], [[(0, 0), (2, 0), (2, 4), (0, 4)]],
  [[(0, 0), (8, 0), (8, 2), (0, 2)], [(0, 6), (8, 6), (8, 8), (0, 8)], [(0, 2), (2, 2), (2, 6), (0, 6)], [(6, 2), (8, 2), (8, 6), (6, 6)]], [[(0, 0), (4, 0), (4, 2), (2, 2 + s), (0, 2)]],
  [[(1, 0), (3, 0), (4, 2), (3, 4), (1, 4), (0, 2)], [(1, 4), (3, 4), (2, 4 + s)]]]
def shD (L : List (List Pt)) : DV := .lst (L.map polyD)
def bw (a b c d z t : Int) : Pt := (z * (a * t + b * t * t), z * (c * t + d * t * t))
theorem bw_inj {a b c d z t s : Int} (hz : z ≠ 0) (hd : a * d - b * c ≠ 0) (h : bw a b c d z t = bw a b c d z s) : t = s := by
  unfold bw at h
  obtain ⟨h1, h2⟩ := Prod.mk.inj h
  have e1 : a * t + b * t * t = a * s + b * s * s := Int.eq_of_mul_eq_mul_left hz h1
  have e2 : c * t + d * t * t = c * s + d * s * s := Int.eq_of_mul_eq_mul_left hz h2
  have e3 : (a * d - b * c) * (t - s) = 0 := by grind
  rcases Int.mul_eq_zero.mp e3 with h | h
  · exact absurd h hd
  · omega
theorem nd_map {ts : List Int} {f : Int → Pt} (h2 : 2 ≤ ts.length) (hn : ts.Nodup) (hf : ∀ t s, f t = f s → t = s) : Nd (ts.map f) := by
  intro a b he e
  obtain ⟨k, hk, e1⟩ := mem_eL.mp he
  cases e1
  have hn' := nx_lt hk
  rw [List.length_map] at hk hn' 
  rw [List.length_map] at e
  rw [cor_get (by rw [List.length_map]; exact hk), cor_get (by rw [List.length_map]; exact hn'), List.getElem_map, List.getElem_map] at e
  have := hf _ _ e
  have hq := List.pairwise_iff_getElem.mp hn
  have hne : k ≠ nx ts.length k := by unfold nx; split <;> omega
  rcases Nat.lt_or_gt_of_ne hne with h | h
  · exact hq _ _ hk hn' h this
  · exact hq _ _ hn' hk h this.symm
theorem bound_mul {a b m n : Int} (ha : -m ≤ a ∧ a ≤ m) (hb : -n ≤ b ∧ b ≤ n) (hm : 0 ≤ m) (hn : 0 ≤ n) : -(m * n) ≤ a * b ∧ a * b ≤ m * n := by
  have h1 : (a.natAbs : Int) ≤ m := by omega
  have h2 : (b.natAbs : Int) ≤ n := by omega
  have h3 : ((a * b).natAbs : Int) ≤ m * n := by
    rw [Int.natAbs_mul, Int.natCast_mul]
    exact Int.mul_le_mul h1 h2 (by omega) hm
  omega
theorem bw_bound {a b c d z t : Int} (ha : -3 ≤ a ∧ a ≤ 3) (hb : -3 ≤ b ∧ b ≤ 3) (hc : -3 ≤ c ∧ c ≤ 3) (hd : -3 ≤ d ∧ d ≤ 3) (hz : -3 ≤ z ∧ z ≤ 3) (ht : -3 ≤ t ∧ t ≤ 3) : (bw a b c d z t).1.natAbs ≤ 200 ∧ (bw a b c d z t).2.natAbs ≤ 200 := by
  have h1 := bound_mul (m := 3) (n := 3) ha ht (by decide) (by decide)
  have h2 := bound_mul (m := 3) (n := 3) hb ht (by decide) (by decide)
  have h3 := bound_mul (m := 9) (n := 3) (by simpa using h2) ht (by decide) (by decide)
  have h4 := bound_mul (m := 3) (n := 3) hc ht (by decide) (by decide)
  have h5 := bound_mul (m := 3) (n := 3) hd ht (by decide) (by decide)
  have h6 := bound_mul (m := 9) (n := 3) (by simpa using h5) ht (by decide) (by decide)
  have h7 := bound_mul (a := z) (b := a * t + b * t * t) (m := 3) (n := 36) hz (by omega) (by decide) (by decide)
  have h8 := bound_mul (a := z) (b := c * t + d * t * t) (m := 3) (n := 36) hz (by omega) (by decide) (by decide)
  unfold bw
  simp only
  omega
def mats : List (Int × Int × Int × Int) := [(1, 0, 0, 1), (2, 1, 1, 1), (1, -1, 1, 1), (0, -1, 1, 0), (3, 1, -1, 2), (1, 0, 2, 1), (-1, 0, 0, -1)]
def matD (m : Int × Int × Int × Int) : DV := .tup [.int m.1, .int m.2.1, .int m.2.2.1, .int m.2.2.2]
theorem mats_ok : ∀ m ∈ mats, (-3 ≤ m.1 ∧ m.1 ≤ 3) ∧ (-3 ≤ m.2.1 ∧ m.2.1 ≤ 3) ∧ (-3 ≤ m.2.2.1 ∧ m.2.2.1 ≤ 3) ∧ (-3 ≤ m.2.2.2 ∧ m.2.2.2 ≤ 3) ∧ m.1 * m.2.2.2 - m.2.1 * m.2.2.1 ≠ 0 := by decide
theorem bowl_ok (b : Bx) (k : Nat) (h3 : 3 ≤ k) (h6 : k ≤ 7) : ∃ P b', f__law_bowl [.cell 0, .int (k : Int)] [enc b] = .ok (polyD P) [enc b'] ∧ gd P = true := by
  obtain ⟨ys, b1, e1, hp⟩ := mixed_ok b [-3, -2, -1, 0, 1, 2, 3] (by decide)
  have hl : ys.length = 7 := hp.length_eq
  have hnd : ys.Nodup := hp.nodup_iff.mpr (by decide)
  have hel : ∀ t ∈ ys, -3 ≤ t ∧ t ≤ 3 := fun t ht => by
    have := hp.mem_iff.mp ht
    simp at this
    omega
  have hm := pk_mem (b := b1) (xs := mats.map matD) (by decide) (by decide)
  obtain ⟨m, hm1, hm2⟩ := List.mem_map.mp hm
  obtain ⟨ma, mb, mc, md, mdet⟩ := mats_ok m hm1
  generalize hb2 : pkB b1 (mats.map matD) = b2 
  have hz := pk_mem (b := b2) (xs := [.int 1, .int 1, .int 2, .int 3]) (by show 0 < 4; decide) (by show 4 < _; decide)
  have hz : ∃ z : Int, (1 ≤ z ∧ z ≤ 3) ∧ pkD b2 [.int 1, .int 1, .int 2, .int 3] = .int z := by
    simp at hz
    rcases hz with h | h | h
    · exact ⟨_, by decide, h⟩
    · exact ⟨_, by decide, h⟩
    · exact ⟨_, by decide, h⟩
  obtain ⟨z, hzb, hz⟩ := hz
  have hts : sortI (ys.take k) |>.Perm (ys.take k) := sortI_perm _
  have hmem : ∀ t ∈ sortI (ys.take k), -3 ≤ t ∧ t ≤ 3 := fun t ht => hel t (List.mem_of_mem_take (hts.mem_iff.mp ht))
  have hlen : (sortI (ys.take k)).length = k := by rw [hts.length_eq, List.length_take]; omega
  refine ⟨(sortI (ys.take k)).map (bw m.1 m.2.1 m.2.2.1 m.2.2.2 z), pkB b2 [.int 1, .int 1, .int 2, .int 3], ?_, ?_⟩
  · have hsl : ∀ μ, vSlc (.lst (ys.map .int)) none (some (k : Int)) μ = some (.lst ((ys.take k).map .int)) := fun μ => by
      show some (DV.lst (SD.cutD (ys.map .int) none (some (k : Int)))) = _
      unfold SD.cutD
      rw [HT.sIx_nat, HT.sIx_none, List.drop_zero, List.length_map, hl, Nat.sub_zero, Nat.min_eq_left (by omega), List.map_take]
    have hso : ∀ μ, vSorted [.lst ((ys.take k).map .int)] μ = some (.lst ((sortI (ys.take k)).map .int)) := fun μ => by
      show (asIs ((ys.take k).map .int)).map (fun ns => DV.lst ((sortI ns).map .int)) = _
      have := asIs_map (fun x : Int => x) (ys.take k)
      rw [List.map_id'] at this
      rw [this]; rfl
    have ht : ∀ xs μ, vTuple [.lst xs] μ = some (.tup xs) := fun _ _ => rfl
    have hun : ∀ (ρ : En) μ, gTup' (gCons' (gN 3) (gCons' (gN 4) (gCons' (gN 5) (gCons' (gN 6) gNil')))) 4 (matD m) ρ μ = some ((((ρ.set 3 (some (.int m.1))).set 4 (some (.int m.2.1))).set 5 (some (.int m.2.2.1))).set 6 (some (.int m.2.2.2))) := fun _ _ => rfl
    have lc : ∀ t tt te ρ μ, R.lc1 (.ok (.fix ((sortI (ys.take k)).map DV.int)) μ) t tt te ρ = compD t tt te ρ ((sortI (ys.take k)).map .int) μ := fun t tt te ρ μ => lc_l (by rw [List.length_map]; omega)
    have hc : ∀ (x y : DV), compD (gN 8) tYes' (eTup (aCons (eBin vMul (eVar 7) (eBin vAdd (eBin vMul (eVar 3) (eVar 8)) (eBin vMul (eBin vMul (eVar 4) (eVar 8)) (eVar 8)))) (aCons (eBin vMul (eVar 7) (eBin vAdd (eBin vMul (eVar 5) (eVar 8)) (eBin vMul (eBin vMul (eVar 6) (eVar 8)) (eVar 8)))) aNil))) [some x, some y, some (.lst ((ys.take k).map .int)), some (.int m.1), some (.int m.2.1), some (.int m.2.2.1), some (.int m.2.2.2), some (.int z), none] ((sortI (ys.take k)).map .int) [enc (pkB b2 [.int 1, .int 1, .int 2, .int 3])] = .ok ((sortI (ys.take k)).map fun t => ptD (bw m.1 m.2.1 m.2.2.1 m.2.2.2 z t)) [enc (pkB b2 [.int 1, .int 1, .int 2, .int 3])] := fun x y =>
      compD_mapL DV.int (fun t => ptD (bw m.1 m.2.1 m.2.2.1 m.2.2.2 z t)) _ fun t ht => by
        have hb := hmem t ht
        have mr : ∀ (u : Int) μ, vMul (.int u) (.int t) μ = some (.int (u * t)) := fun u μ => vMul_r (by omega)
        have mz : ∀ (u : Int) μ, vMul (.int z) (.int u) μ = some (.int (z * u)) := fun u μ => vMul_l (by omega)
        exact ⟨_, rfl, by simp [mr, mz, ptD, bw]⟩
    have e : polyD ((sortI (ys.take k)).map (bw m.1 m.2.1 m.2.2.1 m.2.2.2 z)) = .tup ((sortI (ys.take k)).map fun t => ptD (bw m.1 m.2.1 m.2.2.1 m.2.2.2 z t)) := by unfold polyD; rw [List.map_map]; rfl
    rw [e]
    unfold f__law_bowl
    rw [runF2]
    unfold b__law_bowl
    have wp : ∀ (x y c d e f g h i : Option DV), wipeE [x, y, c, d, e, f, g, h, i] [8] = [x, y, c, d, e, f, g, h, none] := fun _ _ _ _ _ _ _ _ _ => rfl
    have e1' : f__law_mixed [.cell 0, .lst [.int (-3), .int (-2), .int (-1), .int 0, .int 1, .int 2, .int 3]] [enc b] = .ok (.lst (ys.map .int)) [enc b1] := e1
    have ep : f__law_pick [.cell 0, .lst [.tup [.int 1, .int 0, .int 0, .int 1], .tup [.int 2, .int 1, .int 1, .int 1], .tup [.int 1, .int (-1), .int 1, .int 1], .tup [.int 0, .int (-1), .int 1, .int 0], .tup [.int 3, .int 1, .int (-1), .int 2], .tup [.int 1, .int 0, .int 2, .int 1], .tup [.int (-1), .int 0, .int 0, .int (-1)]]] [enc b1] = .ok (matD m) [enc b2] := by
      have := pick_s (b := b1) (xs := mats.map matD) (by decide) (by decide)
      rw [← hm2, hb2] at this
      exact this
    have ez : f__law_pick [.cell 0, .lst [.int 1, .int 1, .int 2, .int 3]] [enc b2] = .ok (.int z) [enc (pkB b2 [.int 1, .int 1, .int 2, .int 3])] := by
      have := pick_s (b := b2) (xs := [.int 1, .int 1, .int 2, .int 3]) (by show 0 < 4; decide) (by show 4 < _; decide)
      rw [hz] at this
      exact this
    simp [-List.map_take, mkL_small, mkT_small, e1', hsl, ep, hun, ez, hso, wk_lst, wp, lc, hc, ht]
  · refine gd_iff.mpr ⟨by rw [List.length_map, hlen]; exact h3, by rw [List.length_map, hlen]; omega, fun p hp => ?_, nd_map (by omega) (hts.nodup_iff.mpr (hnd.sublist (List.take_sublist _ _))) fun t s h => bw_inj (by omega) mdet h⟩
    obtain ⟨t, ht, rfl⟩ := List.mem_map.mp hp
    exact bw_bound ma mb mc md (by omega) (hmem t ht)
theorem shapes_ok : ∀ s ∈ [(1 : Int), 2, 3, 4], ((shapes s).all fun L => decide (0 < L.length) && (decide (L.length ≤ 5) && L.all gd)) = true := by decide +kernel
theorem shape_ok (b : Bx) : ∃ Ls b', f__law_shape [.cell 0] [enc b] = .ok (shD Ls) [enc b'] ∧ 0 < Ls.length ∧ Ls.length ≤ 5 ∧ ∀ P ∈ Ls, gd P = true := by
  have l0 := tk_lo (b := b) (many := 13) (by decide) (by decide)
  have h0 := tk_hi (b := b) (many := 13) (by decide) (by decide)
  have l1 := tk_lo (b := tkB b 13) (many := 4) (by decide) (by decide)
  have h1 := tk_hi (b := tkB b 13) (many := 4) (by decide) (by decide)
  have cut : ∃ t1 t2 t3 E, b__law_shape = sSeq t1 (sSeq t2 (sSeq t3 (sRet (eBin vIx E (eVar 1))))) ∧
      t1 [some (.cell 0), none, none, none, none, none] [enc b] = .nx [some (.cell 0), some (.int (tkN b 13)), some (.int (1 + tkN (tkB b 13) 4)), none, none, none] [enc (tkB (tkB b 13) 4)] ∧
      (∀ w s b, w ≠ 12 → t2 [some (.cell 0), some (.int w), some (.int s), none, none, none] [enc b] = .nx [some (.cell 0), some (.int w), some (.int s), none, none, none] [enc b]) ∧
      (∀ s b, ∃ P b', t2 [some (.cell 0), some (.int 12), some (.int s), none, none, none] [enc b] = .rt (shD [P]) [enc b'] ∧ gd P = true) ∧
      (∀ w s b, ∃ x y z, t3 [some (.cell 0), some (.int w), some (.int s), none, none, none] [enc b] = .nx [some (.cell 0), some (.int w), some (.int s), some x, some y, some z] [enc b] ∧ (s ∈ [(1 : Int), 2, 3, 4] → E [some (.cell 0), some (.int w), some (.int s), some x, some y, some z] [enc b] = .ok (.lst ((shapes s).map shD)) [enc b])) := by
    refine ⟨_, _, _, _, rfl, ?_, ?_, ?_, ?_⟩
    · simp [take_s]
    · intro w s b hw
      simp [hw]
    · intro s b
      have l2 := tk_lo (b := b) (many := 4) (by decide) (by decide)
      have h2 := tk_hi (b := b) (many := 4) (by decide) (by decide)
      obtain ⟨k, hk⟩ := Int.eq_ofNat_of_zero_le l2
      obtain ⟨P, b', e, hg⟩ := bowl_ok (tkB b 4) (3 + k) (by omega) (by omega)
      have hk3 : 3 + tkN b 4 = ((3 + k : Nat) : Int) := by omega
      refine ⟨P, b', ?_, hg⟩
      have ea : R.mk f__law_bowl (R.ok [.cell 0, .int (3 + tkN b 4)] [enc (tkB b 4)]) = .ok (polyD P) [enc b'] := by rw [hk3]; exact e
      simp only [sIf_ap, tB_ap, eBin_ap, eVar_ap, List.getElem?_cons_succ, List.getElem?_cons_zero, bin1_ok, eC_ap, bin2_ok, vEq_i, of_some, tb_ok, decide_true, sif_t, sRet_ap, eLst_ap, aCons_ap, eCall_ap, ac1_ok, aNil_ap, ac2_ok, mk_ok, take_s (by decide : (0 : Int) < 4) (by decide : (4 : Int) < 1073741824), vAdd_i]
      rw [mk_ok] at ea
      rw [ea]
      simp [shD]
    · intro w s b
      refine ⟨_, _, _, by simp [rect_l, mkT_small]; exact ⟨rfl, rfl, rfl⟩, ?_⟩
      intro hs
      simp only [List.mem_cons, List.not_mem_nil, or_false] at hs
      rcases hs with rfl | rfl | rfl | rfl
      · simp [rect_l, mkT_small, mkL_small]; rfl
      · simp [rect_l, mkT_small, mkL_small]; rfl
      · simp [rect_l, mkT_small, mkL_small]; rfl
      · simp [rect_l, mkT_small, mkL_small]; rfl
  obtain ⟨t1, t2, t3, E, e, p1, p2, p3, p4⟩ := cut
  unfold f__law_shape
  rw [runF1, e]
  by_cases hw : tkN b 13 = 12
  · obtain ⟨P, b', q, hg⟩ := p3 (1 + tkN (tkB b 13) 4) (tkB (tkB b 13) 4)
    refine ⟨[P], b', ?_, by simp, by simp, by simp [hg]⟩
    rw [hw] at p1
    simp [p1, q]
  · obtain ⟨x, y, z, q, hE⟩ := p4 (tkN b 13) (1 + tkN (tkB b 13) 4) (tkB (tkB b 13) 4)
    have hs : (1 + tkN (tkB b 13) 4) ∈ [(1 : Int), 2, 3, 4] := by simp; omega
    have hE := hE hs
    have hsh := List.all_eq_true.mp (shapes_ok _ hs)
    generalize 1 + tkN (tkB b 13) 4 = s at *
    obtain ⟨w, hwn⟩ := Int.eq_ofNat_of_zero_le l0
    have hlen : (shapes s).length = 12 := rfl
    have hw12 : w < (shapes s).length := by omega
    have hx : ∀ μ, vIx (.lst ((shapes s).map shD)) (.int (w : Int)) μ = some (shD (shapes s)[w]) := fun μ => by
      show atI ((shapes s).map shD) (w : Int) = _
      rw [atI_nat (by rw [List.length_map]; exact hw12), List.getElem?_map, List.getElem?_eq_getElem hw12]; rfl
    have hm := hsh _ (List.getElem_mem hw12)
    simp only [Bool.and_eq_true, decide_eq_true_eq, List.all_eq_true] at hm
    refine ⟨(shapes s)[w], tkB (tkB b 13) 4, ?_, hm.1, hm.2.1, hm.2.2⟩
    have p2' := p2 (tkN b 13) s (tkB (tkB b 13) 4) hw
    rw [hwn] at p1 p2' q hE
    simp [p1, p2', q, hE, hx]
structure Sz (B : Nat) (P : List Pt) : Prop where
  pos : 0 < P.length
  len : P.length ≤ 7
  bd : ∀ p ∈ P, p.1.natAbs ≤ B ∧ p.2.natAbs ≤ B
theorem gd_sz {P : List Pt} (h : gd P = true) : Sz 200 P ∧ Nd P := by
  obtain ⟨h1, h2, h3, h4⟩ := gd_iff.mp h
  exact ⟨⟨by omega, h2, h3⟩, h4⟩
theorem Sz.mono {B C : Nat} {P : List Pt} (h : Sz B P) (hb : B ≤ C) : Sz C P := ⟨h.pos, h.len, fun p hp => by have := h.bd p hp; omega⟩
theorem Sz.sent {B C : Nat} {P : List Pt} {u v : Int} (h : Sz B P) (hu : u.natAbs ≤ C) (hv : v.natAbs ≤ C) : Sz (B + C) (P.map (sent u v)) := ⟨by rw [List.length_map]; exact h.pos, by rw [List.length_map]; exact h.len, fun p hp => by
  obtain ⟨q, hq, rfl⟩ := List.mem_map.mp hp
  have := h.bd q hq
  unfold Lw.sent
  simp only
  omega⟩
theorem Sz.quart {B : Nat} {P : List Pt} (h : Sz B P) : Sz B (P.map quart) := ⟨by rw [List.length_map]; exact h.pos, by rw [List.length_map]; exact h.len, fun p hp => by
  obtain ⟨q, hq, rfl⟩ := List.mem_map.mp hp
  have := h.bd q hq
  unfold Lw.quart
  simp only
  omega⟩
theorem Sz.quarts {B : Nat} : ∀ {n : Nat} {P : List Pt}, Sz B P → Sz B (quarts n P)
  | 0, _, h => h
  | n + 1, P, h => by unfold Lw.quarts; exact Sz.quarts h.quart
theorem Sz.flip {B : Nat} {P : List Pt} (h : Sz B P) : Sz B (flip' P) := ⟨by unfold flip'; rw [List.length_reverse, List.length_map]; exact h.pos, by unfold flip'; rw [List.length_reverse, List.length_map]; exact h.len, fun p hp => by
  obtain ⟨q, hq, rfl⟩ := flip_mem.mp hp
  have := h.bd q hq
  unfold mirr
  simp only
  omega⟩
theorem Sz.rot {B k : Nat} {P : List Pt} (h : Sz B P) : Sz B (rot k P) := ⟨by rw [rot_len]; exact h.pos, by rw [rot_len]; exact h.len, fun p hp => h.bd p (rot_mem.mp hp)⟩
theorem Sz.Bd {B : Nat} {P : List Pt} (h : Sz B P) (hb : B ≤ 100000) : Bd P := fun p hp => by have := h.bd p hp; exact ⟨by omega, by omega⟩
theorem pk_sh {Ls : List (List Pt)} {b : Bx} (h0 : 0 < Ls.length) (h5 : Ls.length ≤ 5) (hg : ∀ P ∈ Ls, gd P = true) : ∃ P b', f__law_pick [.cell 0, shD Ls] [enc b] = .ok (polyD P) [enc b'] ∧ gd P = true := by
  have a1 : 0 < (Ls.map polyD).length := by rw [List.length_map]; exact h0
  have a2 : (Ls.map polyD).length < 1073741824 := by rw [List.length_map]; omega
  obtain ⟨P, hP, e⟩ := List.mem_map.mp (pk_mem (b := b) (xs := Ls.map polyD) a1 a2)
  refine ⟨P, pkB b (Ls.map polyD), ?_, hg P hP⟩
  have := pick_s (b := b) a1 a2
  rw [← e] at this
  exact this
end Lw

set_option Elab.async false
set_option linter.all false
set_option maxRecDepth 100000
set_option maxHeartbeats 4000000
/-! k03: a part told from its least corner on; the area; equal values. -/
namespace Lw
open PySem PySem.Spec PyProof.Rows L2 SD
section
variable {μ : Sto} {ρ : En} {α : Type}
/-! the least corner -/
def ltP (a b : Pt) : Bool := if a.1 = b.1 then decide (a.2 < b.2) else decide (a.1 < b.1)
theorem ltP_irr {a : Pt} : ltP a a = false := by unfold ltP; simp
theorem ltP_tr {a b c : Pt} (h1 : ltP a b = true) (h2 : ltP b c = true) : ltP a c = true := by
  unfold ltP at *
  (repeat' split at h1) <;> (repeat' split at h2) <;> (repeat' split) <;> simp only [decide_eq_true_eq] at * <;> omega
theorem ltP_tot {a b : Pt} (h1 : ltP a b = false) (h2 : ltP b a = false) : a = b := by
  unfold ltP at *
  obtain ⟨x, y⟩ := a
  obtain ⟨u, v⟩ := b
  simp only at *
  (repeat' split at h1) <;> (repeat' split at h2) <;> simp only [decide_eq_false_iff_not] at * <;> first | omega | (refine Prod.ext ?_ ?_ <;> (simp only; omega))
def ls2 (p : Pt) : List Int := [p.1, p.2]
theorem lex_ls2 {a b : Pt} : HT.lexLt (ls2 a) (ls2 b) = ltP a b := by
  unfold ls2 ltP
  rw [HT.lexLt_cons]
  by_cases h : a.1 = b.1
  · rw [if_pos h, if_pos h, HT.lexLt_cons]
    by_cases h' : a.2 = b.2
    · rw [if_pos h', HT.lexLt_nil_nil, h']; simp
    · rw [if_neg h']
  · rw [if_neg h, if_neg h]
theorem asIss_pts : ∀ P : List Pt, asIss (P.map ptD) = some (P.map ls2)
  | [] => rfl
  | p :: P => by
    rw [List.map_cons, List.map_cons]
    show (match asIs [.int p.1, .int p.2], asIss (P.map ptD) with
      | some n, some ns => some (n :: ns)
      | _, _ => none) = _
    rw [asIss_pts P]
    rfl
theorem ltAt_pts {P : List Pt} {i j : Nat} (hi : i < P.length) (hj : j < P.length) : ltAt (P.map ls2) i j = ltP (cor P i) (cor P j) := by
  unfold ltAt
  have e : ∀ k, k < P.length → (P.map ls2).getD k [] = ls2 (cor P k) := fun k hk => by
    rw [List.getD_eq_getElem?_getD, List.getElem?_map, List.getElem?_eq_getElem hk, cor_get hk]; rfl
  rw [e i hi, e j hj, lex_ls2]
theorem arg_le {f : Nat → Nat → Bool} : ∀ k, argBest f k ≤ k
  | 0 => Nat.le_refl 0
  | k + 1 => by
    unfold argBest
    split
    · exact Nat.le_refl _
    · exact Nat.le_succ_of_le (arg_le k)
def tj (P : List Pt) : Nat := argBest (ltAt (P.map ls2)) (P.length - 1)
theorem tj_lt {P : List Pt} (h : 0 < P.length) : tj P < P.length := by have := arg_le (f := ltAt (P.map ls2)) (P.length - 1); unfold tj; omega
theorem arg_min {P : List Pt} : ∀ k, k < P.length → ∀ i, i ≤ k → ltP (cor P i) (cor P (argBest (ltAt (P.map ls2)) k)) = false
  | 0, hk, i, hi => by
    have e : i = 0 := by omega
    subst e
    exact ltP_irr
  | k + 1, hk, i, hi => by
    have ih := arg_min (P := P) k (by omega)
    have hb := arg_le (f := ltAt (P.map ls2)) k
    unfold argBest
    rw [ltAt_pts hk (by omega)]
    by_cases h : ltP (cor P (k + 1)) (cor P (argBest (ltAt (P.map ls2)) k)) = true
    · rw [if_pos h]
      by_cases e : i = k + 1
      · rw [e]; exact ltP_irr
      · cases q : ltP (cor P i) (cor P (k + 1)) with
        | false => rfl
        | true =>
          have := ih i (by omega)
          rw [ltP_tr q h] at this
          exact this
    · rw [if_neg h]
      by_cases e : i = k + 1
      · rw [e]; simpa using h
      · exact ih i (by omega)
theorem tj_min {P : List Pt} (h : 0 < P.length) {c : Pt} (hc : c ∈ P) : ltP c (cor P (tj P)) = false := by
  obtain ⟨i, hi, rfl⟩ := mem_cor hc
  exact arg_min (P.length - 1) (by omega) i (by omega)
def told (P : List Pt) : List Pt := rot (tj P) P
theorem tj_rot {P : List Pt} {k : Nat} (h : 0 < P.length) : cor (rot k P) (tj (rot k P)) = cor P (tj P) := by
  have h' : 0 < (rot k P).length := by rw [rot_len]; exact h
  exact ltP_tot (tj_min h (rot_mem.mp (cor_mem (tj_lt h')))) (tj_min h' (rot_mem.mpr (cor_mem (tj_lt h))))
theorem told_rot {P : List Pt} (h : Cv P) {k : Nat} (hk : k ≤ P.length) : told (rot k P) = told P := by
  have hl := h.len
  have h' : 0 < (rot k P).length := by rw [rot_len]; omega
  have h1 := tj_lt h'
  rw [rot_len] at h1
  unfold told
  rw [rot_rot h1 hk]
  refine rot_same h (wr_lt h1 hk) (tj_lt (by omega)) ?_
  rw [← rot_cor' hk h1, tj_rot (by omega)]
theorem told_told {P : List Pt} (h : Cv P) : told (told P) = told P := told_rot h (Nat.le_of_lt (tj_lt (by have := h.len; omega)))
/-! in code -/
def ptP (p : Pt) : PyData := .tuple [.int p.1, .int p.2]
theorem toPy_pts : ∀ P : List Pt, toPyL (P.map ptD) = some (P.map ptP)
  | [] => rfl
  | p :: P => by
    rw [List.map_cons, List.map_cons]
    show (match toPy (ptD p), toPyL (P.map ptD) with
      | some a, some b => some (a :: b)
      | _, _ => none) = _
    rw [toPy_pts P]
    rfl
theorem eqv_pt {a b : Pt} : PyData.eqv (ptP a) (ptP b) = decide (a = b) := by
  obtain ⟨x, y⟩ := a
  obtain ⟨u, v⟩ := b
  have h : decide (((x, y) : Pt) = (u, v)) = (decide (x = u) && decide (y = v)) := by
    rw [← Bool.decide_and]
    exact decide_eq_decide.mpr (by simp)
  rw [h]
  simp [ptP, PyData.eqv, PyData.eqvAll]
  rfl
theorem idx_pts : ∀ {P : List Pt} {q : Pt} {j : Nat}, j < P.length → cor P j = q → (∀ m, m < j → cor P m ≠ q) → idxD (ptP q) (P.map ptP) = some j
  | [], _, _, h, _, _ => by simp at h
  | p :: P, q, 0, h, e, _ => by
    have : p = q := e
    subst this
    rw [List.map_cons]
    unfold idxD
    rw [eqv_pt]
    simp
  | p :: P, q, j + 1, h, e, hm => by
    have h0 : p ≠ q := hm 0 (by omega)
    rw [List.map_cons]
    unfold idxD
    rw [eqv_pt, decide_eq_false h0]
    rw [idx_pts (P := P) (j := j) (by simpa using h) e fun m hmj => hm (m + 1) (by omega)]
    rfl
theorem lay_pts : ∀ P : List Pt, PyData.canLayAll0 (P.map ptP) = true ∧ PyData.depthAll (P.map ptP) ≤ 1
  | [] => ⟨rfl, Nat.zero_le _⟩
  | p :: P => by
    obtain ⟨h1, h2⟩ := lay_pts P
    rw [List.map_cons]
    unfold PyData.canLayAll0 PyData.depthAll
    rw [h1]
    refine ⟨rfl, ?_⟩
    have : (ptP p).depth = 1 := rfl
    omega
theorem idx_ok {P : List Pt} (h : Cv P) : mIndexT (polyD P) [ptD (cor P (tj P))] μ = some (.int (tj P : Nat), μ) := by
  have hl := h.len
  have hj := tj_lt (P := P) (by omega)
  have e1 : idxD (ptP (cor P (tj P))) (P.map ptP) = some (tj P) := idx_pts hj rfl fun m hm e => by
    have := h.inj (by omega) hj e
    omega
  have e2 : (SeqAt.shaped (.tuple (P.map ptP)) && SeqAt.shaped (ptP (cor P (tj P)))) = true := by
    obtain ⟨h1, h2⟩ := lay_pts P
    rw [Bool.and_eq_true]
    refine ⟨?_, rfl⟩
    unfold SeqAt.shaped
    rw [Bool.and_eq_true]
    refine ⟨h1, decide_eq_true ?_⟩
    show PyData.depthAll (P.map ptP) + 1 ≤ 64
    omega
  show (match toPyL (P.map ptD), toPy (ptD (cor P (tj P))) with
    | some ps, some p => if (SeqAt.shaped (.tuple ps) && SeqAt.shaped p) = true then (idxD p ps).map fun j => (DV.int (j : Int), μ) else none
    | _, _ => none) = _
  rw [toPy_pts]
  show (if (SeqAt.shaped (.tuple (P.map ptP)) && SeqAt.shaped (ptP (cor P (tj P)))) = true then (idxD (ptP (cor P (tj P))) (P.map ptP)).map fun j => (DV.int (j : Int), μ) else none) = _
  rw [if_pos e2, e1]
  rfl
theorem min_ok {P : List Pt} (h : 0 < P.length) : vMinT [polyD P] μ = some (ptD (cor P (tj P))) := by
  have hj := tj_lt h
  show (match asIss (P.map ptD) with
    | some nss => if 0 < (P.map ptD).length then (P.map ptD)[argBest (ltAt nss) ((P.map ptD).length - 1)]? else none
    | none => none) = _
  rw [asIss_pts]
  show (if 0 < (P.map ptD).length then (P.map ptD)[argBest (ltAt (P.map ls2)) ((P.map ptD).length - 1)]? else none) = _
  rw [List.length_map, if_pos h]
  show (P.map ptD)[tj P]? = _
  rw [List.getElem?_map, List.getElem?_eq_getElem hj, cor_get hj]
  rfl
def tmR1 (f : VM) (r : R DV) (q : DA) (ρ : En) : R DV := r.bind fun x μ1 => if isTupD x = true then (q ρ μ1).bind fun xs μ2 => R.ofS (f x xs μ2) else .stuck
@[simp] theorem eTm_ap {f : VM} {o : DE} {r : DA} : eTm f o r ρ μ = tmR1 f (o ρ μ) r ρ := rfl
theorem tm1_poly {f : VM} {P : List Pt} {q : DA} : tmR1 f (.ok (polyD P) μ) q ρ = SD.R.bm2 f (polyD P) (q ρ μ) := rfl
theorem told_p {P : List Pt} (h : Cv P) (h6 : P.length ≤ 6) : f_part_told [polyD P] μ = .ok (polyD (told P)) μ := by
  have hl := h.len
  obtain ⟨v1, v2, v3⟩ := rot_v (μ := μ) (tj_lt (P := P) (by omega)) (by omega)
  unfold f_part_told
  rw [runF1]
  unfold b_part_told
  simp [tm1_poly, min_ok (P := P) (by omega), idx_ok h, v1, v2, v3, told]
theorem told_l {P : List Pt} (h : Cv P) (h6 : P.length ≤ 6) : f__law_told [polyD P] μ = .ok (polyD (told P)) μ := by
  have hl := h.len
  obtain ⟨v1, v2, v3⟩ := rot_v (μ := μ) (tj_lt (P := P) (by omega)) (by omega)
  unfold f__law_told
  rw [runF1]
  unfold b__law_told
  simp [tm1_poly, min_ok (P := P) (by omega), idx_ok h, v1, v2, v3, told]
/-! the area -/
theorem cross_p {a b : Pt} (ha : bp a) : f_cross [ptD a, ptD b] μ = .ok (.int (cr a b)) μ := by
  have m1 : ∀ y μ, vMul (.int a.1) (.int y) μ = some (.int (a.1 * y)) := fun y μ => vMul_l (by have := ha.1; omega)
  have m2 : ∀ y μ, vMul (.int a.2) (.int y) μ = some (.int (a.2 * y)) := fun y μ => vMul_l (by have := ha.2; omega)
  unfold f_cross
  rw [runF2]
  unfold b_cross
  simp [m1, m2, cr]
theorem cross_l {a b : Pt} (ha : bp a) : f__law_cross [ptD a, ptD b] μ = .ok (.int (cr a b)) μ := by
  have m1 : ∀ y μ, vMul (.int a.1) (.int y) μ = some (.int (a.1 * y)) := fun y μ => vMul_l (by have := ha.1; omega)
  have m2 : ∀ y μ, vMul (.int a.2) (.int y) μ = some (.int (a.2 * y)) := fun y μ => vMul_l (by have := ha.2; omega)
  unfold f__law_cross
  rw [runF2]
  unfold b__law_cross
  simp [m1, m2, cr]
theorem vSum_map (l : List α) (g : α → Int) : vSum [.lst (l.map fun x => .int (g x))] μ = some (.int (l.map g).sum) := by
  show (asIs (l.map fun x => .int (g x))).map (fun ns => DV.int ns.sum) = _
  rw [asIs_map]
  rfl
theorem eP_len {P : List Pt} : (eP P).length = P.length := by unfold eP; rw [List.length_map, List.length_range]
theorem eP_bp {P : List Pt} (h : Bd P) {e : Pt × Pt} (he : e ∈ eP P) : bp e.1 ∧ bp e.2 := by
  obtain ⟨a, b⟩ := e
  obtain ⟨h1, h2⟩ := eL_mem (mem_eP.mp he)
  exact ⟨h a h1, h b h2⟩
theorem eL_bp {P : List Pt} (h : Bd P) {e : Pt × Pt} (he : e ∈ eL P) : bp e.1 ∧ bp e.2 := eP_bp h (mem_eP.mpr he)
theorem area_p {P : List Pt} (hP : Bd P) (h3 : 3 ≤ P.length) (h6 : P.length ≤ 6) : f_area_twice [polyD P] μ = .ok (.int (area P)) μ := by
  unfold f_area_twice
  rw [runF1]
  unfold b_area_twice
  have lcE : ∀ t tt te ρ, R.lc1 (.ok (.fix ((eP P).map edD)) μ) t tt te ρ = compD t tt te ρ ((eP P).map edD) μ := fun t tt te ρ => lc_l (by rw [List.length_map, eP_len]; omega)
  have wp : wipeE [some (polyD P), none, none] [1, 2] = [some (polyD P), none, none] := rfl
  have hc : compD (gTup' (gCons' (gN 1) (gCons' (gN 2) gNil')) 2) tYes' (eCall f_cross (aCons (eVar 1) (aCons (eVar 2) aNil))) [some (polyD P), none, none] ((eP P).map edD) μ = .ok ((eP P).map fun e => .int (cr e.1 e.2)) μ :=
    compD_mapL edD (fun e => .int (cr e.1 e.2)) _ fun e he => ⟨_, g2_ed, by simp [cross_p (eP_bp hP he).1]⟩
  have hs := vSum_map (μ := μ) (eP P) fun e => cr e.1 e.2
  have hA : ((eP P).map fun e => cr e.1 e.2).sum = area P := area_eq h3 h6
  rw [hA] at hs
  simp [edges_p (P := P) (μ := μ) (by omega), wk_eds, lcE, wp, hc, hs]
theorem area_l {P : List Pt} (hP : Bd P) (h6 : P.length ≤ 6) : f__law_area [polyD P] μ = .ok (.int (area P)) μ := by
  unfold f__law_area
  rw [runF1]
  unfold b__law_area
  have lcE : ∀ t tt te ρ, R.lc1 (.ok (.fix ((eL P).map edD)) μ) t tt te ρ = compD t tt te ρ ((eL P).map edD) μ := fun t tt te ρ => lc_l (by rw [List.length_map, eL_len]; omega)
  have wp : wipeE [some (polyD P), none, none] [1, 2] = [some (polyD P), none, none] := rfl
  have hc : compD (gTup' (gCons' (gN 1) (gCons' (gN 2) gNil')) 2) tYes' (eCall f__law_cross (aCons (eVar 1) (aCons (eVar 2) aNil))) [some (polyD P), none, none] ((eL P).map edD) μ = .ok ((eL P).map fun e => .int (cr e.1 e.2)) μ :=
    compD_mapL edD (fun e => .int (cr e.1 e.2)) _ fun e he => ⟨_, g2_ed, by simp [cross_l (eL_bp hP he).1]⟩
  have hs := vSum_map (μ := μ) (eL P) fun e => cr e.1 e.2
  have hA : ((eL P).map fun e => cr e.1 e.2).sum = area P := rfl
  rw [hA] at hs
  simp [edges_l (P := P) (μ := μ) (by omega), wk_eds, lcE, wp, hc, hs]
end
end Lw

set_option Elab.async false
set_option linter.all false
set_option maxRecDepth 100000
set_option maxHeartbeats 4000000
/-! k03: equal values through lists and tuples; bent parts; odd values. -/
namespace Lw
open PySem PySem.Spec PyProof.Rows L2 SD
section
variable {μ : Sto} {ρ : En} {α : Type}
theorem same_lst (k : Nat) {ds : List DV} (h : ∀ d ∈ ds, f__law_same (k + 1) [d, d] μ = .ok (.bl true) μ) (hl : ds.length ≤ 1000) : f__law_same (k + 2) [.lst ds, .lst ds] μ = .ok (.bl true) μ := by
  rw [same_succ, runF2]
  unfold b__law_same
  have wp : wipeE [some (.lst ds), some (.lst ds), none, none, none] [3] = [some (.lst ds), some (.lst ds), none, none, none] := rfl
  have hc : compD (gN 3) tYes' (eCall (f__law_same (k + 1)) (aCons (eBin vIx (eVar 0) (eVar 3)) (aCons (eBin vIx (eVar 1) (eVar 3)) aNil))) [some (.lst ds), some (.lst ds), none, none, none] ((List.range ds.length).map fun (i : Nat) => DV.int (i : Int)) μ = .ok ((List.range ds.length).map fun i => .bl true) μ := by
    have := compD_map (μ := μ) (ρ := [some (.lst ds), some (.lst ds), none, none, none]) (t := gN 3) (te := eCall (f__law_same (k + 1)) (aCons (eBin vIx (eVar 0) (eVar 3)) (aCons (eBin vIx (eVar 1) (eVar 3)) aNil))) (fun _ => .bl true) ((List.range ds.length).map fun (i : Nat) => DV.int (i : Int)) (fun z hz => by
      obtain ⟨i, hi, rfl⟩ := List.mem_map.mp hz
      have hi' : i < ds.length := List.mem_range.mp hi
      have hx : vIx (.lst ds) (.int (i : Int)) μ = some ds[i] := by
        show atI ds (i : Int) = _
        rw [atI_nat hi', List.getElem?_eq_getElem hi']
      have hlf := h _ (List.getElem_mem hi')
      exact ⟨_, rfl, by simp [hx, hlf]⟩)
    rw [this, List.map_map]
    rfl
  have hv : vAll [.lst ((List.range ds.length).map fun _ => DV.bl true)] μ = some (.bl true) := by
    rw [vAll_map (μ := μ) (List.range ds.length) fun _ => true]
    simp
  have hrg : ∀ ρ : En, ρ[1]? = some (some (.lst ds)) → iRng1' (aCons (eFn vLen (aCons (eVar 1) aNil)) aNil) ρ μ = .ok (.fix ((List.range ds.length).map fun (i : Nat) => DV.int (i : Int))) μ := by
    intro ρ hρ
    rw [iRng1_ap]
    simp only [eFn_ap, aCons_ap, aNil_ap, eVar_ap, hρ, ac1_ok, ac2_ok, mk_ok, vLen_l, of_some, rg1_ok]
    rw [rng_n hl, of_some]
  have hlc : eLc (iRng1' (aCons (eFn vLen (aCons (eVar 1) aNil)) aNil)) (gN 3) tYes' (eCall (f__law_same (k + 1)) (aCons (eBin vIx (eVar 0) (eVar 3)) (aCons (eBin vIx (eVar 1) (eVar 3)) aNil))) [3] [some (.lst ds), some (.lst ds), none, none, none] μ = .ok (.lst ((List.range ds.length).map fun _ => DV.bl true)) μ := by
    rw [eLc_ap, wp, hrg _ rfl, lc_rng hl, hc, mk_ok]
  have hall : eFn vAll (aCons (eLc (iRng1' (aCons (eFn vLen (aCons (eVar 1) aNil)) aNil)) (gN 3) tYes' (eCall (f__law_same (k + 1)) (aCons (eBin vIx (eVar 0) (eVar 3)) (aCons (eBin vIx (eVar 1) (eVar 3)) aNil))) [3]) aNil) [some (.lst ds), some (.lst ds), none, none, none] μ = .ok (.bl true) μ := by
    rw [eFn_ap, aCons_ap, hlc, ac1_ok, aNil_ap, ac2_ok, mk_ok, hv, of_some]
  show SR.fin .fz μ.length (_ : SR) = _
  generalize eFn vAll (aCons (eLc (iRng1' (aCons (eFn vLen (aCons (eVar 1) aNil)) aNil)) (gN 3) tYes' (eCall (f__law_same (k + 1)) (aCons (eBin vIx (eVar 0) (eVar 3)) (aCons (eBin vIx (eVar 1) (eVar 3)) aNil))) [3]) aNil) = E at hall ⊢
  simp [T7.sub, hall]
theorem same_tup (k : Nat) {ds : List DV} (h : ∀ d ∈ ds, f__law_same (k + 1) [d, d] μ = .ok (.bl true) μ) (hl : ds.length ≤ 1000) : f__law_same (k + 2) [.tup ds, .tup ds] μ = .ok (.bl true) μ := by
  rw [same_succ, runF2]
  unfold b__law_same
  have wp : wipeE [some (.tup ds), some (.tup ds), none, none, none] [3] = [some (.tup ds), some (.tup ds), none, none, none] := rfl
  have hc : compD (gN 3) tYes' (eCall (f__law_same (k + 1)) (aCons (eBin vIx (eVar 0) (eVar 3)) (aCons (eBin vIx (eVar 1) (eVar 3)) aNil))) [some (.tup ds), some (.tup ds), none, none, none] ((List.range ds.length).map fun (i : Nat) => DV.int (i : Int)) μ = .ok ((List.range ds.length).map fun i => .bl true) μ := by
    have := compD_map (μ := μ) (ρ := [some (.tup ds), some (.tup ds), none, none, none]) (t := gN 3) (te := eCall (f__law_same (k + 1)) (aCons (eBin vIx (eVar 0) (eVar 3)) (aCons (eBin vIx (eVar 1) (eVar 3)) aNil))) (fun _ => .bl true) ((List.range ds.length).map fun (i : Nat) => DV.int (i : Int)) (fun z hz => by
      obtain ⟨i, hi, rfl⟩ := List.mem_map.mp hz
      have hi' : i < ds.length := List.mem_range.mp hi
      have hx : vIx (.tup ds) (.int (i : Int)) μ = some ds[i] := by
        show atI ds (i : Int) = _
        rw [atI_nat hi', List.getElem?_eq_getElem hi']
      have hlf := h _ (List.getElem_mem hi')
      exact ⟨_, rfl, by simp [hx, hlf]⟩)
    rw [this, List.map_map]
    rfl
  have hv : vAll [.lst ((List.range ds.length).map fun _ => DV.bl true)] μ = some (.bl true) := by
    rw [vAll_map (μ := μ) (List.range ds.length) fun _ => true]
    simp
  have hrg : ∀ ρ : En, ρ[1]? = some (some (.tup ds)) → iRng1' (aCons (eFn vLen (aCons (eVar 1) aNil)) aNil) ρ μ = .ok (.fix ((List.range ds.length).map fun (i : Nat) => DV.int (i : Int))) μ := by
    intro ρ hρ
    rw [iRng1_ap]
    simp only [eFn_ap, aCons_ap, aNil_ap, eVar_ap, hρ, ac1_ok, ac2_ok, mk_ok, vLen_t, of_some, rg1_ok]
    rw [rng_n hl, of_some]
  have hlc : eLc (iRng1' (aCons (eFn vLen (aCons (eVar 1) aNil)) aNil)) (gN 3) tYes' (eCall (f__law_same (k + 1)) (aCons (eBin vIx (eVar 0) (eVar 3)) (aCons (eBin vIx (eVar 1) (eVar 3)) aNil))) [3] [some (.tup ds), some (.tup ds), none, none, none] μ = .ok (.lst ((List.range ds.length).map fun _ => DV.bl true)) μ := by
    rw [eLc_ap, wp, hrg _ rfl, lc_rng hl, hc, mk_ok]
  have hall : eFn vAll (aCons (eLc (iRng1' (aCons (eFn vLen (aCons (eVar 1) aNil)) aNil)) (gN 3) tYes' (eCall (f__law_same (k + 1)) (aCons (eBin vIx (eVar 0) (eVar 3)) (aCons (eBin vIx (eVar 1) (eVar 3)) aNil))) [3]) aNil) [some (.tup ds), some (.tup ds), none, none, none] μ = .ok (.bl true) μ := by
    rw [eFn_ap, aCons_ap, hlc, ac1_ok, aNil_ap, ac2_ok, mk_ok, hv, of_some]
  show SR.fin .fz μ.length (_ : SR) = _
  generalize eFn vAll (aCons (eLc (iRng1' (aCons (eFn vLen (aCons (eVar 1) aNil)) aNil)) (gN 3) tYes' (eCall (f__law_same (k + 1)) (aCons (eBin vIx (eVar 0) (eVar 3)) (aCons (eBin vIx (eVar 1) (eVar 3)) aNil))) [3]) aNil) = E at hall ⊢
  simp [T7.sub, hall]
theorem same_bool {r : Bool} : f__law_same 6 [.lst [.bl r, .bl r], .lst [.bl r, .bl r]] μ = .ok (.bl true) μ := same_list 4 rfl (by show 2 ≤ _; decide)
theorem same_poly (k : Nat) {P : List Pt} (hl : P.length ≤ 1000) : f__law_same (k + 3) [polyD P, polyD P] μ = .ok (.bl true) μ := by
  refine same_tup (k + 1) (fun d hd => ?_) (by rw [List.length_map]; exact hl)
  obtain ⟨p, hp, rfl⟩ := List.mem_map.mp hd
  refine same_tup k (fun d hd => ?_) (by show 2 ≤ _; decide)
  simp only [List.mem_cons, List.not_mem_nil, or_false] at hd
  rcases hd with rfl | rfl <;> exact same_leaf k rfl
theorem same_tri {r : Bool} {P : List Pt} {a : Int} (hl : P.length ≤ 1000) : f__law_same 6 [.lst [.bl r, polyD P, .int a], .lst [.bl r, polyD P, .int a]] μ = .ok (.bl true) μ := by
  refine same_lst 4 (fun d hd => ?_) (by show 3 ≤ _; decide)
  simp only [List.mem_cons, List.not_mem_nil, or_false] at hd
  rcases hd with rfl | rfl | rfl
  · exact same_leaf 4 rfl
  · exact same_poly 2 hl
  · exact same_leaf 4 rfl
theorem same_tri2 {r : Bool} {P : List Pt} {a : Int} (hl : P.length ≤ 1000) : f__law_same 6 [.lst [.bl r, .int a, polyD P], .lst [.bl r, .int a, polyD P]] μ = .ok (.bl true) μ := by
  refine same_lst 4 (fun d hd => ?_) (by show 3 ≤ _; decide)
  simp only [List.mem_cons, List.not_mem_nil, or_false] at hd
  rcases hd with rfl | rfl | rfl
  · exact same_leaf 4 rfl
  · exact same_leaf 4 rfl
  · exact same_poly 2 hl
end
theorem p1_pts {P : List Pt} : (P.map ptD).all p1 = true := by
  rw [List.all_eq_true]
  intro d hd
  obtain ⟨p, hp, rfl⟩ := List.mem_map.mp hd
  rfl
theorem p2_poly {P : List Pt} : p2 (polyD P) = true := p1_pts
theorem odd_ok (b : Bx) : Ex p2 (f__law_odd [.cell 0] [enc b]) := by
  unfold f__law_odd
  rw [runF1]
  unfold b__law_odd
  have d0 : ∀ ρ μ, eDct0 ρ μ = .ok (.dct [] []) μ := fun _ _ => rfl
  have d1 : ∀ ρ μ, ∃ ks xs, eDct [((eC (.str "a")), (eC (.int 1)))] ρ μ = .ok (.dct ks xs) μ := fun _ _ => ⟨_, _, rfl⟩
  obtain ⟨ks, xs, d1⟩ := d1 [some (.cell 0)] [enc b]
  simp [mkL_small, d0, d1, pick_s, Ex_ok]
  refine pk_all (by simp) (by simp) ?_
  simp [p2, p1, p0]
theorem star_ok {μ : Sto} {P : List Pt} (h0 : 0 < P.length) (h7 : P.length ≤ 7) : ∃ Q, f__law_star [polyD P] μ = .ok (polyD Q) μ := by
  refine ⟨(List.range P.length).map fun k => cor P ((2 * k) % P.length), ?_⟩
  unfold f__law_star
  rw [runF1]
  unfold b__law_star
  have hc : compD (gN 2) tYes' (eBin vIx (eVar 0) (eBin vMod (eFn vInt (aCons (eBin vMul (eC (.int 2)) (eVar 2)) aNil)) (eVar 1))) [some (polyD P), some (.int (P.length : Int)), none] ((List.range P.length).map fun (i : Nat) => DV.int (i : Int)) μ = .ok ((List.range P.length).map fun k => ptD (cor P ((2 * k) % P.length))) μ := by
    refine compD_mapL _ _ _ fun k hk => ?_
    have hm : ∀ μ, vMod (.int (2 * (k : Int))) (.int (P.length : Int)) μ = some (.int (((2 * k) % P.length : Nat) : Int)) := fun μ => by
      rw [vMod_i (by omega)]
      have : (2 * (k : Int)) % (P.length : Int) = (((2 * k) % P.length : Nat) : Int) := by simp
      rw [this]
    have ml : ∀ y μ, vMul (.int 2) (.int y) μ = some (.int (2 * y)) := fun y μ => vMul_l (by decide)
    exact ⟨_, rfl, by simp only [eBin_ap, eVar_ap, gN_ap, eC_ap, eFn_ap, aCons_ap, aNil_ap, ac1_ok, ac2_ok, mk_ok, List.set_cons_succ, List.set_cons_zero, List.getElem?_cons_succ, List.getElem?_cons_zero, bin1_ok, bin2_ok, ml, of_some, vInt_i, hm, ix_cor (Nat.mod_lt _ h0)]⟩
  have ht : ∀ xs, vTuple [.lst xs] μ = some (.tup xs) := fun _ => rfl
  have e : polyD ((List.range P.length).map fun k => cor P ((2 * k) % P.length)) = .tup ((List.range P.length).map fun k => ptD (cor P ((2 * k) % P.length))) := by unfold polyD; rw [List.map_map]; rfl
  rw [e]
  have wp : ∀ x, wipeE [some (polyD P), x, none] [2] = [some (polyD P), x, none] := fun _ => rfl
  have hrn := rng_n (n := P.length) (by omega)
  have lcr := fun t tt te ρ => lc_rng (μ := μ) (n := P.length) (by omega) (t := t) (tt := tt) (te := te) (ρ := ρ)
  simp only [sSeq_ap, sAsg_ap, eFn_ap, aCons_ap, eVar_ap, aNil_ap, List.cons_append, List.nil_append, List.replicate, List.getElem?_cons_succ, List.getElem?_cons_zero, ac1_ok, ac2_ok, mk_ok, len_poly, of_some, asg_ok, gN_ap, List.set_cons_succ, List.set_cons_zero, seq_nx, sRet_ap, eLc_ap, iRng1_ap, rg1_ok, hrn, wp, lcr, hc, ht, ret_ok, sfin_rt, fin_same]
/-! lists of corners -/
section
variable {μ : Sto}
theorem ixl_cor {P : List Pt} {k : Nat} (h : k < P.length) : vIx (.lst (P.map ptD)) (.int (k : Int)) μ = some (ptD (cor P k)) := by
  show atI (P.map ptD) (k : Int) = _
  rw [atI_nat (by simpa using h), List.getElem?_map, List.getElem?_eq_getElem h, cor_get h]
  rfl
theorem sl_to {P : List Pt} {k : Nat} (hk : k ≤ P.length) : vSlc (.lst (P.map ptD)) none (some (k : Int)) μ = some (.lst ((P.take k).map ptD)) := by
  show some (DV.lst (SD.cutD (P.map ptD) none (some (k : Int)))) = _
  unfold SD.cutD
  rw [HT.sIx_nat, HT.sIx_none, List.drop_zero, List.length_map, Nat.min_eq_left hk, Nat.sub_zero, List.map_take]
theorem sl_from {P : List Pt} {k : Nat} (hk : k ≤ P.length) : vSlc (.lst (P.map ptD)) (some (k : Int)) none μ = some (.lst ((P.drop k).map ptD)) := by
  show some (DV.lst (SD.cutD (P.map ptD) (some (k : Int)) none)) = _
  unfold SD.cutD
  rw [HT.sIx_nat, HT.sIx_none, List.length_map, Nat.min_eq_left hk, List.take_of_length_le (by rw [List.length_drop, List.length_map]; omega), List.map_drop]
theorem st_to {P : List Pt} {k : Nat} (hk : k ≤ P.length) : vSlc (polyD P) none (some (k : Int)) μ = some (.tup ((P.take k).map ptD)) := by
  show some (DV.tup (SD.cutD (P.map ptD) none (some (k : Int)))) = _
  unfold SD.cutD
  rw [HT.sIx_nat, HT.sIx_none, List.drop_zero, List.length_map, Nat.min_eq_left hk, Nat.sub_zero, List.map_take]
theorem st_from {P : List Pt} {k : Nat} (hk : k ≤ P.length) : vSlc (polyD P) (some (k : Int)) none μ = some (.tup ((P.drop k).map ptD)) := by
  show some (DV.tup (SD.cutD (P.map ptD) (some (k : Int)) none)) = _
  unfold SD.cutD
  rw [HT.sIx_nat, HT.sIx_none, List.length_map, Nat.min_eq_left hk, List.take_of_length_le (by rw [List.length_drop, List.length_map]; omega), List.map_drop]
theorem vAdd_t {xs ys : List DV} (h : xs.length + ys.length ≤ 16777216) : vAdd (.tup xs) (.tup ys) μ = some (.tup (xs ++ ys)) := by
  show (if okLen (xs.length + ys.length) = true then some (DV.tup (xs ++ ys)) else none) = _
  rw [if_pos (okLen_small h)]
end
def dbl (p : Pt) : Pt := (2 * p.1, 2 * p.2)
theorem line_ok {P : List Pt} (b : Bx) (h0 : 0 < P.length) (h7 : P.length ≤ 7) : ∃ Q b', f__law_in_line [.cell 0, polyD P] [enc b] = .ok (polyD Q) [enc b'] := by
  obtain ⟨gr, hgr⟩ : ∃ gr, gr = P.map dbl := ⟨_, rfl⟩
  have gl : gr.length = P.length := by rw [hgr, List.length_map]
  have k0 := tk_lo (b := b) (many := (gr.length : Int)) (by omega) (by omega)
  have k1 := tk_hi (b := b) (many := (gr.length : Int)) (by omega) (by omega)
  have tk1 := take_s (b := b) (many := (gr.length : Int)) (by omega) (by omega)
  obtain ⟨j, hj⟩ := Int.eq_ofNat_of_zero_le k0
  rw [hj] at tk1 k1
  have hjl : j < gr.length := by omega
  generalize tkB b (gr.length : Int) = b1 at tk1
  have lcP : ∀ t tt te ρ, R.lc1 (.ok (.fix (P.map ptD)) [enc b]) t tt te ρ = compD t tt te ρ (P.map ptD) [enc b] := fun t tt te ρ => lc_l (by rw [List.length_map]; omega)
  have hc : compD (gN 6) tYes' (eTup (aCons (eBin vMul (eC (.int 2)) (eBin vIx (eVar 6) (eC (.int 0)))) (aCons (eBin vMul (eC (.int 2)) (eBin vIx (eVar 6) (eC (.int 1)))) aNil))) [some (.cell 0), some (polyD P), none, none, none, none, none] (P.map ptD) [enc b] = .ok (gr.map ptD) [enc b] := by
    rw [hgr, List.map_map]
    have ml : ∀ y μ, vMul (.int 2) (.int y) μ = some (.int (2 * y)) := fun y μ => vMul_l (by decide)
    exact compD_mapL ptD (fun p => ptD (dbl p)) P fun p hp => ⟨_, rfl, by simp [ml]; rfl⟩
  have wp : wipeE [some (.cell 0), some (polyD P), none, none, none, none, none] [6] = [some (.cell 0), some (polyD P), none, none, none, none, none] := rfl
  have hl : ∀ μ, vLen [.lst (gr.map ptD)] μ = some (.int (gr.length : Int)) := fun μ => by
    show some (DV.int ((gr.map ptD).length : Nat)) = _
    rw [List.length_map]
  have hm : ∀ μ, vMod (.int ((j : Int) + 1)) (.int (gr.length : Int)) μ = some (.int ((nx gr.length j : Nat) : Int)) := fun μ => by
    rw [vMod_i (by omega)]
    have : ((j : Int) + 1) % (gr.length : Int) = (((j + 1) % gr.length : Nat) : Int) := by simp
    rw [this, nx_mod hjl]
  have x1 := fun μ => ixl_cor (μ := μ) hjl
  have x2 := fun μ => ixl_cor (μ := μ) (nx_lt hjl)
  have cj : ((j : Int) + 1) = ((j + 1 : Nat) : Int) := by simp
  have s1 : ∀ μ, vSlc (.lst (gr.map ptD)) none (some ((j : Int) + 1)) μ = some (.lst ((gr.take (j + 1)).map ptD)) := fun μ => by rw [cj]; exact sl_to hjl
  have s2 : ∀ μ, vSlc (.lst (gr.map ptD)) (some ((j : Int) + 1)) none μ = some (.lst ((gr.drop (j + 1)).map ptD)) := fun μ => by rw [cj]; exact sl_from hjl
  have ht : ∀ xs μ, vTuple [.lst xs] μ = some (.tup xs) := fun _ _ => rfl
  have hd : ∀ (u : Int) (μ : Sto), vDiv (.int u) (.int 2) μ = some (.int (u / 2)) := fun u μ => vDiv_i (by decide) (by decide)
  generalize cor gr j = p at *
  generalize cor gr (nx gr.length j) = q at *
  have a1 : ∀ (d : DV) μ, vAdd (.lst ((gr.take (j + 1)).map ptD)) (.lst [d]) μ = some (.lst ((gr.take (j + 1)).map ptD ++ [d])) := fun d μ => vAdd_l (by rw [List.length_map, List.length_take]; simp; omega)
  have a2 : ∀ (d : DV) μ, vAdd (.lst ((gr.take (j + 1)).map ptD ++ [d])) (.lst ((gr.drop (j + 1)).map ptD)) μ = some (.lst ((gr.take (j + 1)).map ptD ++ [d] ++ (gr.drop (j + 1)).map ptD)) := fun d μ => vAdd_l (by rw [List.length_append, List.length_map, List.length_map, List.length_take, List.length_drop]; simp; omega)
  refine ⟨gr.take (j + 1) ++ [((p.1 + q.1) / 2, (p.2 + q.2) / 2)] ++ gr.drop (j + 1), b1, ?_⟩
  have e : polyD (gr.take (j + 1) ++ [((p.1 + q.1) / 2, (p.2 + q.2) / 2)] ++ gr.drop (j + 1)) = .tup ((gr.take (j + 1)).map ptD ++ [.tup [.int ((p.1 + q.1) / 2), .int ((p.2 + q.2) / 2)]] ++ (gr.drop (j + 1)).map ptD) := by
    unfold polyD
    rw [List.map_append, List.map_append]
    rfl
  rw [e]
  generalize (gr.take (j + 1)).map ptD = A at *
  generalize (gr.drop (j + 1)).map ptD = C at *
  obtain ⟨vD, hvD⟩ : ∃ f : V2, f = vDiv := ⟨_, rfl⟩
  rw [← hvD] at hd
  unfold f__law_in_line
  rw [runF2]
  unfold b__law_in_line
  rw [← hvD]
  simp [wk_poly, lcP, wp, hc, hl, tk1, x1, x2, hm, s1, s2, a1, a2, hd, ht]
theorem bent_ok {P : List Pt} (b : Bx) (h0 : 0 < P.length) (h7 : P.length ≤ 7) : ∃ d b', f__law_bent [.cell 0, polyD P] [enc b] = .ok d [enc b'] ∧ p2 d = true := by
  have w0 := tk_lo (b := b) (many := 12) (by decide) (by decide)
  have w1 := tk_hi (b := b) (many := 12) (by decide) (by decide)
  have tk0 := take_s (b := b) (many := 12) (by decide) (by decide)
  generalize tkN b 12 = w at w0 w1 tk0
  generalize tkB b 12 = b1 at tk0
  have k0 := tk_lo (b := b1) (many := (P.length : Int)) (by omega) (by omega)
  have k1 := tk_hi (b := b1) (many := (P.length : Int)) (by omega) (by omega)
  have tk1 := take_s (b := b1) (many := (P.length : Int)) (by omega) (by omega)
  obtain ⟨j, hj⟩ := Int.eq_ofNat_of_zero_le k0
  rw [hj] at tk1 k1
  have hjl : j < P.length := by omega
  generalize tkB b1 (P.length : Int) = b2 at tk1
  have cj : ((j : Int) + 1) = ((j + 1 : Nat) : Int) := by simp
  have s1 : ∀ μ, vSlc (polyD P) none (some (j : Int)) μ = some (.tup ((P.take j).map ptD)) := fun μ => st_to (by omega)
  have s2 : ∀ μ, vSlc (polyD P) (some (j : Int)) none μ = some (.tup ((P.drop j).map ptD)) := fun μ => st_from (by omega)
  have s3 : ∀ μ, vSlc (polyD P) (some ((j : Int) + 1)) none μ = some (.tup ((P.drop (j + 1)).map ptD)) := fun μ => by rw [cj]; exact st_from hjl
  have s4 : ∃ xs, xs.all p1 = true ∧ ∀ μ, vSlc (polyD P) none (some 2) μ = some (.tup xs) := by
    refine ⟨(P.take (HT.sIx P.length P.length (some 2))).map ptD, p1_pts, fun μ => ?_⟩
    show some (DV.tup (SD.cutD (P.map ptD) none (some 2))) = _
    unfold SD.cutD
    rw [HT.sIx_none, List.drop_zero, List.length_map, Nat.sub_zero, List.map_take]
  obtain ⟨E2, pe, s4⟩ := s4
  have hx := fun μ => ix_cor (μ := μ) hjl
  generalize cor P j = q at hx
  have pa : ((P.take j).map ptD).all p1 = true := p1_pts
  have pb : ((P.drop j).map ptD).all p1 = true := p1_pts
  have pc : ((P.drop (j + 1)).map ptD).all p1 = true := p1_pts
  have la : ((P.take j).map ptD).length ≤ 7 := by rw [List.length_map, List.length_take]; omega
  have lb : ((P.drop j).map ptD).length ≤ 7 := by rw [List.length_map, List.length_drop]; omega
  have lc : ((P.drop (j + 1)).map ptD).length ≤ 7 := by rw [List.length_map, List.length_drop]; omega
  obtain ⟨yy, bm, em, _⟩ := mixed_g ptD (fun _ _ => rfl) b2 P (polyD P) (fun _ => rfl) (by omega)
  obtain ⟨bo, bb, eb, _⟩ := bowl_ok b2 7 (by decide) (by decide)
  have eb : f__law_bowl [.cell 0, .int 7] [enc b2] = .ok (polyD bo) [enc bb] := eb
  obtain ⟨lo, bl', el⟩ := line_ok b2 h0 h7
  obtain ⟨so, es⟩ := star_ok (μ := [enc b2]) h0 h7
  have ht : ∀ xs μ, vTuple [.lst xs] μ = some (.tup xs) := fun _ _ => rfl
  have hr : ∀ μ, revD μ (polyD P) = some (.tup (P.map ptD).reverse) := fun _ => rfl
  have hli : ∀ μ, vList [polyD P] μ = some (.lst (P.map ptD)) := fun _ => rfl
  have hlq : ∀ μ, vList [ptD q] μ = some (.lst [.int q.1, .int q.2]) := fun _ => rfl
  have prv : (P.map ptD).reverse.all p1 = true := by rw [List.all_reverse]; exact p1_pts
  generalize (P.take j).map ptD = A at *
  generalize (P.drop j).map ptD = B at *
  generalize (P.drop (j + 1)).map ptD = C at *
  have a0 : ∀ μ, vAdd (.tup A) (.tup C) μ = some (.tup (A ++ C)) := fun μ => vAdd_t (by omega)
  have a1 : ∀ (d : DV) μ, vAdd (.tup A) (.tup [d]) μ = some (.tup (A ++ [d])) := fun d μ => vAdd_t (by simp; omega)
  have a2 : ∀ (d : DV) μ, vAdd (.tup (A ++ [d])) (.tup C) μ = some (.tup (A ++ [d] ++ C)) := fun d μ => vAdd_t (by rw [List.length_append]; simp; omega)
  have a3 : ∀ (d : DV) μ, vAdd (.tup (A ++ [d])) (.tup B) μ = some (.tup (A ++ [d] ++ B)) := fun d μ => vAdd_t (by rw [List.length_append]; simp; omega)
  have pq : ∀ d, p1 d = true → p2 (.tup (A ++ [d] ++ C)) = true := fun d hd => by
    show (A ++ [d] ++ C).all p1 = true
    rw [List.all_append, List.all_append, pa, pc]
    simp [hd]
  unfold f__law_bent
  rw [runF2]
  unfold b__law_bent
  have hw : w = 0 ∨ w = 1 ∨ w = 2 ∨ w = 3 ∨ w = 4 ∨ w = 5 ∨ w = 6 ∨ w = 7 ∨ w = 8 ∨ w = 9 ∨ (10 ≤ w ∧ w ≤ 11) := by omega
  rcases hw with rfl | rfl | rfl | rfl | rfl | rfl | rfl | rfl | rfl | rfl | hw
  · exact ⟨polyD lo, bl', by simp [tk0, tk1, el], p2_poly⟩
  · exact ⟨.tup (P.map ptD).reverse, b2, by simp [tk0, tk1, eRev, hr], prv⟩
  · exact ⟨polyD so, b2, by simp [tk0, tk1, es], p2_poly⟩
  · refine ⟨.tup (A ++ [ptD q] ++ B), b2, by simp [tk0, tk1, s1, s2, hx, a1, a3], ?_⟩
    show (A ++ [ptD q] ++ B).all p1 = true
    rw [List.all_append, List.all_append, pa, pb]
    rfl
  · exact ⟨polyD bo, bb, by simp [tk0, tk1, eb], p2_poly⟩
  · exact ⟨.tup E2, b2, by simp [tk0, tk1, s4], pe⟩
  · exact ⟨.lst (P.map ptD), b2, by simp [tk0, tk1, hli], rfl⟩
  · exact ⟨.tup (A ++ [.lst [.int q.1, .int q.2]] ++ C), b2, by simp [tk0, tk1, s1, s3, hx, hlq, a1, a2], pq (.lst [.int q.1, .int q.2]) rfl⟩
  · refine ⟨.tup (A ++ C), b2, by simp [tk0, tk1, s1, s3, a0], ?_⟩
    show (A ++ C).all p1 = true
    rw [List.all_append, pa, pc]
    rfl
  · exact ⟨.tup (yy.map ptD), bm, by simp [tk0, tk1, em, ht], p1_pts⟩
  · have n0 : ¬ w = 0 := by omega
    have n1 : ¬ w = 1 := by omega
    have n2 : ¬ w = 2 := by omega
    have n3 : ¬ w = 3 := by omega
    have n4 : ¬ w = 4 := by omega
    have n5 : ¬ w = 5 := by omega
    have n6 : ¬ w = 6 := by omega
    have n7 : ¬ w = 7 := by omega
    have n8 : ¬ w = 8 := by omega
    have n9 : ¬ w = 9 := by omega
    have pk := pick_s (b := b2) (xs := [.non, .bl true, .int 201, .int (-201), .str "1", .tup [.int 0, .int 0, .int 0], .int (q.1 + 1), .int 200, .int (-200)]) (by show 0 < 9; decide) (by show 9 < _; decide)
    have pp : p0 (pkD b2 [.non, .bl true, .int 201, .int (-201), .str "1", .tup [.int 0, .int 0, .int 0], .int (q.1 + 1), .int 200, .int (-200)]) = true := pk_all (by show 0 < 9; decide) (by show 9 < _; decide) rfl
    generalize pkD b2 [.non, .bl true, .int 201, .int (-201), .str "1", .tup [.int 0, .int 0, .int 0], .int (q.1 + 1), .int 200, .int (-200)] = nw at pk pp
    generalize pkB b2 [.non, .bl true, .int 201, .int (-201), .str "1", .tup [.int 0, .int 0, .int 0], .int (q.1 + 1), .int 200, .int (-200)] = b3 at pk
    refine ⟨.tup (A ++ [.tup [nw, .int q.2]] ++ C), b3, by simp [tk0, tk1, n0, n1, n2, n3, n4, n5, n6, n7, n8, n9, hx, mkL_small, pk, s1, s3, a1, a2], pq _ ?_⟩
    show (p0 nw && (true && true)) = true
    rw [pp]
    rfl
theorem some_ok (b : Bx) : ∃ P b', f__law_some_poly [.cell 0] [enc b] = .ok (polyD P) [enc b'] ∧ Sz 1000 P := by
  have w0 := tk_lo (b := b) (many := 4) (by decide) (by decide)
  have w1 := tk_hi (b := b) (many := 4) (by decide) (by decide)
  have tk0 := take_s (b := b) (many := 4) (by decide) (by decide)
  generalize tkN b 4 = w at w0 w1 tk0
  generalize tkB b 4 = b1 at tk0
  unfold f__law_some_poly
  rw [runF1]
  unfold b__law_some_poly
  have hw : w = 0 ∨ w = 1 ∨ (2 ≤ w ∧ w ≤ 3) := by omega
  rcases hw with rfl | rfl | hw
  · obtain ⟨Ls, b2, e1, l0, l5, hg⟩ := shape_ok b1
    obtain ⟨P0, b3, e2, g2⟩ := pk_sh (b := b2) l0 l5 hg
    obtain ⟨z0, n0⟩ := gd_sz g2
    have k0 := tk_lo (b := b3) (many := 4) (by decide) (by decide)
    have k1 := tk_hi (b := b3) (many := 4) (by decide) (by decide)
    have tk1 := take_s (b := b3) (many := 4) (by decide) (by decide)
    obtain ⟨k, hk⟩ := Int.eq_ofNat_of_zero_le k0
    rw [hk] at tk1 k1
    have e4 := fun μ => quarter_l (μ := μ) (P := P0) (n := k) (by have := z0.len; omega) (by omega)
    exact ⟨quarts k P0, tkB b3 4, by simp [tk0, e1, e2, tk1, e4], z0.quarts.mono (by decide)⟩
  · have hq := pk_mem (b := b1) (xs := [[(-200, -200), (-200 + 400, -200), (-200 + 400, -200 + 400), (-200, -200 + 400)], [(-200, -200), (200, -200), (-199, -199)], [(200, 0), (100, 200), (-100, 200), (-200, 0), (-100, -200), (100, -200)]].map polyD) (by show 0 < 3; decide) (by show 3 < _; decide)
    obtain ⟨Q, hQ, eQ⟩ := List.mem_map.mp hq
    have pk := pick_s (b := b1) (xs := [[(-200, -200), (-200 + 400, -200), (-200 + 400, -200 + 400), (-200, -200 + 400)], [(-200, -200), (200, -200), (-199, -199)], [(200, 0), (100, 200), (-100, 200), (-200, 0), (-100, -200), (100, -200)]].map polyD) (by show 0 < 3; decide) (by show 3 < _; decide)
    rw [← eQ] at pk
    generalize pkB b1 ([[(-200, -200), (-200 + 400, -200), (-200 + 400, -200 + 400), (-200, -200 + 400)], [(-200, -200), (200, -200), (-199, -199)], [(200, 0), (100, 200), (-100, 200), (-200, 0), (-100, -200), (100, -200)]].map polyD) = b2 at pk
    have pk' : f__law_pick [.cell 0, .lst [polyD [(-200, -200), (-200 + 400, -200), (-200 + 400, -200 + 400), (-200, -200 + 400)], .tup [.tup [.int (-200), .int (-200)], .tup [.int 200, .int (-200)], .tup [.int (-199), .int (-199)]], .tup [.tup [.int 200, .int 0], .tup [.int 100, .int 200], .tup [.int (-100), .int 200], .tup [.int (-200), .int 0], .tup [.int (-100), .int (-200)], .tup [.int 100, .int (-200)]]]] [enc b1] = .ok (polyD Q) [enc b2] := pk
    refine ⟨Q, b2, ?_, ?_⟩
    · simp only [sSeq_ap, sAsg_ap, eCall_ap, aCons_ap, eVar_ap, aNil_ap, eC_ap, List.cons_append, List.nil_append, List.replicate, List.getElem?_cons_succ, List.getElem?_cons_zero, ac1_ok, ac2_ok, mk_ok, tk0, asg_ok, gN_ap, List.set_cons_succ, List.set_cons_zero, seq_nx, sIf_ap, tB_ap, eBin_ap, bin1_ok, bin2_ok, vEq_i, of_some, tb_ok, decide_true, sif_t, decide_false, sif_f, sNop_ap, sRet_ap, eLst_ap, eTup_ap, eUn_ap, un_ok, vNeg_i, rect_l, mkT_small, mkL_small, pk', ret_ok, seq_rt, sfin_rt, Int.reduceEq, List.length_cons, List.length_nil, Nat.reduceAdd, Nat.reduceLeDiff, mkT2, mkT3, mkL3, List.length_singleton, fin_cons1]
    · simp only [List.mem_cons, List.not_mem_nil, or_false] at hQ
      rcases hQ with rfl | rfl | rfl
      · exact ⟨by decide, by decide, by decide⟩
      · exact ⟨by decide, by decide, by decide⟩
      · exact ⟨by decide, by decide, by decide⟩
  · have n0 : ¬ w = 0 := by omega
    have n1 : ¬ w = 1 := by omega
    have l2 := tk_lo (b := b1) (many := 4) (by decide) (by decide)
    have h2 := tk_hi (b := b1) (many := 4) (by decide) (by decide)
    have tk1 := take_s (b := b1) (many := 4) (by decide) (by decide)
    obtain ⟨k, hk⟩ := Int.eq_ofNat_of_zero_le l2
    rw [hk] at tk1 h2
    generalize tkB b1 4 = b2 at tk1
    obtain ⟨P, b3, e, hg⟩ := bowl_ok b2 (3 + k) (by omega) (by omega)
    have hk3 : (3 : Int) + (k : Int) = ((3 + k : Nat) : Int) := by omega
    have e : f__law_bowl [.cell 0, .int (3 + (k : Int))] [enc b2] = .ok (polyD P) [enc b3] := by rw [hk3]; exact e
    obtain ⟨z0, _⟩ := gd_sz hg
    have u0 := tk_lo (b := b3) (many := 41) (by decide) (by decide)
    have u1 := tk_hi (b := b3) (many := 41) (by decide) (by decide)
    have v0 := tk_lo (b := tkB b3 41) (many := 41) (by decide) (by decide)
    have v1 := tk_hi (b := tkB b3 41) (many := 41) (by decide) (by decide)
    have e3 := fun u v μ => sent_l (μ := μ) (P := P) (u := u) (v := v) (by have := z0.len; omega)
    exact ⟨P.map (sent (tkN b3 41 - 20) (tkN (tkB b3 41) 41 - 20)), tkB (tkB b3 41) 41, by simp [tk0, n0, n1, tk1, e, take_s, e3], (z0.sent (C := 100) (by omega) (by omega)).mono (by decide)⟩
end Lw

set_option Elab.async false
set_option linter.all false
set_option maxRecDepth 100000
set_option maxHeartbeats 4000000
namespace Lw
open PySem PySem.Spec PyProof.Rows L2 SD
theorem polyB_rot {P : List Pt} (h : polyB P = true) {k : Nat} (hk : k ≤ P.length) : polyB (rot k P) = true := by
  obtain ⟨h1, h2, h3⟩ := polyB_iff.mp h
  refine polyB_iff.mpr ⟨h1.rot hk, by rw [rot_len]; exact h2, ?_⟩
  rw [List.all_eq_true] at h3 ⊢
  exact fun p hp => h3 p (rot_mem.mp hp)
theorem polyB_flip {P : List Pt} (h : polyB P = true) : polyB (flip' P) = true := by
  obtain ⟨h1, h2, h3⟩ := polyB_iff.mp h
  refine polyB_iff.mpr ⟨h1.flip, by rw [flip_len]; exact h2, ?_⟩
  rw [List.all_eq_true] at h3 ⊢
  intro p hp
  obtain ⟨q, hq, rfl⟩ := flip_mem.mp hp
  have := h3 q hq
  unfold sp in2 mirr at *
  simp only [Bool.and_eq_true, decide_eq_true_eq] at *
  omega
theorem polyB_told {P : List Pt} (h : polyB P = true) : polyB (told P) = true := polyB_rot h (Nat.le_of_lt (tj_lt (by have := (polyB_iff.mp h).1.len; omega)))
/-- one corner on -/
theorem late_ok {P : List Pt} (h : polyB P = true) {k : Nat} (hk : k < P.length) (a b c d e y z : Option DV) (μ : Sto) :
    sSeq (sAsg (eBin vAdd (eSl vSlc (eVar 4) (oSome (eVar 8)) oNone) (eSl vSlc (eVar 4) oNone (oSome (eVar 8)))) (gN 9))
    (sIf (tNot' (tB' (eCall (f__law_same 6) (aCons (eLst (aCons (eCall f_is_part (aCons (eVar 9) aNil)) (aCons (eCall f_part_told (aCons (eVar 9) aNil)) (aCons (eCall f_area_twice (aCons (eVar 9) aNil)) aNil)))) (aCons (eLst (aCons (eC (.bl true)) (aCons (eVar 6) (aCons (eVar 7) aNil)))) aNil))))) (sRet (eC (.bl false))) sNop)
    [a, b, c, d, some (polyD P), e, some (polyD (told P)), some (.int (area P)), some (.int (k : Int)), y, z] μ =
    .nx [a, b, c, d, some (polyD P), e, some (polyD (told P)), some (.int (area P)), some (.int (k : Int)), some (polyD (rot k P)), z] μ := by
  obtain ⟨h1, h2, h3⟩ := polyB_iff.mp h
  have hl := h1.len
  obtain ⟨v1, v2, v3⟩ := rot_v (μ := μ) hk (by omega)
  have hr := polyB_rot h (Nat.le_of_lt hk)
  obtain ⟨r1, r2, r3⟩ := polyB_iff.mp hr
  have p1 := part_p (μ := μ) (P := rot k P)
  rw [hr] at p1
  have p2 := told_p (μ := μ) r1 r2
  rw [told_rot h1 (Nat.le_of_lt hk)] at p2
  have p3 := area_p (μ := μ) (sp_Bd r3) r1.len r2
  rw [area_rot hl h2 hk] at p3
  have hs := same_tri (μ := μ) (r := true) (P := told P) (a := area P) (by unfold told; rw [rot_len]; omega)
  simp [v1, v2, v3, p1, p2, p3, hs]
theorem turn_ok : ∃ bd, b_law = sSeq (sAsg (eCall f__law_box (aCons (eVar 0) (aCons (eC (.int 120320303)) aNil))) (gN 1)) (sSeq (sFor (iRng1' (aCons (eC (.int 10)) aNil)) (gN 2) bd) (sRet (eC (.bl true)))) ∧
    ∀ (s t : DV) (x3 x4 x5 x6 x7 x8 x9 xa : Option DV) (b : Bx), ∃ y3 y4 y5 y6 y7 y8 y9 ya b', bd [some s, some (.cell 0), some t, x3, x4, x5, x6, x7, x8, x9, xa] [enc b] = .nx [some s, some (.cell 0), some t, y3, y4, y5, y6, y7, y8, y9, ya] [enc b'] := by
  refine ⟨_, rfl, ?_⟩
  intro s t x3 x4 x5 x6 x7 x8 x9 xa b
  obtain ⟨P0, b1, e1, z0⟩ := some_ok b
  have hp0 := z0.pos
  have hp7 := z0.len
  obtain ⟨d1, b2, e2, q1⟩ := bent_ok b1 hp0 hp7
  obtain ⟨d2, b3, e3, q2⟩ := bent_ok b2 hp0 hp7
  obtain ⟨d3, b4, e4, q3⟩ := bent_ok b3 hp0 hp7
  obtain ⟨d4, b5, e5, q4⟩ := odd_ok b4
  have q0 : p2 (polyD P0) = true := p2_poly
  generalize polyD P0 = D0 at *
  have pk := pick_s (b := b5) (xs := [D0, d1, d2, d3, d4]) (by show 0 < 5; decide) (by show 5 < _; decide)
  have pp : p2 (pkD b5 [D0, d1, d2, d3, d4]) = true := pk_all (by show 0 < 5; decide) (by show 5 < _; decide) (by simp [q0, q1, q2, q3, q4])
  generalize pkD b5 [D0, d1, d2, d3, d4] = x at pk pp
  generalize pkB b5 [D0, d1, d2, d3, d4] = b6 at pk
  obtain ⟨r, f1, f2, f3⟩ := poly_x (μ := [enc b6]) pp
  have hs := same_bool (μ := [enc b6]) (r := r)
  cases r with
  | false =>
    refine ⟨some D0, some x, some (.bl false), x6, x7, x8, x9, xa, b6, ?_⟩
    simp [e1, e2, e3, e4, e5, mkL5, pk, f1, f2, permL, hs]
  | true =>
    obtain ⟨P, rfl, hB⟩ := f3 rfl
    obtain ⟨h1, h2, h3⟩ := polyB_iff.mp hB
    have hl := h1.len
    have t1 := told_l (μ := [enc b6]) h1 h2
    have a1 := area_l (μ := [enc b6]) (sp_Bd h3) h2
    have hrn := rng_n (n := P.length) (by omega)
    have hF := fun k (hk : k < P.length) y z => late_ok hB hk (some s) (some (.cell 0)) (some t) (some D0) (some (.bl true)) y z [enc b6]
    generalize hFF : (sSeq (sAsg (eBin vAdd (eSl vSlc (eVar 4) (oSome (eVar 8)) oNone) (eSl vSlc (eVar 4) oNone (oSome (eVar 8)))) (gN 9))
    (sIf (tNot' (tB' (eCall (f__law_same 6) (aCons (eLst (aCons (eCall f_is_part (aCons (eVar 9) aNil)) (aCons (eCall f_part_told (aCons (eVar 9) aNil)) (aCons (eCall f_area_twice (aCons (eVar 9) aNil)) aNil)))) (aCons (eLst (aCons (eC (.bl true)) (aCons (eVar 6) (aCons (eVar 7) aNil)))) aNil))))) (sRet (eC (.bl false))) sNop)) = F at hF ⊢
    obtain ⟨ρ', μ', el, ⟨y8, y9, hρ⟩, hμ⟩ := loopD_inv (t := gN 8) (f := F) (fun ρ μ => (∃ y8 y9, ρ = [some s, some (.cell 0), some t, some D0, some (polyD P), some (.bl true), some (polyD (told P)), some (.int (area P)), y8, y9, xa]) ∧ μ = [enc b6]) ((List.range P.length).map fun (i : Nat) => DV.int (i : Int))
      [some s, some (.cell 0), some t, some D0, some (polyD P), some (.bl true), some (polyD (told P)), some (.int (area P)), x8, x9, xa] [enc b6] ⟨⟨_, _, rfl⟩, rfl⟩ (by
        rintro d hd ρ μ ⟨⟨y8, y9, rfl⟩, rfl⟩
        obtain ⟨k, hk, rfl⟩ := List.mem_map.mp hd
        exact ⟨_, rfl, _, _, .inl (hF k (List.mem_range.mp hk) y9 xa), ⟨_, _, rfl⟩, rfl⟩)
    subst hρ hμ
    have fl := flip_l (μ := [enc b6]) (P := P) (by omega)
    have hfB := polyB_flip hB
    obtain ⟨g1, g2, g3⟩ := polyB_iff.mp hfB
    have p1 := part_p (μ := [enc b6]) (P := flip' P)
    rw [hfB] at p1
    have p3 := area_p (μ := [enc b6]) (sp_Bd g3) g1.len g2
    rw [area_flip hl h2] at p3
    have htB := polyB_told hB
    obtain ⟨t2, t3, t4⟩ := polyB_iff.mp htB
    have p4 := told_p (μ := [enc b6]) t2 t3
    rw [told_told h1] at p4
    have hs2 := same_tri2 (μ := [enc b6]) (r := true) (P := told P) (a := area P) (by omega)
    refine ⟨some D0, some (polyD P), some (.bl true), some (polyD (told P)), some (.int (area P)), y8, y9, some (polyD (flip' P)), b6, ?_⟩
    simp [e1, e2, e3, e4, e5, mkL5, pk, f1, f2, permL, hs, t1, a1, hrn, el, fl, p1, p3, p4, hs2]
theorem plain (ns : List Int) (h : ns.length ≤ 63) : ∃ μ, f_law [.scr (ns.map .int)] [] = .ok (.bl true) μ := by
  obtain ⟨bd, e, ht⟩ := turn_ok
  obtain ⟨b, hb⟩ := box_ok ns 120320303
  refine ⟨[], ?_⟩
  unfold f_law
  rw [runF1, e]
  obtain ⟨ρ', μ', el, ⟨x2, x3, x4, x5, x6, x7, x8, x9, xa, hρ⟩, b', hμ⟩ := loopD_inv (t := gN 2) (f := bd) (fun ρ μ => (∃ x2 x3 x4 x5 x6 x7 x8 x9 xa, ρ = [some (.scr (ns.map .int)), some (.cell 0), x2, x3, x4, x5, x6, x7, x8, x9, xa]) ∧ ∃ b, μ = [enc b]) ((List.range 10).map fun (i : Nat) => DV.int (i : Int)) [some (.scr (ns.map .int)), some (.cell 0), none, none, none, none, none, none, none, none, none] [enc b] ⟨⟨_, _, _, _, _, _, _, _, _, rfl⟩, b, rfl⟩ (by
    rintro d hd ρ μ ⟨⟨x2, x3, x4, x5, x6, x7, x8, x9, xa, rfl⟩, b, rfl⟩
    obtain ⟨y3, y4, y5, y6, y7, y8, y9, ya, b', q⟩ := ht (.scr (ns.map .int)) d x3 x4 x5 x6 x7 x8 x9 xa b
    exact ⟨_, rfl, _, _, .inl q, ⟨_, _, _, _, _, _, _, _, _, rfl⟩, b', rfl⟩)
  subst hρ hμ
  have r12 : rngOf1 [.int 10] = some (.fix ((List.range 10).map fun (i : Nat) => DV.int (i : Int))) := rng_n (n := 10) (by decide)
  have hf : fin .fz 0 (.bl true) [enc b'] = .ok (.bl true) [] := rfl
  simp only [sSeq_ap, sAsg_ap, eCall_ap, aCons_ap, eVar_ap, aNil_ap, eC_ap, List.cons_append, List.nil_append, List.replicate, List.getElem?_cons_zero, ac1_ok, ac2_ok, mk_ok, hb, asg_ok, gN_ap, List.set_cons_succ, List.set_cons_zero, seq_nx, sFor_ap, iRng1_ap, rg1_ok, r12, of_some, for1_fix, el, sRet_ap, ret_ok, sfin_rt, List.length_nil, hf]
end Lw

set_option Elab.async false
set_option linter.all false
set_option maxRecDepth 100000
set_option maxHeartbeats 4000000
namespace Lw
open PySem PySem.Spec PyProof.Rows L2 SD
def loose0 : List Str := ["__name__", "FARTHEST", "is_whole", "is_number", "is_pair", "is_point", "cross", "LEAST_CORNERS", "MOST_CORNERS", "left_of", "is_part", "part_told", "edges", "area_twice", "_law_box", "_law_take", "_law_pick", "_law_mixed", "_law_same", "_law_odd", "_law_cross", "_law_turn", "_law_is_whole", "_law_is_spot", "_law_edges", "_law_is_poly", "_law_told", "_law_area", "_law_sent", "_law_quarter"]
def loose1 : List Str := ["_law_flipped", "_law_rect", "_law_bowl", "_law_shape", "_law_star", "_law_in_line", "_law_bent", "_law_some_poly"]
def loose : List Str := loose0 ++ loose1
abbrev R0 : PySem.W.OpenRow := PySem.W.OpenLaw.row PySem.Challenge.rw_stucklots_k03_parts_judged
abbrev hk : PySem.W.Hook := He.hookD 4 fa fn
def ob (s : PySem.W.SharedT) : He.AlD := He.obsDG 4 fa fn (HandSHeadRun.getT s)
theorem ob_eq (s : PySem.W.SharedT) : ob s = hk.obs s.abs := He.obsDG_eq (HandSHeadRun.getT_eq s)
theorem run (w : World) : HandSHeadRun.RunEq R0 (PySem.W.view R0.prog [41]) hk ob 4000 loose w := by
  intro os
  kernel_rfl
theorem facts {w : World} {K : PySem.W.Frag} {h : Heap} {mg : Str → Option Value} {f : Addr} (X : K.In h) (G : h.Ns mainGlobals mg) (hfa : mg ("law" : Str) = some (.ref f)) (c : He.SaysD fa fn K) :
    ∃ fd : FuncData, (∀ (s : Shared) (v : Value), BindsTo s fd ⟨[v], []⟩ [("script", v)]) ∧ ∀ base : Heap, K.In base → base.Ns mainGlobals mg → FnOk PySem.Challenge.rw_stucklots_k03_parts_judged.prog w K mg base (L2.CX PySem.Challenge.rw_stucklots_k03_parts_judged.prog w) 7 f fd ["script"] (spF (gK K) f_law 1) := by
  have T : Hd fa fn K mg := ⟨h, X, G, c⟩
  obtain ⟨fd, F⟩ := fd_law T
  have e := hfa.symm.trans (T.glo 51)
  cases e
  have b := FunD.bindsA (ps := ["script"]) F fun _ _ _ _ _ _ us hl => match us, hl with | [_], _ => rfl
  exact ⟨fd, fun s v => b s [v] rfl, fun base _ _ => gf_ok F sc_law (fb_law T)⟩
theorem sp_law {K : PySem.W.Frag} {H : Hp} {a : Addr} {ns : List Int} (hl : ns.length ≤ 63) (hS : SqL K H a (ns.map V.int)) : spF (gK K) f_law 1 [.ref a] H (fun v _ => v = .bl true) (fun _ _ _ => False) := by
  refine ⟨rfl, ⟨[], []⟩, [.scr (ns.map .int)], [], RelL.cons ?_ RelL.nil, ⟨rfl, fun i j a h => by simp at h, fun i c h => by simp at h, fun a h => by simp at h⟩, ?_⟩
  · simp only [Rel]
    refine ⟨a, ns.map V.int, rfl, ?_, RelL.ints ns⟩
    have no : ∀ b : Addr, ¬ KA.has ⟨[], []⟩ b := fun b m => by rcases m with m | m <;> simp at m
    rcases hS with (h | ⟨o, h⟩) | h
    · exact .inl ⟨h, no a⟩
    · exact .inr (.inl ⟨o, h, no a⟩)
    · exact .inr (.inr h)
  · obtain ⟨μ, e⟩ := plain ns hl
    rw [e]
    intro κ' H' _ _ v rv
    simpa only [Rel] using rv
end Lw
open PySem PySem.W PySem.Calls PyProof.Rows
set_option maxRecDepth 100000 in
set_option maxHeartbeats 0 in
theorem PySem.Challenge.cw_stucklots_k03_parts_judged_holds : PySem.Challenge.rw_stucklots_k03_parts_judged.Holds := by
  w_on; o_law
  refine HandSHeadRun.head_any (r := OpenLaw.row PySem.Challenge.rw_stucklots_k03_parts_judged) (q := view (OpenLaw.row PySem.Challenge.rw_stucklots_k03_parts_judged).prog [41]) (H := Lw.hk) (ob := Lw.ob) (M := 4000) (loose := Lw.loose) (d := HandSHeadRun.topDef (OpenLaw.row PySem.Challenge.rw_stucklots_k03_parts_judged).prog 41) (kwd := []) Lw.ob_eq
    (by kernel_rfl) (fun s => by kernel_rfl) Lw.run (by kernel_rfl) (by kernel_rfl) (by kernel_rfl) (by rfl) (by first | assumption | decide +kernel) (by decide +kernel) ⟨rfl, rfl, rfl, rfl, rfl, by decide +kernel⟩ ?hw ?hc
  case hw => w_witness2
  case hc =>
    refine SD.walk_W (l := PySem.Challenge.rw_stucklots_k03_parts_judged) (n := 63) (k := 7) (x := "script") (CX := fun w => L2.CX PySem.Challenge.rw_stucklots_k03_parts_judged.prog w) rfl (by decide) (by kernel_rfl) ⟨rfl, by decide, by decide⟩ ?F (fun _ _ _ _ _ z => SD.noCX z)
    intro w mg fa h Y G hmg0
    obtain ⟨K, KX, c⟩ := Y
    have hmg : mg ("law" : PySem.Str) = some (.ref fa) := by
      have e : (HandSHeadRun.topDef (OpenLaw.row PySem.Challenge.rw_stucklots_k03_parts_judged).prog 41).name = ("law" : PySem.Str) := by kernel_rfl
      rw [← e]
      exact hmg0
    obtain ⟨fd, hb, hF⟩ := Lw.facts (w := w) KX G hmg c
    exact ⟨K, fd, SD.spF (Lw.gK K) Lw.f_law 1, KX, hb, fun H a ns hl _ hS => Lw.sp_law hl hS, hF⟩
