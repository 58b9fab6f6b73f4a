import PyProof.Rows.All
import Wide.All
import OpenK.AllK
import Wide.FinOn
import HandS.ForMost
import HandS.ForExc
import HandS.TupAny
import HandS.TupLe
import HandS.Deep
import HandS.Wide
import HandS.IsInst
import HandS.Flow
import HandS.Lambda
import HandS.Small
import HandS.Dict
import HandS.Iter
import HandS.More
import HandS.Style
import HandS.NoneIn
import HandS.EndTab
import HandS.ExcOwn
import HandS.Defaults
import HandS.Strs
import HandS.ExcIs
import HandS.HotCalls
import HandS.SortRule
import HandS.SortInts
import HandS.TupSets
import KE.GoesEnum
import HandS.ListItems
import PySem.Challenge.RW_gridsym_k69_which_symmetries_keep_a_patt
set_option Elab.async false
set_option linter.all false
set_option maxRecDepth 100000
/-! the data layer: values as PyData, bindings of a frame's slots, what an expression does as a function of the bindings -/
namespace G
open PySem PySem.Spec PyProof.Rows L2
abbrev St := L2.St
def kD : Key → PyData
  | .inl i => .int i
  | .inr x => .str x
/-- a list that nobody writes: frozen, or of the module -/
def LstR (K : PySem.W.Frag) (H : Hp) (a : Addr) (xs : List V) : Prop :=
  (∃ o, H a = some (.frz o (.lst xs))) ∨
    ∃ (its : List Value) (n : Nat), K.lookup a = some { cls := .type "list", data := .seq its.toArray n } ∧ its.length ≤ sizeLine ∧ Vals xs its
/-- a list that is read -/
def LstX (K : PySem.W.Frag) (H : Hp) (a : Addr) (xs : List V) : Prop := H a = some (.lst xs) ∨ LstR K H a xs
/-- a table of code objects: it grows as lambdas are made -/
def isTb : HO → Prop
  | .tbl _ => True
  | _ => False
/-- tables when a list, dict .. is written -/
theorem tabs_upd {T : List (Addr × Str)} {H : Hp} {a : Addr} {o o' : HO} (t : LamX.Tabs T H) (e : H a = some o) (n1 : ¬ isTb o) (n2 : ∀ φ, o ≠ .ext φ) : LamX.Tabs T (upd H a o') := fun p hp => by
  obtain ⟨ps, h1, h2, h3⟩ := t p hp
  refine ⟨ps, ?_, h2, fun pos cv hc => ?_⟩
  · rw [upd_ne]
    · exact h1
    · intro z
      rw [z, e] at h1
      cases h1
      exact n1 trivial
  · obtain ⟨c, e1, e2⟩ := h3 pos cv hc
    refine ⟨c, e1, ?_⟩
    rw [upd_ne]
    · exact e2
    · intro z
      rw [z, e] at e2
      exact n2 _ (Option.some.inj e2)
/-- a dict; what may be locked while it is walked -/
def isDc : HO → Prop
  | .dK _ => True
  | _ => False
/-- the object stands there, or (a dict) stands there locked -/
def HasO (H : Hp) (a : Addr) (o : HO) : Prop := H a = some o ∨ (isDc o ∧ ∃ od, H a = some (.frz od o))
theorem HasO.lst {H : Hp} {a : Addr} {xs : List V} (h : HasO H a (.lst xs)) : H a = some (.lst xs) := by
  rcases h with h | ⟨h, _⟩
  · exact h
  · exact h.elim
theorem HasO.some {H : Hp} {a : Addr} {o : HO} (h : HasO H a o) : ∃ u, H a = some u := by
  rcases h with h | ⟨_, od, h⟩
  · exact ⟨_, h⟩
  · exact ⟨_, h⟩
mutual
/-- v is the datum d; its lists and dicts are shared ones (in S) -/
inductive Dr (K : PySem.W.Frag) (S : Addr → Prop) (H : Hp) : V → PyData → Prop
  | non : Dr K S H .non .none
  | bl (b : Bool) : Dr K S H (.bl b) (.bool b)
  | int (i : Int) : Dr K S H (.int i) (.int i)
  | str (x : Str) : Dr K S H (.str x) (.str x)
  | obj {a : Addr} {o : HO} {d : PyData} : HasO H a o → S a → Ct K S H o d → Dr K S H (.ref a) d
  | lstR {a : Addr} {xs : List V} {ds : List PyData} : LstR K H a xs → DrAll K S H xs ds → Dr K S H (.ref a) (.list ds)
  | tup {a : Addr} {xs : List V} {ds : List PyData} : SqT K H a xs → DrAll K S H xs ds → Dr K S H (.ref a) (.tuple ds)
inductive DrAll (K : PySem.W.Frag) (S : Addr → Prop) (H : Hp) : List V → List PyData → Prop
  | nil : DrAll K S H [] []
  | cons {v : V} {vs : List V} {d : PyData} {ds : List PyData} : Dr K S H v d → DrAll K S H vs ds → DrAll K S H (v :: vs) (d :: ds)
/-- what a list or dict object holds -/
inductive Ct (K : PySem.W.Frag) (S : Addr → Prop) (H : Hp) : HO → PyData → Prop
  | lst {xs : List V} {ds : List PyData} : DrAll K S H xs ds → Ct K S H (.lst xs) (.list ds)
  | dK {kvs : List (Key × V)} {ds : List PyData} : DrAll K S H (kvs.map (·.2)) ds → Ct K S H (.dK kvs) (.dict ((kvs.map fun p => kD p.1).zip ds))
  | dT {kvs : List (List Key × V)} {ds : List PyData} : DrAll K S H (kvs.map (·.2)) ds → Ct K S H (.dT kvs) (.dict ((kvs.map fun p => PyData.tuple (p.1.map kD)).zip ds))
end
theorem DrAll.length {K : PySem.W.Frag} {S : Addr → Prop} {H : Hp} : ∀ {vs : List V} {ds : List PyData}, DrAll K S H vs ds → vs.length = ds.length
  | [], _, h => by cases h; rfl
  | v :: vs, _, h => by
    cases h with
    | cons h1 h2 => simp only [List.length_cons]; rw [DrAll.length h2]
theorem DrAll.get {K : PySem.W.Frag} {S : Addr → Prop} {H : Hp} : ∀ {vs : List V} {ds : List PyData} {i : Nat} {d : PyData}, DrAll K S H vs ds → ds[i]? = some d → ∃ v, vs[i]? = some v ∧ Dr K S H v d
  | [], _, i, d, h, e => by cases h; simp at e
  | v :: vs, _, 0, d, h, e => by
    cases h with
    | cons h1 h2 => simp at e; subst e; exact ⟨v, rfl, h1⟩
  | v :: vs, _, i + 1, d, h, e => by
    cases h with
    | cons h1 h2 =>
      obtain ⟨u, e1, e2⟩ := DrAll.get (i := i) h2 (by simpa using e)
      exact ⟨u, by simpa using e1, e2⟩
theorem DrAll.append {K : PySem.W.Frag} {S : Addr → Prop} {H : Hp} : ∀ {vs us : List V} {ds es : List PyData}, DrAll K S H vs ds → DrAll K S H us es → DrAll K S H (vs ++ us) (ds ++ es)
  | [], _, _, _, h, h' => by cases h; exact h'
  | v :: vs, _, _, _, h, h' => by
    cases h with
    | cons h1 h2 => exact .cons h1 (DrAll.append h2 h')
theorem DrAll.drop {K : PySem.W.Frag} {S : Addr → Prop} {H : Hp} : ∀ {vs : List V} {ds : List PyData} (n : Nat), DrAll K S H vs ds → DrAll K S H (vs.drop n) (ds.drop n)
  | _, _, 0, h => h
  | [], _, n + 1, h => by cases h; exact .nil
  | v :: vs, _, n + 1, h => by
    cases h with
    | cons h1 h2 => exact DrAll.drop n h2
theorem DrAll.take {K : PySem.W.Frag} {S : Addr → Prop} {H : Hp} : ∀ {vs : List V} {ds : List PyData} (n : Nat), DrAll K S H vs ds → DrAll K S H (vs.take n) (ds.take n)
  | _, _, 0, h => .nil
  | [], _, n + 1, h => by cases h; exact .nil
  | v :: vs, _, n + 1, h => by
    cases h with
    | cons h1 h2 => exact .cons h1 (DrAll.take n h2)
theorem DrAll.set {K : PySem.W.Frag} {S : Addr → Prop} {H : Hp} {v : V} {d : PyData} (r : Dr K S H v d) : ∀ {vs : List V} {ds : List PyData} (n : Nat), DrAll K S H vs ds → DrAll K S H (vs.set n v) (ds.set n d)
  | [], _, _, h => by cases h; exact .nil
  | u :: vs, _, 0, h => by
    cases h with
    | cons h1 h2 => exact .cons r h2
  | u :: vs, _, n + 1, h => by
    cases h with
    | cons h1 h2 => exact .cons h1 (DrAll.set r n h2)
theorem DrAll.reverse {K : PySem.W.Frag} {S : Addr → Prop} {H : Hp} : ∀ {vs : List V} {ds : List PyData}, DrAll K S H vs ds → DrAll K S H vs.reverse ds.reverse
  | [], _, h => by cases h; exact .nil
  | v :: vs, _, h => by
    cases h with
    | cons h1 h2 => rw [List.reverse_cons, List.reverse_cons]; exact (DrAll.reverse h2).append (.cons h1 .nil)
/-- the data part of a step: what Dr leans on is kept -/
structure Ex (S : Addr → Prop) (H : Hp) (S' : Addr → Prop) (H' : Hp) : Prop where
  s : ∀ a, S a → S' a
  sh : ∀ a o, S a → ¬ isTb o → HasO H a o → HasO H' a o
  tup : ∀ a xs, H a = some (.tup xs) → H' a = some (.tup xs)
  frz : ∀ a o u, H a = some (.frz o u) → H' a = some (.frz o u)
theorem SqT.ex {K : PySem.W.Frag} {S S' : Addr → Prop} {H H' : Hp} (e : Ex S H S' H') {a : Addr} {xs : List V} (h : SqT K H a xs) : SqT K H' a xs := by
  rcases h with (h | ⟨o, h⟩) | h
  · exact .inl (.inl (e.tup _ _ h))
  · exact .inl (.inr ⟨o, e.frz _ _ _ h⟩)
  · exact .inr h
theorem LstR.ex {K : PySem.W.Frag} {S S' : Addr → Prop} {H H' : Hp} (e : Ex S H S' H') {a : Addr} {xs : List V} (h : LstR K H a xs) : LstR K H' a xs := by
  rcases h with ⟨o, h⟩ | h
  · exact .inl ⟨o, e.frz _ _ _ h⟩
  · exact .inr h
theorem LstR.sq {K : PySem.W.Frag} {H : Hp} {a : Addr} {xs : List V} (h : LstR K H a xs) : SqL K H a xs := by
  rcases h with ⟨o, h⟩ | ⟨its, n, h, z, v⟩
  · exact .inl (.inr ⟨o, h⟩)
  · exact .inr ⟨_, its.toArray, n, h, rfl, rfl, rfl, by simpa using z, by simpa using v⟩
theorem LstX.sq {K : PySem.W.Frag} {H : Hp} {a : Addr} {xs : List V} (h : LstX K H a xs) : SqL K H a xs := by
  rcases h with h | h
  · exact .inl (.inl h)
  · exact h.sq
theorem LstX.at_ {X : Cx} {pins : List (Addr × Obj)} {σ : St} {H : Hp} {s : Shared} {a : Addr} {xs : List V} (I : Inv X pins σ H s) (h : LstX X.K H a xs) :
    ∃ (its : List Value) (n : Nat), Vals xs its ∧ s.heap.get? a = some { cls := .type "list", data := .seq its.toArray n } ∧ xs.length ≤ sizeLine := by
  rcases h with h | ⟨o, h⟩ | ⟨its, n, h, z, v⟩
  · exact I.lst h
  · obtain ⟨e, q⟩ := (show ObjOk X.prog X.w H s.heap a (.frz o (.lst xs)) from I.hok a _ h)
    obtain ⟨z, its, n, r, e2⟩ := q
    exact ⟨its, n, r, e2, z⟩
  · exact ⟨its, n, v, I.kIn _ _ h, by rw [v.length]; exact z⟩
theorem Ct.notTb {K : PySem.W.Frag} {S : Addr → Prop} {H : Hp} {o : HO} {d : PyData} (h : Ct K S H o d) : ¬ isTb o := by cases h <;> exact fun z => z
theorem Ct.notExt {K : PySem.W.Frag} {S : Addr → Prop} {H : Hp} {o : HO} {d : PyData} (h : Ct K S H o d) : ∀ φ, o ≠ .ext φ := by cases h <;> exact fun _ z => nomatch z
theorem tb_dc {o : HO} (h : isTb o) : ¬ isDc o := by cases o <;> first | exact fun z => z | exact h.elim
theorem Dr.ex {K : PySem.W.Frag} {S S' : Addr → Prop} {H H' : Hp} (e : Ex S H S' H') {v : V} {d : PyData} (h : Dr K S H v d) : Dr K S' H' v d :=
  Dr.rec (motive_1 := fun v d _ => Dr K S' H' v d) (motive_2 := fun vs ds _ => DrAll K S' H' vs ds) (motive_3 := fun o d _ => Ct K S' H' o d)
    .non .bl .int .str (fun ha hs q hc => .obj (e.sh _ _ hs q.notTb ha) (e.s _ hs) hc) (fun hl _ h => .lstR (hl.ex e) h) (fun ht _ h => .tup (SqT.ex e ht) h)
    .nil (fun _ _ h1 h2 => .cons h1 h2) (fun _ h => .lst h) (fun _ h => .dK h) (fun _ h => .dT h) h
theorem DrAll.ex {K : PySem.W.Frag} {S S' : Addr → Prop} {H H' : Hp} (e : Ex S H S' H') : ∀ {vs : List V} {ds : List PyData}, DrAll K S H vs ds → DrAll K S' H' vs ds
  | [], _, h => by cases h; exact .nil
  | v :: vs, _, h => by
    cases h with
    | cons h1 h2 => exact .cons (h1.ex e) (DrAll.ex e h2)
theorem Ct.ex {K : PySem.W.Frag} {S S' : Addr → Prop} {H H' : Hp} (e : Ex S H S' H') {o : HO} {d : PyData} (h : Ct K S H o d) : Ct K S' H' o d := by
  cases h with
  | lst h => exact .lst (h.ex e)
  | dK h => exact .dK (h.ex e)
  | dT h => exact .dT (h.ex e)
/-- objects that Ct speaks of -/
theorem Ct.notTup {K : PySem.W.Frag} {S : Addr → Prop} {H : Hp} {xs : List V} {d : PyData} (h : Ct K S H (.tup xs) d) : False := by cases h
theorem Ct.notFrz {K : PySem.W.Frag} {S : Addr → Prop} {H : Hp} {o : Obj} {u : HO} {d : PyData} (h : Ct K S H (.frz o u) d) : False := by cases h
/-! ### bindings -/
/-- what is known of a slot: nothing; a datum; a list or dict that this frame alone holds; one that the caller handed to be written -/
inductive B where
  | un | val (d : PyData) | own (d : PyData) | prm (d : PyData) | exc (n : Str)
/-- what all frames know: the tables of code objects and the names in them, the classes of exceptions -/
structure Gx where
  T : List (Addr × Str)
  es : List (Str × Addr)
  /-- in an except suite: the address of the exception, and of its class -/
  pa : Addr := 0
  pc : Addr := 0
structure Ax where
  f : Nat → Option Addr
  g : Gx
instance : CoeFun Ax (fun _ => Nat → Option Addr) := ⟨Ax.f⟩
/-- what an expression gives: a datum; a new list or dict; what stands in slot i -/
inductive Ev where
  | val (d : PyData) | fr (d : PyData) | sl (i : Nat)
/-- a result: a value, an exception of the class of that name (and what is known of the slots), or nothing is said -/
inductive Rs (α : Type) where
  | ok (a : α) | ex (n : Str) (ρ : List B) | bad
def Rs.bind {α β : Type} (r : Rs α) (f : α → Rs β) : Rs β := match r with
  | .ok a => f a
  | .ex n ρ => .ex n ρ
  | .bad => .bad
instance : Monad Rs where
  pure := .ok
  bind := Rs.bind
abbrev SE := List B → Rs (Ev × List B)
def isOw : Option B → Bool
  | some (.own _) => true
  | some (.prm _) => true
  | _ => false
def OwI (σ : St) (ρ : List B) (i : Nat) (a : Addr) : Prop := isOw ρ[i]? = true ∧ σ[i]? = some (some (.ref a))
def Ow (σ : St) (ρ : List B) (a : Addr) : Prop := ∃ i, OwI σ ρ i a
def OwnAt (K : PySem.W.Frag) (S : Addr → Prop) (H : Hp) (a : Addr) (d : PyData) : Prop := ∃ o, H a = some o ∧ Ct K S H o d
def Bd (K : PySem.W.Frag) (A0 : Ax) (S : Addr → Prop) (H : Hp) (σ : St) (i : Nat) : B → Prop
  | .un => True
  | .val d => ∃ v, σ[i]? = some (some v) ∧ Dr K S H v d
  | .own d => ∃ a, σ[i]? = some (some (.ref a)) ∧ ¬ S a ∧ OwnAt K S H a d
  | .prm d => ∃ a, σ[i]? = some (some (.ref a)) ∧ A0 i = some a ∧ ¬ S a ∧ OwnAt K S H a d
  | .exc n => (n, A0.g.pc) ∈ A0.g.es ∧ σ[i]? = some (some (.ref A0.g.pa))
/-- the slots are as ρ tells -/
structure Rp (K : PySem.W.Frag) (A0 : Ax) (S : Addr → Prop) (H : Hp) (σ : St) (ρ : List B) : Prop where
  len : σ.length = ρ.length
  bd : ∀ i b, ρ[i]? = some b → Bd K A0 S H σ i b
  dis : ∀ i j a, OwI σ ρ i a → OwI σ ρ j a → i = j
  al : ∀ a, S a → ∃ o, H a = some o
  np : ∀ (i : Nat) (d : PyData) (a : Addr), ρ[i]? = some (B.own d) → σ[i]? = some (some (V.ref a)) → ∀ j, A0 j ≠ some a
  aa : ∀ j a, A0 j = some a → ∃ o, H a = some o
  tb : LamX.Tabs A0.g.T H
/-- what may have changed: the owned ones; S grows by what is new or was owned -/
structure Tr (S : Addr → Prop) (H : Hp) (O S' : Addr → Prop) (H' : Hp) (O' : Addr → Prop) : Prop where
  s : ∀ a, S a → S' a
  keep : ∀ a o, H a = some o → ¬ O a → H' a = some o ∨ (isDc o ∧ S' a ∧ ∃ od, H' a = some (.frz od o)) ∨ (isTb o ∧ ∃ o', isTb o' ∧ H' a = some o')
  dom : ∀ a o, H a = some o → ∃ o', H' a = some o'
  o : ∀ a, O' a → O a ∨ H a = none
  g : ∀ a, S' a → S a ∨ O a ∨ H a = none
theorem Tr.refl {S : Addr → Prop} {H : Hp} {O : Addr → Prop} : Tr S H O S H O := ⟨fun _ h => h, fun _ _ h _ => .inl h, fun _ o h => ⟨o, h⟩, fun _ h => .inl h, fun _ h => .inl h⟩
section
variable {S : Addr → Prop} {H : Hp} {O S' : Addr → Prop} {H' : Hp} {O' : Addr → Prop}
theorem Tr.keepN (t : Tr S H O S' H' O') {a : Addr} {o : HO} (h : H a = some o) (n : ¬ O a) (hd : ¬ isDc o) (ht : ¬ isTb o := by exact fun z => z) : H' a = some o := by
  rcases t.keep a o h n with q | ⟨q, _⟩ | ⟨q, _⟩
  · exact q
  · exact (hd q).elim
  · exact (ht q).elim
theorem Tr.keepS (t : Tr S H O S' H' O') {a : Addr} {o : HO} (h : H a = some o) (n : ¬ O a) (hs : ¬ S' a) (ht : ¬ isTb o := by exact fun z => z) : H' a = some o := by
  rcases t.keep a o h n with q | ⟨_, q, _⟩ | ⟨q, _⟩
  · exact q
  · exact (hs q).elim
  · exact (ht q).elim
theorem Tr.hasO (t : Tr S H O S' H' O') {a : Addr} {o : HO} (h : HasO H a o) (n : ¬ O a) (ht : ¬ isTb o) : HasO H' a o := by
  rcases h with h | ⟨hd, od, h⟩
  · rcases t.keep a o h n with q | ⟨q, _, od, e⟩ | ⟨q, _⟩
    · exact .inl q
    · exact .inr ⟨q, od, e⟩
    · exact (ht q).elim
  · exact .inr ⟨hd, od, t.keepN h n fun z => z⟩
end
theorem Tr.fresh {S : Addr → Prop} {H : Hp} {O S' : Addr → Prop} {H' : Hp} {O' : Addr → Prop} (t : Tr S H O S' H' O') {a : Addr} (h : H' a = none) : H a = none := by
  cases e : H a with
  | none => rfl
  | some o => obtain ⟨o', e'⟩ := t.dom a o e; rw [h] at e'; cases e'
theorem Tr.trans {S : Addr → Prop} {H : Hp} {O S1 : Addr → Prop} {H1 : Hp} {O1 S2 : Addr → Prop} {H2 : Hp} {O2 : Addr → Prop} (t : Tr S H O S1 H1 O1) (u : Tr S1 H1 O1 S2 H2 O2) : Tr S H O S2 H2 O2 := by
  refine ⟨fun a h => u.s a (t.s a h), fun a o h n => ?_, fun a o h => ?_, fun a h => ?_, fun a h => ?_⟩
  · have n1 : ¬ O1 a := fun z => by
      rcases t.o a z with q | q
      · exact n q
      · rw [h] at q; cases q
    rcases t.keep a o h n with q | ⟨q1, q2, od, q3⟩ | ⟨q1, o', q2, q3⟩
    · exact u.keep a o q n1
    · exact .inr (.inl ⟨q1, u.s a q2, od, u.keepN q3 n1 fun z => z⟩)
    · rcases u.keep a o' q3 n1 with p | ⟨p1, _⟩ | ⟨_, o2, p2, p3⟩
      · exact .inr (.inr ⟨q1, o', q2, p⟩)
      · exact (tb_dc q2 p1).elim
      · exact .inr (.inr ⟨q1, o2, p2, p3⟩)
  · obtain ⟨o', e⟩ := t.dom a o h
    exact u.dom a o' e
  · rcases u.o a h with q | q
    · exact t.o a q
    · exact .inr (t.fresh q)
  · rcases u.g a h with q | q | q
    · exact t.g a q
    · rcases t.o a q with z | z
      · exact .inr (.inl z)
      · exact .inr (.inr z)
    · exact .inr (.inr (t.fresh q))
section
variable {K : PySem.W.Frag} {A0 : Ax} {S S' : Addr → Prop} {H H' : Hp} {σ σ' : St} {ρ ρ' : List B} {O' : Addr → Prop}
theorem Rp.own (r : Rp K A0 S H σ ρ) {i : Nat} {a : Addr} (h : OwI σ ρ i a) : ¬ S a ∧ ∃ d, OwnAt K S H a d := by
  obtain ⟨h1, h2⟩ := h
  cases e : ρ[i]? with
  | none => rw [e] at h1; cases h1
  | some b =>
    rw [e] at h1
    have q := r.bd i b e
    cases b with
    | un => cases h1
    | val d => cases h1
    | own d =>
      obtain ⟨a', e1, e2, e3⟩ := q
      rw [h2] at e1; cases e1
      exact ⟨e2, d, e3⟩
    | prm d =>
      obtain ⟨a', e1, _, e2, e3⟩ := q
      rw [h2] at e1; cases e1
      exact ⟨e2, d, e3⟩
    | exc n => cases h1
theorem bd_exc (_ : Ex S H S' H') {i : Nat} {n : Str} (h : Bd K A0 S H σ i (.exc n)) : Bd K A0 S' H' σ i (.exc n) := h
theorem Rp.sep (r : Rp K A0 S H σ ρ) {a : Addr} (h : S a) : ¬ Ow σ ρ a := fun ⟨_, q⟩ => (r.own q).1 h
theorem Ex.of_tr {O : Addr → Prop} (t : Tr S H O S' H' O') (hs : ∀ a, S a → ¬ O a) (hc : ∀ a, O a → ∃ d, OwnAt K S H a d) : Ex S H S' H' := by
  refine ⟨t.s, fun a o h nt q => t.hasO q (hs a h) nt, fun a xs h => t.keepN h (fun z => ?_) fun z => z, fun a o u h => t.keepN h (fun z => ?_) fun z => z⟩
  · obtain ⟨d, o, e, c⟩ := hc a z
    rw [h] at e; cases e; exact c.notTup
  · obtain ⟨d, o, e, c⟩ := hc a z
    rw [h] at e; cases e; exact c.notFrz
theorem Rp.ex (r : Rp K A0 S H σ ρ) (t : Tr S H (Ow σ ρ) S' H' O') : Ex S H S' H' := Ex.of_tr (K := K) t (fun a h => r.sep h) fun a ⟨i, q⟩ => (r.own q).2
/-- an expression's value v -/
def RE (K : PySem.W.Frag) (A0 : Ax) (H0 : Hp) (S : Addr → Prop) (H : Hp) (σ : St) (ρ : List B) (v : V) : Ev → Prop
  | .val d => Dr K S H v d
  | .fr d => ∃ a, v = .ref a ∧ (H0 a = none ∧ ∀ j, A0 j ≠ some a) ∧ ¬ S a ∧ ¬ Ow σ ρ a ∧ OwnAt K S H a d
  | .sl i => σ[i]? = some (some v)
theorem OwnAt.ex {a : Addr} {d : PyData} (e : Ex S H S' H') (k : ∀ o, H a = some o → H' a = some o) (h : OwnAt K S H a d) : OwnAt K S' H' a d :=
  let ⟨o, h1, h2⟩ := h
  ⟨o, k o h1, h2.ex e⟩
theorem RE.mono {H0 : Hp} {v : V} {e : Ev} (r : Rp K A0 S H σ ρ) (t : Tr S H (Ow σ ρ) S' H' (Ow σ ρ')) (h : RE K A0 H0 S H σ ρ v e) : RE K A0 H0 S' H' σ ρ' v e := by
  cases e with
  | val d => exact Dr.ex (r.ex t) h
  | sl i => exact h
  | fr d =>
    obtain ⟨a, rfl, h0, hs, ho, ha⟩ := h
    obtain ⟨o, e1, e2⟩ := ha
    have hs' : ¬ S' a := fun z => by
      rcases t.g a z with q | q | q
      · exact hs q
      · exact ho q
      · rw [e1] at q; cases q
    refine ⟨a, rfl, h0, hs', fun z => ?_, ⟨o, t.keepS e1 ho hs' e2.notTb, e2.ex (r.ex t)⟩⟩
    · rcases t.o a z with q | q
      · exact ho q
      · rw [e1] at q; cases q
theorem RE.back {H0 H00 : Hp} {v : V} {e : Ev} (dm : ∀ a, H0 a = none → H00 a = none) (h : RE K A0 H0 S H σ ρ v e) : RE K A0 H00 S H σ ρ v e := by
  cases e with
  | val d => exact h
  | sl i => exact h
  | fr d =>
    obtain ⟨a, rfl, h0, r⟩ := h
    exact ⟨a, rfl, ⟨dm a h0.1, h0.2⟩, r⟩
end
/-- the datum, whoever holds it -/
def Dw (K : PySem.W.Frag) (S : Addr → Prop) (H : Hp) (v : V) (d : PyData) : Prop := Dr K S H v d ∨ ∃ a, v = .ref a ∧ OwnAt K S H a d
def peekB : B → Option PyData
  | .un => none
  | .val d => some d
  | .own d => some d
  | .prm d => some d
  | .exc _ => none
def peek (ρ : List B) : Ev → Option PyData
  | .val d => some d
  | .fr d => some d
  | .sl i => (ρ[i]?).bind peekB
theorem peek_ok {K : PySem.W.Frag} {A0 : Ax} {S : Addr → Prop} {H H0 : Hp} {σ : St} {ρ : List B} {v : V} {e : Ev} {d : PyData} (r : Rp K A0 S H σ ρ) (h : RE K A0 H0 S H σ ρ v e) (p : peek ρ e = some d) : Dw K S H v d := by
  cases e with
  | val d' => cases p; exact .inl h
  | fr d' =>
    cases p
    obtain ⟨a, rfl, _, _, _, q⟩ := h
    exact .inr ⟨a, rfl, q⟩
  | sl i =>
    have hv : σ[i]? = some (some v) := h
    have p' : (ρ[i]?).bind peekB = some d := p
    cases e : ρ[i]? with
    | none => rw [e] at p'; cases p'
    | some b =>
      rw [e] at p'
      have q := r.bd i b e
      cases b with
      | un => cases p'
      | val d' =>
        cases p'
        obtain ⟨u, e1, e2⟩ := q
        rw [hv] at e1; cases e1
        exact .inl e2
      | exc n => cases p'
      | own d' =>
        cases p'
        obtain ⟨a, e1, _, e2⟩ := q
        rw [hv] at e1; cases e1
        exact .inr ⟨a, rfl, e2⟩
      | prm d' =>
        cases p'
        obtain ⟨a, e1, _, _, e2⟩ := q
        rw [hv] at e1; cases e1
        exact .inr ⟨a, rfl, e2⟩
section
variable {K : PySem.W.Frag} {S : Addr → Prop} {H : Hp} {v : V}
theorem Dw.int {i : Int} (h : Dw K S H v (.int i)) : v = .int i := by
  rcases h with h | ⟨a, rfl, o, h1, h2⟩
  · cases h with
    | int => rfl
    | obj _ _ c => cases c
  · cases h2
theorem Dw.bl {b : Bool} (h : Dw K S H v (.bool b)) : v = .bl b := by
  rcases h with h | ⟨a, rfl, o, h1, h2⟩
  · cases h with
    | bl => rfl
    | obj _ _ c => cases c
  · cases h2
theorem Dw.non (h : Dw K S H v .none) : v = .non := by
  rcases h with h | ⟨a, rfl, o, h1, h2⟩
  · cases h with
    | non => rfl
    | obj _ _ c => cases c
  · cases h2
theorem Dw.str {x : Str} (h : Dw K S H v (.str x)) : v = .str x := by
  rcases h with h | ⟨a, rfl, o, h1, h2⟩
  · cases h with
    | str => rfl
    | obj _ _ c => cases c
  · cases h2
theorem Dw.tup {ds : List PyData} (h : Dw K S H v (.tuple ds)) : ∃ a xs, v = .ref a ∧ SqT K H a xs ∧ DrAll K S H xs ds := by
  rcases h with h | ⟨a, rfl, o, h1, h2⟩
  · cases h with
    | tup h1 h2 => exact ⟨_, _, rfl, h1, h2⟩
    | obj _ _ c => cases c
  · cases h2
theorem Dw.lst {ds : List PyData} (h : Dw K S H v (.list ds)) : ∃ a xs, v = .ref a ∧ LstX K H a xs ∧ DrAll K S H xs ds := by
  rcases h with h | ⟨a, rfl, o, h1, h2⟩
  · cases h with
    | lstR h1 h2 => exact ⟨_, _, rfl, .inr h1, h2⟩
    | obj h1 _ c => cases c with
      | lst c => exact ⟨_, _, rfl, .inl h1.lst, c⟩
  · cases h2 with
    | lst c => exact ⟨_, _, rfl, .inl h1, c⟩
theorem Dr.w {d : PyData} (h : Dr K S H v d) : Dw K S H v d := .inl h
theorem Dr.tupE {ds : List PyData} (h : Dr K S H v (.tuple ds)) : ∃ a xs, v = .ref a ∧ SqT K H a xs ∧ DrAll K S H xs ds := h.w.tup
end
/-! data without dicts: as the library's Dp -/
mutual
theorem Dr.dp {K : PySem.W.Frag} {S : Addr → Prop} {H : Hp} : ∀ (d : PyData) (v : V), d.canLay0 = true → Dr K S H v d → Dp K H v d
  | .none, v, _, h => by rw [h.w.non]; exact .non
  | .bool b, v, _, h => by rw [h.w.bl]; exact .bl b
  | .int i, v, _, h => by rw [h.w.int]; exact .int i
  | .str x, v, _, h => by rw [h.w.str]; exact .str x
  | .list ds, v, c, h => by
    obtain ⟨a, xs, rfl, h1, h2⟩ := h.w.lst
    exact .lst h1.sq (DrAll.dp ds xs (by simpa only [PyData.canLay0] using c) h2)
  | .tuple ds, v, c, h => by
    obtain ⟨a, xs, rfl, h1, h2⟩ := h.w.tup
    exact .tup h1 (DrAll.dp ds xs (by simpa only [PyData.canLay0] using c) h2)
  | .dict _, _, c, _ => by simp [PyData.canLay0] at c
theorem DrAll.dp {K : PySem.W.Frag} {S : Addr → Prop} {H : Hp} : ∀ (ds : List PyData) (vs : List V), PyData.canLayAll0 ds = true → DrAll K S H vs ds → DpAll K H vs ds
  | [], _, _, h => by cases h; exact .nil
  | d :: ds, _, c, h => by
    cases h with
    | cons h1 h2 =>
      simp only [PyData.canLayAll0, Bool.and_eq_true] at c
      exact .cons (Dr.dp d _ c.1 h1) (DrAll.dp ds _ c.2 h2)
end
theorem Dw.dp {K : PySem.W.Frag} {S : Addr → Prop} {H : Hp} {v : V} {d : PyData} (c : d.canLay0 = true) (h : Dw K S H v d) : Dp K H v d := by
  cases d with
  | list ds =>
    obtain ⟨a, xs, rfl, h1, h2⟩ := h.lst
    exact .lst h1.sq (DrAll.dp ds xs (by simpa only [PyData.canLay0] using c) h2)
  | dict kvs => simp [PyData.canLay0] at c
  | none => rw [h.non]; exact .non
  | bool b => rw [h.bl]; exact .bl b
  | int i => rw [h.int]; exact .int i
  | str x => rw [h.str]; exact .str x
  | tuple ds =>
    obtain ⟨a, xs, rfl, h1, h2⟩ := h.tup
    exact .tup h1 (DrAll.dp ds xs (by simpa only [PyData.canLay0] using c) h2)
end G
namespace G
open PySem PySem.Spec PyProof.Rows L2
theorem PE_imp {X : Cx} {e : Expr} {t t' : TE} (h : PE X e t) (i : ∀ σ H Q, t' σ H Q → t σ H Q) : PE X e t' := ⟨fun pins s σ H Q I q => h.run pins s σ H Q I (i σ H Q q)⟩
theorem PT_imp {X : Cx} {e : Expr} {t t' : TT} (h : PT X e t) (i : ∀ σ H Q, t' σ H Q → t σ H Q) : PT X e t' := ⟨fun pins s σ H Q I q => h.run pins s σ H Q I (i σ H Q q)⟩
theorem PW_imp {X : Cx} {e : Expr} {t t' : TT} (h : PW X e t) (i : ∀ σ H Q, t' σ H Q → t σ H Q) : PW X e t' := ⟨fun w pins s σ H Q I q => h.run w pins s σ H Q I (i σ H Q q)⟩
theorem PA_imp {X : Cx} {e : List Expr} {t t' : TA} (h : PA X e t) (i : ∀ σ H Q, t' σ H Q → t σ H Q) : PA X e t' := ⟨fun p pins s σ H Q I q => h.run p pins s σ H Q I (i σ H Q q)⟩
theorem PS_imp {X : Cx} {e : Stmt} {t t' : TS} (h : PS X e t) (i : ∀ D σ H, t' D σ H → t D σ H) : PS X e t' := ⟨fun pins s σ H D I q => h.run pins s σ H D I (i D σ H q)⟩
theorem PSs_imp {X : Cx} {e : List Stmt} {t t' : TS} (h : PSs X e t) (i : ∀ D σ H, t' D σ H → t D σ H) : PSs X e t' := ⟨fun pins s σ H D I q => h.run pins s σ H D I (i D σ H q)⟩
/-- what the layer is told of a def's body: the parameters' addresses that may be written, what is wished of an exception -/
structure Gc where
  K : PySem.W.Frag
  mg : Str → Option Value
  A0 : Ax
  W : WX
def Gc.wx (g : Gc) (n : Str) (σ : St) (H : Hp) : Prop := ∀ C, g.mg n = some (.ref C) → g.W (.ref C) none σ H
def PostE (g : Gc) (S : Addr → Prop) (H : Hp) (σ : St) (ρ : List B) (r : Rs (Ev × List B)) (Q : VK) : Prop := match r with
  | .ok p => ∀ S' H' v, Tr S H (Ow σ ρ) S' H' (Ow σ p.2) → Rp g.K g.A0 S' H' σ p.2 → RE g.K g.A0 H S' H' σ p.2 v p.1 → Q v H'
  | .ex n ρ' => ∀ S' H', Tr S H (Ow σ ρ) S' H' (Ow σ ρ') → Rp g.K g.A0 S' H' σ ρ' → g.wx n σ H'
  | .bad => False
def tE (g : Gc) (f : SE) : TE := fun σ H Q => ∃ S ρ, Rp g.K g.A0 S H σ ρ ∧ PostE g S H σ ρ (f ρ) Q
def PostT (g : Gc) (S : Addr → Prop) (H : Hp) (σ : St) (ρ : List B) (r : Rs (Bool × List B)) (Q : Bool → Hp → Prop) : Prop := match r with
  | .ok p => ∀ S' H', Tr S H (Ow σ ρ) S' H' (Ow σ p.2) → Rp g.K g.A0 S' H' σ p.2 → Q p.1 H'
  | .ex n ρ' => ∀ S' H', Tr S H (Ow σ ρ) S' H' (Ow σ ρ') → Rp g.K g.A0 S' H' σ ρ' → g.wx n σ H'
  | .bad => False
abbrev SB := List B → Rs (Bool × List B)
def tT (g : Gc) (f : SB) : TT := fun σ H Q => ∃ S ρ, Rp g.K g.A0 S H σ ρ ∧ PostT g S H σ ρ (f ρ) Q
/-- an argument's value: no new object stays alone -/
def RE1 (K : PySem.W.Frag) (S : Addr → Prop) (H : Hp) (σ : St) (v : V) : Ev → Prop
  | .val d => Dr K S H v d
  | .fr _ => False
  | .sl i => σ[i]? = some (some v)
def PostA (g : Gc) (S : Addr → Prop) (H : Hp) (σ : St) (ρ : List B) (r : Rs (List Ev × List B)) (Q : List V → Hp → Prop) : Prop := match r with
  | .ok p => ∀ S' H' vs, Tr S H (Ow σ ρ) S' H' (Ow σ p.2) → Rp g.K g.A0 S' H' σ p.2 → Paired (RE1 g.K S' H' σ) vs p.1 → Q vs H'
  | .ex n ρ' => ∀ S' H', Tr S H (Ow σ ρ) S' H' (Ow σ ρ') → Rp g.K g.A0 S' H' σ ρ' → g.wx n σ H'
  | .bad => False
abbrev SA := List B → Rs (List Ev × List B)
def tA (g : Gc) (f : SA) : TA := fun σ H Q => ∃ S ρ, Rp g.K g.A0 S H σ ρ ∧ PostA g S H σ ρ (f ρ) Q
/-! ### the heap grows -/
section
variable {K : PySem.W.Frag} {A0 : Ax} {S S' S0 : Addr → Prop} {H H' H0 : Hp} {σ σ' : St} {ρ ρ' ρ0 : List B} {O O' O0 : Addr → Prop}
theorem same_alloc {p : Addr} {o : HO} (h : H p = none) : L2.Same H (upd H p o) := fun b x e => by rw [upd_ne (ne_of_none e h)]; exact e
theorem HasO.same (s : L2.Same H H') {a : Addr} {o : HO} (h : HasO H a o) : HasO H' a o := h.imp (fun q => s a _ q) fun ⟨q, od, z⟩ => ⟨q, od, s a _ z⟩
theorem Ex.same (s : L2.Same H H') : Ex S H S H' := ⟨fun _ h => h, fun a o _ _ h => h.same s, fun a xs h => s a _ h, fun a o u h => s a _ h⟩
theorem Rp.same (r : Rp K A0 S H σ ρ) (s : L2.Same H H') : Rp K A0 S H' σ ρ := by
  refine ⟨r.len, fun i b e => ?_, r.dis, fun a h => let ⟨o, e⟩ := r.al a h; ⟨o, s a o e⟩, r.np, fun j a h => let ⟨o, e⟩ := r.aa j a h; ⟨o, s a o e⟩, r.tb.ext s⟩
  have q := r.bd i b e
  cases b with
  | un => trivial
  | exc n => exact bd_exc (Ex.same s) q
  | val d => obtain ⟨v, e1, e2⟩ := q; exact ⟨v, e1, e2.ex (Ex.same s)⟩
  | own d => obtain ⟨a, e1, e2, e3⟩ := q; exact ⟨a, e1, e2, e3.ex (Ex.same s) fun o => s a o⟩
  | prm d => obtain ⟨a, e1, e0, e2, e3⟩ := q; exact ⟨a, e1, e0, e2, e3.ex (Ex.same s) fun o => s a o⟩
theorem Tr.same (t : Tr S0 H0 O0 S H O) (s : L2.Same H H') : Tr S0 H0 O0 S H' O :=
  ⟨t.s, fun a o h n => (t.keep a o h n).imp (fun q => s a o q) fun q => q.imp (fun ⟨q1, q2, od, q3⟩ => ⟨q1, q2, od, s a _ q3⟩) fun ⟨q1, o', q2, q3⟩ => ⟨q1, o', q2, s a _ q3⟩, fun a o h => let ⟨o', e⟩ := t.dom a o h; ⟨o', s a o' e⟩, t.o, t.g⟩
theorem Tr.grow (s : L2.Same H H') : Tr S H O S H' O := Tr.refl.same s
theorem Dw.ex {v : V} {d : PyData} (e : Ex S H S' H') (k : ∀ a o, H a = some o → H' a = some o) (h : Dw K S H v d) : Dw K S' H' v d := by
  rcases h with h | ⟨a, rfl, h⟩
  · exact .inl (h.ex e)
  · exact .inr ⟨a, rfl, h.ex e fun o => k a o⟩
theorem Rp.alive (r : Rp K A0 S H σ ρ) {a : Addr} (h : Ow σ ρ a) : ∃ o, H a = some o := by
  obtain ⟨i, q⟩ := h
  obtain ⟨_, d, o, e, _⟩ := r.own q
  exact ⟨o, e⟩
/-- S grows by one object -/
def Sadd (S : Addr → Prop) (a : Addr) : Addr → Prop := fun b => S b ∨ b = a
theorem Ex.add (a : Addr) : Ex S H (Sadd S a) H := ⟨fun _ h => .inl h, fun _ _ _ _ h => h, fun _ _ h => h, fun _ _ _ h => h⟩
theorem Rp.add (r : Rp K A0 S H σ ρ) {a : Addr} (ho : ¬ Ow σ ρ a) (h : ∃ o, H a = some o) : Rp K A0 (Sadd S a) H σ ρ := by
  refine ⟨r.len, fun i b e => ?_, r.dis, fun b hb => ?_, r.np, r.aa, r.tb⟩
  · have q := r.bd i b e
    cases b with
    | un => trivial
    | exc n => exact bd_exc (Ex.add a) q
    | val d => obtain ⟨v, e1, e2⟩ := q; exact ⟨v, e1, e2.ex (Ex.add a)⟩
    | own d =>
      obtain ⟨c, e1, e2, e3⟩ := q
      refine ⟨c, e1, fun z => ?_, e3.ex (Ex.add a) fun _ h => h⟩
      rcases z with z | z
      · exact e2 z
      · exact ho (z ▸ ⟨i, by unfold OwI; rw [e]; exact ⟨rfl, e1⟩⟩)
    | prm d =>
      obtain ⟨c, e1, e0, e2, e3⟩ := q
      refine ⟨c, e1, e0, fun z => ?_, e3.ex (Ex.add a) fun _ h => h⟩
      rcases z with z | z
      · exact e2 z
      · exact ho (z ▸ ⟨i, by unfold OwI; rw [e]; exact ⟨rfl, e1⟩⟩)
  · rcases hb with hb | rfl
    · exact r.al b hb
    · exact h
theorem Tr.add (t : Tr S0 H0 O0 S H O) {a : Addr} (h : H0 a = none ∨ O0 a) : Tr S0 H0 O0 (Sadd S a) H O :=
  ⟨fun b q => .inl (t.s b q), fun b o h n => (t.keep b o h n).imp id fun q => q.imp (fun ⟨q1, q2, q3⟩ => ⟨q1, .inl q2, q3⟩) id, t.dom, t.o, fun b q => by
    rcases q with q | rfl
    · exact t.g b q
    · rcases h with h | h
      · exact .inr (.inr h)
      · exact .inr (.inl h)⟩
theorem RE1.ex {v : V} {e : Ev} (x : Ex S H S' H') (h : RE1 K S H σ v e) : RE1 K S' H' σ v e := by
  cases e with
  | val d => exact Dr.ex x h
  | fr d => exact h
  | sl i => exact h
theorem RE1s.ex {vs : List V} {es : List Ev} (x : Ex S H S' H') (h : Paired (RE1 K S H σ) vs es) : Paired (RE1 K S' H' σ) vs es := Paired.mapP h fun _ _ q => q.ex x
end
/-- a new object is given to all -/
def settle : Ev → Ev
  | .fr d => .val d
  | e => e
theorem settle_ok {K : PySem.W.Frag} {A0 : Ax} {S S0 : Addr → Prop} {H H0 : Hp} {σ : St} {ρ : List B} {O0 : Addr → Prop} {v : V} {e : Ev}
    (t : Tr S0 H0 O0 S H (Ow σ ρ)) (r : Rp K A0 S H σ ρ) (h : RE K A0 H0 S H σ ρ v e) : ∃ S', Tr S0 H0 O0 S' H (Ow σ ρ) ∧ Rp K A0 S' H σ ρ ∧ RE1 K S' H σ v (settle e) ∧ Ex S H S' H := by
  cases e with
  | val d => exact ⟨S, t, r, h, Ex.same fun _ _ e => e⟩
  | sl i => exact ⟨S, t, r, h, Ex.same fun _ _ e => e⟩
  | fr d =>
    obtain ⟨a, rfl, h0, hs, ho, o, e1, e2⟩ := h
    exact ⟨Sadd S a, t.add (.inl h0.1), r.add ho ⟨o, e1⟩, .obj (.inl e1) (.inr rfl) (e2.ex (Ex.add a)), Ex.add a⟩
/-! ### from here to there -/
section
variable {g : Gc} {S S' : Addr → Prop} {H H' : Hp} {σ : St} {ρ ρ' : List B}
theorem PostE.from {r : Rs (Ev × List B)} {Q : VK} (t : Tr S H (Ow σ ρ) S' H' (Ow σ ρ')) (h : PostE g S H σ ρ r Q) : PostE g S' H' σ ρ' r Q := by
  cases r with
  | ok p => exact fun S2 H2 v t2 r2 e2 => h S2 H2 v (t.trans t2) r2 (e2.back fun a q => t.fresh q)
  | ex n ρ2 => exact fun S2 H2 t2 r2 => h S2 H2 (t.trans t2) r2
  | bad => exact h
theorem PostT.from {r : Rs (Bool × List B)} {Q : Bool → Hp → Prop} (t : Tr S H (Ow σ ρ) S' H' (Ow σ ρ')) (h : PostT g S H σ ρ r Q) : PostT g S' H' σ ρ' r Q := by
  cases r with
  | ok p => exact fun S2 H2 t2 r2 => h S2 H2 (t.trans t2) r2
  | ex n ρ2 => exact fun S2 H2 t2 r2 => h S2 H2 (t.trans t2) r2
  | bad => exact h
theorem PostA.from {r : Rs (List Ev × List B)} {Q : List V → Hp → Prop} (t : Tr S H (Ow σ ρ) S' H' (Ow σ ρ')) (h : PostA g S H σ ρ r Q) : PostA g S' H' σ ρ' r Q := by
  cases r with
  | ok p => exact fun S2 H2 vs t2 r2 e2 => h S2 H2 vs (t.trans t2) r2 e2
  | ex n ρ2 => exact fun S2 H2 t2 r2 => h S2 H2 (t.trans t2) r2
  | bad => exact h
/-- an expression, then what hangs on it -/
theorem tE_bind {f : SE} {R : VK} {α : Type} {k : Ev × List B → Rs α} {P : Rs α → Prop} (hex : ∀ n ρ', P (.ex n ρ') → ∀ S' H', Tr S H (Ow σ ρ) S' H' (Ow σ ρ') → Rp g.K g.A0 S' H' σ ρ' → g.wx n σ H') (hbad : ¬ P .bad)
    (r : Rp g.K g.A0 S H σ ρ) (h : P ((f ρ).bind k)) (hk : ∀ p S' H' v, Tr S H (Ow σ ρ) S' H' (Ow σ p.2) → Rp g.K g.A0 S' H' σ p.2 → RE g.K g.A0 H S' H' σ p.2 v p.1 → P (k p) → R v H') : tE g f σ H R := by
  refine ⟨S, ρ, r, ?_⟩
  cases e : f ρ with
  | ok p => rw [e] at h; exact fun S' H' v t r' q => hk p S' H' v t r' q h
  | ex n ρ' => rw [e] at h; exact hex n ρ' h
  | bad => rw [e] at h; exact (hbad h).elim
theorem tT_bind {f : SB} {R : Bool → Hp → Prop} {α : Type} {k : Bool × List B → Rs α} {P : Rs α → Prop} (hex : ∀ n ρ', P (.ex n ρ') → ∀ S' H', Tr S H (Ow σ ρ) S' H' (Ow σ ρ') → Rp g.K g.A0 S' H' σ ρ' → g.wx n σ H') (hbad : ¬ P .bad)
    (r : Rp g.K g.A0 S H σ ρ) (h : P ((f ρ).bind k)) (hk : ∀ p S' H', Tr S H (Ow σ ρ) S' H' (Ow σ p.2) → Rp g.K g.A0 S' H' σ p.2 → P (k p) → R p.1 H') : tT g f σ H R := by
  refine ⟨S, ρ, r, ?_⟩
  cases e : f ρ with
  | ok p => rw [e] at h; exact fun S' H' t r' => hk p S' H' t r' h
  | ex n ρ' => rw [e] at h; exact hex n ρ' h
  | bad => rw [e] at h; exact (hbad h).elim
theorem tA_bind {f : SA} {R : List V → Hp → Prop} {α : Type} {k : List Ev × List B → Rs α} {P : Rs α → Prop} (hex : ∀ n ρ', P (.ex n ρ') → ∀ S' H', Tr S H (Ow σ ρ) S' H' (Ow σ ρ') → Rp g.K g.A0 S' H' σ ρ' → g.wx n σ H') (hbad : ¬ P .bad)
    (r : Rp g.K g.A0 S H σ ρ) (h : P ((f ρ).bind k)) (hk : ∀ p S' H' vs, Tr S H (Ow σ ρ) S' H' (Ow σ p.2) → Rp g.K g.A0 S' H' σ p.2 → Paired (RE1 g.K S' H' σ) vs p.1 → P (k p) → R vs H') : tA g f σ H R := by
  refine ⟨S, ρ, r, ?_⟩
  cases e : f ρ with
  | ok p => rw [e] at h; exact fun S' H' v t r' q => hk p S' H' v t r' q h
  | ex n ρ' => rw [e] at h; exact hex n ρ' h
  | bad => rw [e] at h; exact (hbad h).elim
theorem exE {Q : VK} : ∀ n ρ', PostE g S H σ ρ (.ex n ρ') Q → ∀ S' H', Tr S H (Ow σ ρ) S' H' (Ow σ ρ') → Rp g.K g.A0 S' H' σ ρ' → g.wx n σ H' := fun _ _ h => h
theorem exT {Q : Bool → Hp → Prop} : ∀ n ρ', PostT g S H σ ρ (.ex n ρ') Q → ∀ S' H', Tr S H (Ow σ ρ) S' H' (Ow σ ρ') → Rp g.K g.A0 S' H' σ ρ' → g.wx n σ H' := fun _ _ h => h
theorem exA {Q : List V → Hp → Prop} : ∀ n ρ', PostA g S H σ ρ (.ex n ρ') Q → ∀ S' H', Tr S H (Ow σ ρ) S' H' (Ow σ ρ') → Rp g.K g.A0 S' H' σ ρ' → g.wx n σ H' := fun _ _ h => h
theorem PostE.bad {Q : VK} : ¬ PostE g S H σ ρ .bad Q := fun h => h
theorem PostT.bad {Q : Bool → Hp → Prop} : ¬ PostT g S H σ ρ .bad Q := fun h => h
theorem PostA.bad {Q : List V → Hp → Prop} : ¬ PostA g S H σ ρ .bad Q := fun h => h
end
/-! ### operations on data -/
/-- what an operation may give: a datum (the heap may grow), or a new object -/
def Out (K : PySem.W.Frag) (S : Addr → Prop) (H : Hp) (e : Ev) (Q : VK) : Prop := match e with
  | .val d => ∀ v H', L2.Same H H' → Dr K S H' v d → Q v H'
  | .fr d => ∀ a H', L2.Same H H' → H a = none → OwnAt K S H' a d → Q (.ref a) H'
  | .sl _ => False
theorem Out.ok {g : Gc} {S S0 : Addr → Prop} {H H0 : Hp} {σ : St} {ρ ρ0 : List B} {e : Ev} {Q : VK} (t : Tr S0 H0 (Ow σ ρ0) S H (Ow σ ρ)) (r : Rp g.K g.A0 S H σ ρ) (he : ∀ i, e ≠ .sl i) (h : PostE g S0 H0 σ ρ0 (.ok (e, ρ)) Q) : Out g.K S H e Q := by
  cases e with
  | val d => exact fun v H' s q => h S H' v (t.same s) (r.same s) q
  | fr d =>
    refine fun a H' s hn q => h S H' _ (t.same s) (r.same s) ⟨a, rfl, ⟨t.fresh hn, fun j hj => by obtain ⟨o, e⟩ := r.aa j a hj; rw [hn] at e; cases e⟩, fun z => ?_, fun z => ?_, q⟩
    · obtain ⟨o, e⟩ := r.al a z; rw [hn] at e; cases e
    · obtain ⟨o, e⟩ := r.alive z; rw [hn] at e; cases e
  | sl i => exact (he i rfl).elim
def resE (ρ : List B) : Option Ev → Rs (Ev × List B)
  | some (.val d) => .ok (.val d, ρ)
  | some (.fr d) => .ok (.fr d, ρ)
  | _ => .bad
theorem resE_out {g : Gc} {S S0 : Addr → Prop} {H H0 : Hp} {σ : St} {ρ ρ0 : List B} {o : Option Ev} {Q : VK} (t : Tr S0 H0 (Ow σ ρ0) S H (Ow σ ρ)) (r : Rp g.K g.A0 S H σ ρ) (h : PostE g S0 H0 σ ρ0 (resE ρ o) Q) : ∃ e, o = some e ∧ Out g.K S H e Q := by
  cases o with
  | none => exact h.elim
  | some e =>
    cases e with
    | val d => exact ⟨_, rfl, Out.ok t r (fun _ => nofun) h⟩
    | fr d => exact ⟨_, rfl, Out.ok t r (fun _ => nofun) h⟩
    | sl i => exact h.elim
/-- a two-place operation by data -/
def op2 (b : PyData → PyData → Option Ev) (fa fb : SE) : SE := fun ρ => (fa ρ).bind fun p => (fb p.2).bind fun q => resE q.2 ((peek q.2 p.1).bind fun d1 => (peek q.2 q.1).bind fun d2 => b d1 d2)
def OpD (K : PySem.W.Frag) (r : R2) (b : PyData → PyData → Option Ev) : Prop := ∀ S H x y d1 d2 e Q, Dw K S H x d1 → Dw K S H y d2 → b d1 d2 = some e → Out K S H e Q → r x y H Q
theorem op2_ok {g : Gc} {r : R2} {b : PyData → PyData → Option Ev} {fa fb : SE} (ho : OpD g.K r b) : ∀ σ H Q, tE g (op2 b fa fb) σ H Q → tOp r (tE g fa) (tE g fb) σ H Q := by
  rintro σ H Q ⟨S, ρ, rp, h⟩
  refine tE_bind (P := fun z => PostE g S H σ ρ z Q) exE PostE.bad rp h fun p S1 H1 v1 t1 r1 e1 h => ?_
  refine tE_bind (P := fun z => PostE g S1 H1 σ p.2 z Q) exE PostE.bad r1 (h.from t1) fun q S2 H2 v2 t2 r2 e2 h => ?_
  obtain ⟨e, he, out⟩ := resE_out t2 r2 h
  have e1' := e1.mono r1 t2
  cases p1 : peek q.2 p.1 with
  | none => rw [p1] at he; cases he
  | some d1 =>
    rw [p1] at he
    cases p2 : peek q.2 q.1 with
    | none => rw [p2] at he; cases he
    | some d2 =>
      rw [p2] at he
      exact ho S2 H2 v1 v2 d1 d2 e Q (peek_ok r2 e1' p1) (peek_ok r2 e2 p2) he out
def op1 (b : PyData → Option Ev) (fa : SE) : SE := fun ρ => (fa ρ).bind fun p => resE p.2 ((peek p.2 p.1).bind b)
theorem op1_ok {g : Gc} {r : V → Hp → VK → Prop} {b : PyData → Option Ev} {fa : SE} (ho : ∀ S H x d e Q, Dw g.K S H x d → b d = some e → Out g.K S H e Q → r x H Q) : ∀ σ H Q, tE g (op1 b fa) σ H Q → (tE g fa) σ H fun x H1 => r x H1 Q := by
  rintro σ H Q ⟨S, ρ, rp, h⟩
  refine tE_bind (P := fun z => PostE g S H σ ρ z Q) exE PostE.bad rp h fun p S1 H1 v1 t1 r1 e1 h => ?_
  obtain ⟨e, he, out⟩ := resE_out t1 r1 h
  cases p1 : peek p.2 p.1 with
  | none => rw [p1] at he; cases he
  | some d1 =>
    rw [p1] at he
    exact ho S1 H1 v1 d1 e Q (peek_ok r1 e1 p1) he out
/-- arguments that are looked at -/
def DwAll (K : PySem.W.Frag) (S : Addr → Prop) (H : Hp) : List V → List PyData → Prop := Paired (Dw K S H)
def peeks (ρ : List B) : List Ev → Option (List PyData)
  | [] => some []
  | e :: es => (peek ρ e).bind fun d => (peeks ρ es).map (d :: ·)
theorem RE1.re {K : PySem.W.Frag} {A0 : Ax} {S : Addr → Prop} {H H0 : Hp} {σ : St} {ρ : List B} {v : V} {e : Ev} (h : RE1 K S H σ v e) : RE K A0 H0 S H σ ρ v e := by
  cases e with
  | val d => exact h
  | sl i => exact h
  | fr d => exact h.elim
theorem peeks_ok {K : PySem.W.Frag} {A0 : Ax} {S : Addr → Prop} {H : Hp} {σ : St} {ρ : List B} (r : Rp K A0 S H σ ρ) : ∀ {vs : List V} {es : List Ev} {ds : List PyData}, Paired (RE1 K S H σ) vs es → peeks ρ es = some ds → DwAll K S H vs ds
  | _, _, ds, .nil, h => by cases h; exact .nil
  | _, _, ds, .cons (b := e) (l₂ := es) a t, h => by
    unfold peeks at h
    cases p : peek ρ e with
    | none => rw [p] at h; cases h
    | some d =>
      rw [p] at h
      cases q : peeks ρ es with
      | none => rw [q] at h; cases h
      | some ds' =>
        rw [q] at h; cases h
        exact .cons (peek_ok (H0 := H) r a.re p) (peeks_ok r t q)
/-- a call by data -/
def opN (b : List PyData → Option Ev) (fa : SA) : SE := fun ρ => (fa ρ).bind fun p => resE p.2 ((peeks p.2 p.1).bind b)
def CallD (K : PySem.W.Frag) (r : List V → Hp → VK → Prop) (b : List PyData → Option Ev) : Prop := ∀ S H xs ds e Q, DwAll K S H xs ds → b ds = some e → Out K S H e Q → r xs H Q
theorem opN_ok {g : Gc} {r : List V → Hp → VK → Prop} {b : List PyData → Option Ev} {fa : SA} (ho : CallD g.K r b) : ∀ σ H Q, tE g (opN b fa) σ H Q → tCB r (tA g fa) σ H Q := by
  rintro σ H Q ⟨S, ρ, rp, h⟩
  refine tA_bind (P := fun z => PostE g S H σ ρ z Q) exE PostE.bad rp h fun p S1 H1 vs t1 r1 e1 h => ?_
  obtain ⟨e, he, out⟩ := resE_out t1 r1 h
  cases p1 : peeks p.2 p.1 with
  | none => rw [p1] at he; cases he
  | some ds =>
    rw [p1] at he
    exact ho S1 H1 vs ds e Q (peeks_ok r1 e1 p1) he out
/-! ### names, constants -/
section
variable {X : Cx} {A0 : Ax} {W : WX}
abbrev gc (X : Cx) (A0 : Ax) (W : WX) : Gc := ⟨X.K, X.mg, A0, W⟩
def fV (i : Nat) : SE := fun ρ => match ρ[i]? with
  | some (.val d) => .ok (.val d, ρ)
  | some (.own _) => .ok (.sl i, ρ)
  | some (.prm _) => .ok (.sl i, ρ)
  | some (.exc _) => .ok (.sl i, ρ)
  | _ => .bad
theorem fV_ok {g : Gc} {i : Nat} : ∀ σ H Q, tE g (fV i) σ H Q → tVar i σ H Q := by
  rintro σ H Q ⟨S, ρ, r, h⟩
  unfold fV at h
  cases e : ρ[i]? with
  | none => rw [e] at h; exact h.elim
  | some b =>
    rw [e] at h
    have q := r.bd i b e
    cases b with
    | un => exact h.elim
    | exc n => exact ⟨_, q.2, h S H _ Tr.refl r q.2⟩
    | val d => obtain ⟨v, e1, e2⟩ := q; exact ⟨v, e1, h S H v Tr.refl r e2⟩
    | own d => obtain ⟨a, e1, _⟩ := q; exact ⟨_, e1, h S H _ Tr.refl r e1⟩
    | prm d => obtain ⟨a, e1, _⟩ := q; exact ⟨_, e1, h S H _ Tr.refl r e1⟩
theorem gv (i : Nat) {x : Str} {pos : Pos} (hN : X.N[i]? = some x := by rfl) (hv : Vis X.env.scope x := by first | exact Or.inl rfl | exact Or.inr (Or.inl rfl) | exact Or.inr (Or.inr rfl)) (hd : (x == ("__debug__" : Str)) = false := by decide)
    (hcd : (x == ("__classdict__" : Str)) = false := by decide) : PE X (.Name x pos) (tE (gc X A0 W) (fV i)) := PE_imp (pe_var hN hv hd hcd) fV_ok
def fC (d : PyData) : SE := fun ρ => .ok (.val d, ρ)
theorem fC_ok {g : Gc} {v : V} {d : PyData} (hd : ∀ S H, Dr g.K S H v d) : ∀ σ H Q, tE g (fC d) σ H Q → tC v σ H Q := fun σ H Q ⟨S, ρ, r, h⟩ => h S H v Tr.refl r (hd S H)
theorem gint {i j pos} : PE X (.Constant (.int i) j pos) (tE (gc X A0 W) (fC (.int i))) := PE_imp pe_int (fC_ok fun _ _ => .int i)
theorem gbl {b j pos} : PE X (.Constant (.bool b) j pos) (tE (gc X A0 W) (fC (.bool b))) := PE_imp pe_bl (fC_ok fun _ _ => .bl b)
/-- a constant of the module -/
def KD (K : PySem.W.Frag) (u : Value) (d : PyData) : Prop := ∃ v, RelV v u ∧ ∀ S H, Dr K S H v d
theorem gglob {x : Str} {u : Value} {d : PyData} {pos : Pos} (hm : X.mg x = some u) (k : KD X.K u d) (hg : Gl X x := by rfl) (hd : (x == ("__debug__" : Str)) = false := by decide) : PE X (.Name x pos) (tE (gc X A0 W) (fC d)) := by
  obtain ⟨v, r, q⟩ := k
  exact PE_imp (pe_glob hg hm r hd) (fC_ok q)
end
end G
namespace G
open PySem PySem.Spec PyProof.Rows L2
/-! ### numbers -/
def smallI (i : Int) : Bool := decide (-18446744073709551616 < i) && decide (i < 18446744073709551616)
def mulOk (i j : Int) : Bool := smallI i || smallI j || decide (i.natAbs.log2 + j.natAbs.log2 < 1000000)
def divOk (j : Int) : Bool := decide (j ≠ 0) && (decide (j.natAbs < 1073741824) || decide (j.natAbs.log2 < 9000))
def CDivA (_ j : Int) : Prop := j ≠ 0 ∧ j.natAbs.log2 < 9000
theorem op_fdivA {X : Cx} : OpR X (binaryOp .FloorDiv) (rI CDivA fun i j => .int (i.fdiv j)) := opI fun _ _ _ _ _ _ _ hc q => floordiv_int hc.1 q (.inl (PyProof.noPylong_of_log2 hc.2))
def addD : PyData → PyData → Option Ev
  | .int i, .int j => some (.val (.int (i + j)))
  | .str a, .str b => if a.length + b.length ≤ sizeLine then some (.val (.str (a ++ b))) else none
  | .tuple xs, .tuple ys => if xs.length + ys.length ≤ sizeLine then some (.val (.tuple (xs ++ ys))) else none
  | .list xs, .list ys => if xs.length + ys.length ≤ sizeLine then some (.fr (.list (xs ++ ys))) else none
  | _, _ => none
def subD : PyData → PyData → Option Ev
  | .int i, .int j => some (.val (.int (i - j)))
  | _, _ => none
def mulD : PyData → PyData → Option Ev
  | .int i, .int j => if mulOk i j = true then some (.val (.int (i * j))) else none
  | _, _ => none
def fdivD : PyData → PyData → Option Ev
  | .int i, .int j => if divOk j = true then some (.val (.int (i.fdiv j))) else none
  | _, _ => none
def modD : PyData → PyData → Option Ev
  | .int i, .int j => if j = 0 then none else some (.val (.int (i.fmod j)))
  | _, _ => none
def powD : PyData → PyData → Option Ev
  | .int i, .int j => if 0 ≤ j ∧ j ≤ 1000000 ∧ i.natAbs < 18446744073709551616 then some (.val (.int (i ^ j.toNat))) else none
  | _, _ => none
section
variable {K : PySem.W.Frag}
theorem outInt {S : Addr → Prop} {H : Hp} {Q : VK} {i : Int} (h : Out K S H (.val (.int i)) Q) : Q (.int i) H := h _ H (fun _ _ e => e) (.int i)
theorem outBl {S : Addr → Prop} {H : Hp} {Q : VK} {i : Bool} (h : Out K S H (.val (.bool i)) Q) : Q (.bl i) H := h _ H (fun _ _ e => e) (.bl i)
theorem outStr {S : Addr → Prop} {H : Hp} {Q : VK} {i : Str} (h : Out K S H (.val (.str i)) Q) : Q (.str i) H := h _ H (fun _ _ e => e) (.str i)
theorem outTup {S : Addr → Prop} {H : Hp} {Q : VK} {ds : List PyData} {xs : List V} (r : DrAll K S H xs ds) (h : Out K S H (.val (.tuple ds)) Q) : ∀ p, H p = none → Q (.ref p) (upd H p (.tup xs)) := fun p hp =>
  h _ _ (same_alloc hp) (.tup (.inl (.inl upd_same)) (r.ex (Ex.same (same_alloc hp))))
theorem outLst {S : Addr → Prop} {H : Hp} {Q : VK} {ds : List PyData} {xs : List V} (r : DrAll K S H xs ds) (h : Out K S H (.fr (.list ds)) Q) : ∀ p, H p = none → Q (.ref p) (upd H p (.lst xs)) := fun p hp =>
  h _ _ (same_alloc hp) hp ⟨_, upd_same, .lst (r.ex (Ex.same (same_alloc hp)))⟩
end
section
variable {X : Cx} {A0 : Ax} {W : WX} {a b : Expr} {fa fb : SE} {pos : Pos}
theorem gop {op : Operator} {r : R2} {bd : PyData → PyData → Option Ev} (ho : OpR X (binaryOp op) r) (hd : OpD X.K r bd) (ha : PE X a (tE (gc X A0 W) fa)) (hb : PE X b (tE (gc X A0 W) fb)) : PE X (.BinOp a op b pos) (tE (gc X A0 W) (op2 bd fa fb)) :=
  PE_imp (pe_op ho ha hb) (op2_ok hd)
/-- list + list, any that is read -/
def rCatL (K : PySem.W.Frag) : R2 := fun x y H Q => ∃ l b xs zs, x = .ref l ∧ y = .ref b ∧ LstX K H l xs ∧ LstX K H b zs ∧ xs.length + zs.length ≤ sizeLine ∧ ∀ p, H p = none → Q (.ref p) (upd H p (.lst (xs ++ zs)))
theorem intD {C : Int → Int → Prop} {gI : Int → Int → Int} {bd : PyData → PyData → Option Ev} (h : ∀ d1 d2 e, bd d1 d2 = some e → ∃ i j, d1 = .int i ∧ d2 = .int j ∧ C i j ∧ e = .val (.int (gI i j))) {K : PySem.W.Frag} : OpD K (rI C fun i j => .int (gI i j)) bd := by
  intro S H x y d1 d2 e Q h1 h2 he out
  obtain ⟨i, j, rfl, rfl, c, rfl⟩ := h d1 d2 e he
  exact ⟨i, j, h1.int, h2.int, c, outInt out⟩
theorem intD0 {gI : Int → Int → Int} {bd : PyData → PyData → Option Ev} (h : ∀ d1 d2 e, bd d1 d2 = some e → ∃ i j, d1 = .int i ∧ d2 = .int j ∧ e = .val (.int (gI i j))) {K : PySem.W.Frag} : OpD K (rI0 fun i j => .int (gI i j)) bd := by
  intro S H x y d1 d2 e Q h1 h2 he out
  obtain ⟨i, j, rfl, rfl, rfl⟩ := h d1 d2 e he
  exact ⟨i, j, h1.int, h2.int, outInt out⟩
theorem gsub (ha : PE X a (tE (gc X A0 W) fa)) (hb : PE X b (tE (gc X A0 W) fb)) : PE X (.BinOp a .Sub b pos) (tE (gc X A0 W) (op2 subD fa fb)) :=
  gop op_sub (intD0 (gI := fun i j => i - j) fun d1 d2 e h => by
    cases d1 <;> cases d2 <;> simp only [subD, reduceCtorEq] at h
    cases h; exact ⟨_, _, rfl, rfl, rfl⟩) ha hb
theorem smallI_ok {i : Int} (h : smallI i = true) : -(2 ^ 64) < i ∧ i < 2 ^ 64 := by
  simp only [smallI, Bool.and_eq_true, decide_eq_true_eq] at h
  have : (2 : Int) ^ 64 = 18446744073709551616 := by decide
  omega
theorem gmul (ha : PE X a (tE (gc X A0 W) fa)) (hb : PE X b (tE (gc X A0 W) fb)) : PE X (.BinOp a .Mult b pos) (tE (gc X A0 W) (op2 mulD fa fb)) :=
  gop (r := fun x y H Q => rI CMul (fun i j => .int (i * j)) x y H Q ∨ rI CMulW (fun i j => .int (i * j)) x y H Q) (op_mul.or op_mulW) (fun S H x y d1 d2 e Q h1 h2 he out => by
    cases d1 <;> cases d2 <;> simp only [mulD, reduceCtorEq] at he
    rename_i i j
    split at he
    · rename_i hc
      cases he
      simp only [mulOk, Bool.or_eq_true, decide_eq_true_eq] at hc
      rcases hc with (hc | hc) | hc
      · exact .inl ⟨i, j, h1.int, h2.int, .inl (smallI_ok hc), outInt out⟩
      · exact .inl ⟨i, j, h1.int, h2.int, .inr (smallI_ok hc), outInt out⟩
      · exact .inr ⟨i, j, h1.int, h2.int, hc, outInt out⟩
    · cases he) ha hb
theorem gfdiv (ha : PE X a (tE (gc X A0 W) fa)) (hb : PE X b (tE (gc X A0 W) fb)) : PE X (.BinOp a .FloorDiv b pos) (tE (gc X A0 W) (op2 fdivD fa fb)) :=
  gop (r := fun x y H Q => rI CDivN (fun i j => .int (i.fdiv j)) x y H Q ∨ rI CDivA (fun i j => .int (i.fdiv j)) x y H Q) (op_fdivN.or op_fdivA) (fun S H x y d1 d2 e Q h1 h2 he out => by
    cases d1 <;> cases d2 <;> simp only [fdivD, reduceCtorEq] at he
    rename_i i j
    split at he
    · rename_i hc
      cases he
      simp only [divOk, Bool.and_eq_true, Bool.or_eq_true, decide_eq_true_eq] at hc
      obtain ⟨h0, hc | hc⟩ := hc
      · exact .inl ⟨i, j, h1.int, h2.int, ⟨h0, hc⟩, outInt out⟩
      · exact .inr ⟨i, j, h1.int, h2.int, ⟨h0, hc⟩, outInt out⟩
    · cases he) ha hb
theorem gmod (ha : PE X a (tE (gc X A0 W) fa)) (hb : PE X b (tE (gc X A0 W) fb)) : PE X (.BinOp a .Mod b pos) (tE (gc X A0 W) (op2 modD fa fb)) :=
  gop op_modN (intD (C := fun _ j => j ≠ 0) (gI := fun i j => i.fmod j) fun d1 d2 e h => by
    cases d1 <;> cases d2 <;> simp only [modD, reduceCtorEq] at h
    rename_i i j
    split at h
    · cases h
    · rename_i hj; cases h; exact ⟨_, _, rfl, rfl, hj, rfl⟩) ha hb
theorem gpow (ha : PE X a (tE (gc X A0 W) fa)) (hb : PE X b (tE (gc X A0 W) fb)) : PE X (.BinOp a .Pow b pos) (tE (gc X A0 W) (op2 powD fa fb)) :=
  gop op_pow (intD (C := CPow) (gI := fun i j => i ^ j.toNat) fun d1 d2 e h => by
    cases d1 <;> cases d2 <;> simp only [powD, reduceCtorEq] at h
    rename_i i j
    split at h
    · rename_i hj; cases h; exact ⟨_, _, rfl, rfl, ⟨hj.1, hj.2.1, by have : (2 : Nat) ^ 64 = 18446744073709551616 := by decide
                                                                     rw [this]; exact hj.2.2⟩, rfl⟩
    · cases h) ha hb
theorem op_catL : OpR X (binaryOp .Add) (rCatL X.K) := by
  intro pins s σ H x y v u Q I rx ry h
  obtain ⟨l, b, xs, zs, rfl, rfl, h1, h2, hz, q⟩ := h
  cases rx
  cases ry
  obtain ⟨its, n, r, e, z⟩ := h1.at_ I
  obtain ⟨its2, n2, r2, e2, z2⟩ := h2.at_ I
  have l1 := r.length
  have l2 := r2.length
  refine PySem.P.add_list e e2 ?_ (by rw [List.size_toArray, List.size_toArray]; omega)
  have ea : its.toArray ++ its2.toArray = (its ++ its2).toArray := by simp
  rw [ea]
  exact ⟨.ref _, _, I.lnew (t' := s.toks) (r.append r2) (by rw [List.length_append]; omega), rfl, q _ I.fresh⟩
def rAddX (K : PySem.W.Frag) : R2 := fun x y H Q => rI0 (fun i j => .int (i + j)) x y H Q ∨ (∃ i j, x = .str i ∧ y = .str j ∧ i.length + j.length ≤ sizeLine ∧ Q (.str (i ++ j)) H) ∨ rCatA K x y H Q ∨ rCatL K x y H Q
theorem op_addX : OpR X (binaryOp .Add) (rAddX X.K) := op_add.or (op_add_str.or (op_catA.or op_catL))
theorem addX_ok {K : PySem.W.Frag} : OpD K (rAddX K) addD := by
  intro S H x y d1 d2 e Q h1 h2 he out
  cases d1 <;> cases d2 <;> simp only [addD, reduceCtorEq] at he
  · cases he; exact .inl ⟨_, _, h1.int, h2.int, outInt out⟩
  · split at he
    · rename_i hc
      cases he; exact .inr (.inl ⟨_, _, h1.str, h2.str, hc, outStr out⟩)
    · cases he
  · split at he
    · rename_i hc
      cases he
      obtain ⟨a, xs, rfl, q1, r1⟩ := h1.lst
      obtain ⟨b, ys, rfl, q2, r2⟩ := h2.lst
      exact .inr (.inr (.inr ⟨a, b, xs, ys, rfl, rfl, q1, q2, by rw [r1.length, r2.length]; exact hc, outLst (r1.append r2) out⟩))
    · cases he
  · split at he
    · rename_i hc
      cases he
      obtain ⟨a, xs, rfl, q1, r1⟩ := h1.tup
      obtain ⟨b, ys, rfl, q2, r2⟩ := h2.tup
      refine .inr (.inr (.inl ⟨a, b, xs, ys, rfl, rfl, q1, q2, by rw [r1.length, r2.length]; exact hc, fun z => ?_, fun _ z => ?_, fun _ _ => outTup (r1.append r2) out⟩))
      · subst z
        exact out _ H (fun _ _ e => e) (.tup q2 (r1.append r2))
      · subst z
        have := r1.append r2
        rw [List.append_nil] at this
        exact out _ H (fun _ _ e => e) (.tup q1 this)
    · cases he
theorem gadd (ha : PE X a (tE (gc X A0 W) fa)) (hb : PE X b (tE (gc X A0 W) fb)) : PE X (.BinOp a .Add b pos) (tE (gc X A0 W) (op2 addD fa fb)) := gop op_addX addX_ok ha hb
/-! ### comparisons -/
def cmpI (c : Int → Int → Bool) : PyData → PyData → Option Ev
  | .int i, .int j => some (.val (.bool (c i j)))
  | _, _ => none
def str2 : PyData → PyData → Bool
  | .str _, .str _ => true
  | _, _ => false
def eqD : PyData → PyData → Option Ev := fun x y => if (str2 x y || (SeqAt.shaped x && SeqAt.shaped y)) = true then some (.val (.bool (PyData.eqv x y))) else none
def neD : PyData → PyData → Option Ev := fun x y => if (str2 x y || (SeqAt.shaped x && SeqAt.shaped y)) = true then some (.val (.bool (!PyData.eqv x y))) else none
def itemsD : PyData → Option (List PyData)
  | .list ds => some ds
  | .tuple ds => some ds
  | _ => none
def inD : PyData → PyData → Option Ev := fun x y => (itemsD y).bind fun ds => if (SeqAt.shaped x && SeqAt.shaped y) = true then some (.val (.bool (ds.any fun z => PyData.eqv z x))) else none
def ninD : PyData → PyData → Option Ev := fun x y => (itemsD y).bind fun ds => if (SeqAt.shaped x && SeqAt.shaped y) = true then some (.val (.bool (!ds.any fun z => PyData.eqv z x))) else none
def isNoneD : PyData → Bool
  | .none => true
  | _ => false
def isD : PyData → PyData → Option Ev
  | .bool a, .bool b => some (.val (.bool (decide (a = b))))
  | x, .none => some (.val (.bool (isNoneD x)))
  | _, _ => none
def isnD : PyData → PyData → Option Ev
  | .bool a, .bool b => some (.val (.bool (!decide (a = b))))
  | x, .none => some (.val (.bool (!isNoneD x)))
  | _, _ => none
theorem cmpI_ok {K : PySem.W.Frag} {c : Int → Int → Bool} : OpD K (rI0 fun i j => .bl (c i j)) (cmpI c) := by
  intro S H x y d1 d2 e Q h1 h2 he out
  cases d1 <;> cases d2 <;> simp only [cmpI, reduceCtorEq] at he
  cases he; exact ⟨_, _, h1.int, h2.int, outBl out⟩
theorem shaped_lay {d : PyData} (h : SeqAt.shaped d = true) : d.canLay0 = true := SeqAt.canLay_of_shaped h
def rEqU (K : PySem.W.Frag) : R2 := fun x y H Q => rEq x y H Q ∨ rEqD K x y H Q
def rNeU (K : PySem.W.Frag) : R2 := fun x y H Q => rNe x y H Q ∨ rNeD K x y H Q
theorem op_eqU {X : Cx} (hu : X.A.units + 64 < cLine) : OpR X (compareOp .Eq) (rEqU X.K) := op_eq.or (op_eqD hu)
theorem op_neU {X : Cx} (hu : X.A.units + 64 < cLine) : OpR X (compareOp .NotEq) (rNeU X.K) := op_ne.or (op_neD hu)
theorem str2_ok {K : PySem.W.Frag} {S : Addr → Prop} {H : Hp} {x y : V} {d1 d2 : PyData} (h1 : Dw K S H x d1) (h2 : Dw K S H y d2) (h : str2 d1 d2 = true) : scal x y = true ∧ decide (x = y) = PyData.eqv d1 d2 := by
  cases d1 <;> cases d2 <;> simp only [str2, Bool.false_eq_true] at h
  have e1 := h1.str
  have e2 := h2.str
  subst e1 e2
  exact ⟨rfl, dec_str⟩
theorem eqD_ok {K : PySem.W.Frag} : OpD K (rEqU K) eqD := by
  intro S H x y d1 d2 e Q h1 h2 he out
  unfold eqD at he
  split at he
  · rename_i hc
    cases he
    rcases Bool.or_eq_true_iff.mp hc with hc | hc
    · obtain ⟨e1, e2⟩ := str2_ok h1 h2 hc
      exact .inl ⟨e1, by rw [e2]; exact outBl out⟩
    · simp only [Bool.and_eq_true] at hc
      exact .inr ⟨d1, d2, h1.dp (shaped_lay hc.1), h2.dp (shaped_lay hc.2), hc.1, hc.2, outBl out⟩
  · cases he
theorem neD_ok {K : PySem.W.Frag} : OpD K (rNeU K) neD := by
  intro S H x y d1 d2 e Q h1 h2 he out
  unfold neD at he
  split at he
  · rename_i hc
    cases he
    rcases Bool.or_eq_true_iff.mp hc with hc | hc
    · obtain ⟨e1, e2⟩ := str2_ok h1 h2 hc
      exact .inl ⟨e1, by rw [e2]; exact outBl out⟩
    · simp only [Bool.and_eq_true] at hc
      exact .inr ⟨d1, d2, h1.dp (shaped_lay hc.1), h2.dp (shaped_lay hc.2), hc.1, hc.2, outBl out⟩
  · cases he
end
end G
/-! dicts whose keys are ints or texts -/
namespace G
open PySem PySem.Spec PyProof.Rows L2
def keyOf : PyData → Option Key
  | .int i => some (.inl i)
  | .str x => some (.inr x)
  | _ => none
theorem keyOf_kD (k : Key) : keyOf (kD k) = some k := by cases k <;> rfl
theorem Dw.key {K : PySem.W.Frag} {S : Addr → Prop} {H : Hp} {v : V} {d : PyData} {k : Key} (h : Dw K S H v d) (e : keyOf d = some k) : v = kV k := by
  cases d with
  | int i => cases e; exact h.int
  | str x => cases e; exact h.str
  | _ => cases e
/-- the datum at a key -/
def dget : List (PyData × PyData) → Key → Option PyData
  | [], _ => none
  | (k, d) :: r, q => if keyOf k = some q then some d else dget r q
/-- all keys are ints or texts, and there is one -/
def keyed : List (PyData × PyData) → Bool
  | [] => false
  | (k, _) :: _ => (keyOf k).isSome
theorem Dw.dic {K : PySem.W.Frag} {S : Addr → Prop} {H : Hp} {v : V} {kvs : List (PyData × PyData)} (h : Dw K S H v (.dict kvs)) : ∃ a o, v = .ref a ∧ HasO H a o ∧ Ct K S H o (.dict kvs) := by
  rcases h with h | ⟨a, rfl, o, h1, h2⟩
  · generalize hd : PyData.dict kvs = D at h
    cases h with
    | obj h1 _ c => subst hd; exact ⟨_, _, rfl, h1, c⟩
    | _ => cases hd
  · exact ⟨a, o, rfl, .inl h1, h2⟩
theorem Ct.key {K : PySem.W.Frag} {S : Addr → Prop} {H : Hp} {o : HO} {kvs : List (PyData × PyData)} (h : Ct K S H o (.dict kvs)) (hk : keyed kvs = true) : ∃ (ks : List (Key × V)) (ds : List PyData), o = .dK ks ∧ DrAll K S H (ks.map (·.2)) ds ∧ kvs = (ks.map fun p => kD p.1).zip ds := by
  generalize hd : PyData.dict kvs = D at h
  cases h with
  | lst _ => cases hd
  | dK c => cases hd; exact ⟨_, _, rfl, c, rfl⟩
  | dT c =>
    rename_i ks ds
    cases hd
    cases ks with
    | nil => cases hk
    | cons p r =>
      cases ds with
      | nil => cases hk
      | cons d r => cases hk
theorem HasO.rd {H : Hp} {a : Addr} {ks : List (Key × V)} (h : HasO H a (.dK ks)) : Rd H a (.dK ks) := by
  rcases h with h | ⟨_, od, h⟩
  · exact .inl h
  · exact .inr ⟨od, h⟩
theorem dget_val {K : PySem.W.Frag} {S : Addr → Prop} {H : Hp} (q : Key) : ∀ {ks : List (Key × V)} {ds : List PyData}, DrAll K S H (ks.map (·.2)) ds →
    (∀ d, dget ((ks.map fun p => kD p.1).zip ds) q = some d → ∃ v, valV ks q = some v ∧ Dr K S H v d) ∧ (dget ((ks.map fun p => kD p.1).zip ds) q = none → valV ks q = none)
  | [], ds, h => by
    cases h
    exact ⟨fun d e => (by cases e), fun _ => rfl⟩
  | (k, v) :: ks, _, .cons (d := d) (ds := ds) h1 h2 => by
    obtain ⟨ih1, ih2⟩ := dget_val q h2
    refine ⟨fun d' e => ?_, fun e => ?_⟩
    · simp only [List.map_cons, List.zip_cons_cons, dget, keyOf_kD, Option.some.injEq] at e
      by_cases hk : k = q
      · rw [if_pos hk] at e
        cases e
        exact ⟨v, valV_pos hk, h1⟩
      · rw [if_neg hk] at e
        obtain ⟨u, e1, e2⟩ := ih1 d' e
        exact ⟨u, by rw [valV_neg hk]; exact e1, e2⟩
    · simp only [List.map_cons, List.zip_cons_cons, dget, keyOf_kD, Option.some.injEq] at e
      by_cases hk : k = q
      · rw [if_pos hk] at e; cases e
      · rw [if_neg hk] at e
        rw [valV_neg hk]
        exact ih2 e
theorem dget_keyed {q : Key} {d : PyData} : ∀ {ks : List (List Key × V)} {ds : List PyData}, dget ((ks.map fun p => PyData.tuple (p.1.map kD)).zip ds) q ≠ some d
  | [], _, h => by cases h
  | _ :: ks, [], h => by cases h
  | _ :: ks, _ :: ds, h => by
    simp only [List.map_cons, List.zip_cons_cons, dget, keyOf, reduceCtorEq, if_false] at h
    exact dget_keyed h
/-- d[k], k there -/
theorem Dw.get {K : PySem.W.Frag} {S : Addr → Prop} {H : Hp} {x y : V} {kvs : List (PyData × PyData)} {k d : PyData} {q : Key} (h : Dw K S H x (.dict kvs)) (hk : Dw K S H y k) (hq : keyOf k = some q) (hd : dget kvs q = some d) : ∃ a v, x = .ref a ∧ DGet H a y (some v) ∧ Dr K S H v d := by
  obtain ⟨a, o, rfl, ho, c⟩ := h.dic
  generalize hD : PyData.dict kvs = D at c
  cases c with
  | lst _ => cases hD
  | dK c =>
    cases hD
    obtain ⟨v, e1, e2⟩ := (dget_val q c).1 d hd
    exact ⟨a, v, rfl, .inl ⟨_, q, ho.rd, hk.key hq, e1.symm⟩, e2⟩
  | dT c =>
    cases hD
    exact (dget_keyed hd).elim
def rIxG : R2 := fun x y H Q => ∃ a v, x = .ref a ∧ DGet H a y (some v) ∧ Q v H
section
variable {X : Cx}
theorem ix_dict (hu : X.A.units + 1 < cLine) : IxR X rIxG := by
  intro value slice pins s σ H x y v u Q I rx ry h hs
  obtain ⟨a, r, rfl, g, q⟩ := h
  obtain rfl : v = Value.ref a := rx
  exact tail_any (dict_typeIs I g) PySem.F.slot_dict_getitem.lookup (d_getItem hu I g ry fun w' s3 I3 rw' => ⟨r, H, I3, rw', q⟩) hs
end
/-- the dict with d at the key -/
def dput (kvs : List (PyData × PyData)) (q : Key) (d : PyData) : List (PyData × PyData) := if (dget kvs q).isSome = true then kvs.map (fun p => if keyOf p.1 = some q then (p.1, d) else p) else kvs ++ [(kD q, d)]
theorem map_put {K : PySem.W.Frag} {S : Addr → Prop} {H : Hp} {q : Key} {v : V} {d : PyData} (r : Dr K S H v d) : ∀ {ks : List (Key × V)} {ds : List PyData}, DrAll K S H (ks.map (·.2)) ds →
    ∃ ds', DrAll K S H ((ks.map fun kv => if kv.1 = q then (kv.1, v) else kv).map (·.2)) ds' ∧ ((ks.map fun kv => if kv.1 = q then (kv.1, v) else kv).map fun p => kD p.1).zip ds' = (((ks.map fun p => kD p.1).zip ds).map fun p => if keyOf p.1 = some q then (p.1, d) else p)
  | [], _, h => by cases h; exact ⟨[], .nil, rfl⟩
  | (k, u) :: ks, _, .cons (d := e) (ds := ds) h1 h2 => by
    obtain ⟨ds', a, b⟩ := map_put r h2
    by_cases hk : k = q
    · refine ⟨d :: ds', ?_, ?_⟩
      · simp only [List.map_cons, if_pos hk]
        exact .cons r a
      · simp only [List.map_cons, List.zip_cons_cons, if_pos hk, keyOf_kD, Option.some.injEq]
        rw [b]
    · refine ⟨e :: ds', ?_, ?_⟩
      · simp only [List.map_cons, if_neg hk]
        exact .cons h1 a
      · simp only [List.map_cons, List.zip_cons_cons, if_neg hk, keyOf_kD, Option.some.injEq]
        rw [b]
theorem putK_ok {K : PySem.W.Frag} {S : Addr → Prop} {H : Hp} {q : Key} {v : V} {d : PyData} {ks : List (Key × V)} {ds : List PyData} (c : DrAll K S H (ks.map (·.2)) ds) (r : Dr K S H v d) :
    ∃ ds', DrAll K S H ((putK ks q v).map (·.2)) ds' ∧ ((putK ks q v).map fun p => kD p.1).zip ds' = dput ((ks.map fun p => kD p.1).zip ds) q d := by
  obtain ⟨g1, g2⟩ := dget_val q c
  have hl : ks.length = ds.length := by have := c.length; simpa using this
  unfold putK dput
  cases e : dget ((ks.map fun p => kD p.1).zip ds) q with
  | none =>
    have := g2 e
    rw [valV_any, this]
    simp only [Option.isSome_none, Bool.false_eq_true, if_false]
    refine ⟨ds ++ [d], ?_, ?_⟩
    · rw [List.map_append]
      exact c.append (.cons r .nil)
    · rw [List.map_append, List.zip_append (by simp [hl])]
      rfl
  | some d0 =>
    obtain ⟨u, e1, _⟩ := g1 d0 e
    rw [valV_any, e1]
    simp only [Option.isSome_some, if_true]
    exact map_put r c
end G
namespace G
open PySem PySem.Spec PyProof.Rows L2
section
variable {X : Cx} {A0 : Ax} {W : WX} {a b c e : Expr} {fa fb fc f : SE} {pos : Pos}
theorem gcmp {op : CmpOp} {r : R2} {bd : PyData → PyData → Option Ev} (ho : OpR X (compareOp op) r) (hd : OpD X.K r bd) (ha : PE X a (tE (gc X A0 W) fa)) (hb : PE X b (tE (gc X A0 W) fb)) (hm : behindInMarks op b = false) :
    PE X (.Compare a [op] [b] pos) (tE (gc X A0 W) (op2 bd fa fb)) := PE_imp (pe_cmpR ho ha hb hm) (op2_ok hd)
theorem geq (hu : X.A.units + 64 < cLine) (ha : PE X a (tE (gc X A0 W) fa)) (hb : PE X b (tE (gc X A0 W) fb)) : PE X (.Compare a [.Eq] [b] pos) (tE (gc X A0 W) (op2 eqD fa fb)) := gcmp (op_eqU hu) eqD_ok ha hb (nomark _)
/-! ### a < b < c -/
def boolD : Option Ev → Option Bool
  | some (.val (.bool k)) => some k
  | _ => none
def ch3 (b1 b2 : PyData → PyData → Option Ev) (fa fb fc : SE) : SE := fun ρ => (fa ρ).bind fun p => (fb p.2).bind fun q =>
  match boolD ((peek q.2 p.1).bind fun d1 => (peek q.2 q.1).bind fun d2 => b1 d1 d2) with
  | some false => .ok (.val (.bool false), q.2)
  | some true => (fc q.2).bind fun r => resE r.2 ((peek r.2 q.1).bind fun d1 => (peek r.2 r.1).bind fun d2 => b2 d1 d2)
  | none => .bad
/-- an operation whose answer changes nothing and is the same for the same data -/
theorem chain_ok {r r' : R2} {b1 b2 : PyData → PyData → Option Ev} (hd : OpD X.K r b1) (hd' : OpD X.K r' b2) : ∀ σ H Q, tE (gc X A0 W) (ch3 b1 b2 fa fb fc) σ H Q → tChain r r' (tE (gc X A0 W) fa) (tE (gc X A0 W) fb) (tE (gc X A0 W) fc) σ H Q := by
  rintro σ H Q ⟨S, ρ, rp, h⟩
  refine tE_bind (P := fun z => PostE (gc X A0 W) S H σ ρ z Q) exE PostE.bad rp h fun p S1 H1 v1 t1 r1 e1 h => ?_
  refine tE_bind (P := fun z => PostE (gc X A0 W) S1 H1 σ p.2 z Q) exE PostE.bad r1 (h.from t1) fun q S2 H2 v2 t2 r2 e2 h => ?_
  have e1' := e1.mono r1 t2
  cases p1 : peek q.2 p.1 with
  | none => rw [p1] at h; exact h.elim
  | some d1 =>
    rw [p1] at h
    cases p2 : peek q.2 q.1 with
    | none => rw [p2] at h; exact h.elim
    | some d2 =>
      rw [p2] at h
      simp only [Option.bind_some] at h
      cases hb1 : b1 d1 d2 with
      | none => rw [hb1] at h; exact h.elim
      | some ev =>
        rw [hb1] at h
        cases ev with
        | fr d => exact h.elim
        | sl i => exact h.elim
        | val d =>
          cases d with
          | bool k =>
            refine hd S2 H2 v1 v2 d1 d2 _ _ (peek_ok r2 e1' p1) (peek_ok r2 e2 p2) hb1 fun v H3 s3 dv => ?_
            obtain rfl := dv.w.bl
            refine ⟨k, rfl, ?_⟩
            have t3 := t2.same s3
            have r3 := r2.same s3
            cases k with
            | false => exact iteF ((h : PostE (gc X A0 W) S1 H1 σ p.2 (.ok (.val (.bool false), q.2)) Q) S2 H3 _ t3 r3 (.bl false))
            | true =>
              refine iteT ?_
              refine tE_bind (P := fun z => PostE (gc X A0 W) S2 H3 σ q.2 z Q) exE PostE.bad r3 (PostE.from t3 h) fun r S4 H4 v4 t4 r4 e4 h4 => ?_
              obtain ⟨ev, he, out⟩ := resE_out t4 r4 h4
              have e2' : RE X.K A0 H1 S4 H4 σ r.2 v2 q.1 := RE.mono r3 t4 (e2.mono (ρ' := q.2) r2 (Tr.refl.same s3))
              cases p3 : peek r.2 q.1 with
              | none => rw [p3] at he; cases he
              | some d3 =>
                rw [p3] at he
                cases p4 : peek r.2 r.1 with
                | none => rw [p4] at he; cases he
                | some d4 =>
                  rw [p4] at he
                  exact hd' S4 H4 v2 v4 d3 d4 ev Q (peek_ok r4 e2' p3) (peek_ok r4 e4 p4) he out
          | _ => exact h.elim
theorem gchain {op op' : CmpOp} {r r' : R2} {b1 b2 : PyData → PyData → Option Ev} (ho : OpR X (compareOp op) r) (ho' : OpR X (compareOp op') r') (hd : OpD X.K r b1) (hd' : OpD X.K r' b2)
    (ha : PE X a (tE (gc X A0 W) fa)) (hb : PE X b (tE (gc X A0 W) fb)) (hc : PE X c (tE (gc X A0 W) fc)) (hm : lastMarks [op, op'] [b, c] = false := by with_unfolding_all rfl) :
    PE X (.Compare a [op, op'] [b, c] pos) (tE (gc X A0 W) (ch3 b1 b2 fa fb fc)) := PE_imp (pe_chain ho ho' ha hb hc hm) (chain_ok hd hd')
end
/-! ### tests -/
section
variable {X : Cx} {A0 : Ax} {W : WX} {a b c e : Expr} {f fa fb : SE} {ga gb : SB} {pos : Pos} {rest : List Expr}
def fB (f : SE) : SB := fun ρ => (f ρ).bind fun p => match peek p.2 p.1 with
  | some (.bool k) => .ok (k, p.2)
  | _ => .bad
theorem fB_ok {g : Gc} : ∀ σ H Q, tT g (fB f) σ H Q → tB (tE g f) σ H Q := by
  rintro σ H Q ⟨S, ρ, rp, h⟩
  refine tE_bind (P := fun z => PostT g S H σ ρ z Q) exT PostT.bad rp h fun p S1 H1 v1 t1 r1 e1 h => ?_
  cases p1 : peek p.2 p.1 with
  | none => rw [p1] at h; exact h.elim
  | some d =>
    rw [p1] at h
    cases d with
    | bool k => exact ⟨k, (peek_ok r1 e1 p1).bl, h S1 H1 t1 r1⟩
    | _ => exact h.elim
theorem gtv (h : PE X e (tE (gc X A0 W) f)) (he : ∀ whole, isTrue e X.env whole = (do let v ← whole; standAt e.pos; holding [v] (truthy v)) := by intro _; rfl) : PT X e (tT (gc X A0 W) (fB f)) := PT_imp (pt_val h he) fB_ok
/-- a op b as a test -/
theorem gtcmp {op : CmpOp} {r : R2} {bd : PyData → PyData → Option Ev} (ho : OpR X (compareOp op) r) (hd : OpD X.K r bd) (ha : PE X a (tE (gc X A0 W) fa)) (hb : PE X b (tE (gc X A0 W) fb)) (hm : behindInMarks op b = false) :
    PT X (.Compare a [op] [b] pos) (tT (gc X A0 W) (fB (op2 bd fa fb))) := PT_imp (pt_cmpR ho ha hb hm) fun σ H Q h => op2_ok hd σ H _ (fB_ok σ H Q h)
theorem gtchain {op op' : CmpOp} {r r' : R2} {b1 b2 : PyData → PyData → Option Ev} {fc : SE} (ho : OpR X (compareOp op) r) (ho' : OpR X (compareOp op') r') (hd : OpD X.K r b1) (hd' : OpD X.K r' b2)
    (ha : PE X a (tE (gc X A0 W) fa)) (hb : PE X b (tE (gc X A0 W) fb)) (hc : PE X c (tE (gc X A0 W) fc)) (hm : lastMarks [op, op'] [b, c] = false := by with_unfolding_all rfl) :
    PT X (.Compare a [op, op'] [b, c] pos) (tT (gc X A0 W) (fB (ch3 b1 b2 fa fb fc))) := PT_imp (pt_chain ho ho' ha hb hc hm) fun σ H Q h => chain_ok hd hd' σ H _ (fB_ok σ H Q h)
def andB (fa fb : SB) : SB := fun ρ => (fa ρ).bind fun p => if p.1 = true then fb p.2 else .ok (false, p.2)
def orB (fa fb : SB) : SB := fun ρ => (fa ρ).bind fun p => if p.1 = true then .ok (true, p.2) else fb p.2
def notB (fa : SB) : SB := fun ρ => (fa ρ).bind fun p => .ok (!p.1, p.2)
theorem gor1 (ha : PT X a (tT (gc X A0 W) ga)) : PW X (.BoolOp .Or [a] pos) (tT (gc X A0 W) ga) := pw_or1 ha
theorem gor (ha : PT X a (tT (gc X A0 W) ga)) (hb : PW X (.BoolOp .Or (b :: rest) pos) (tT (gc X A0 W) gb)) : PW X (.BoolOp .Or (a :: b :: rest) pos) (tT (gc X A0 W) (orB ga gb)) := by
  refine PW_imp (pw_or ha hb) ?_
  rintro σ H Q ⟨S, ρ, rp, h⟩
  refine tT_bind (P := fun z => PostT (gc X A0 W) S H σ ρ z Q) exT PostT.bad rp h fun p S1 H1 t1 r1 h => ?_
  cases hp : p.1 with
  | true => rw [hp] at h; exact iteT ((show PostT (gc X A0 W) S H σ ρ (.ok (true, p.2)) Q from h) S1 H1 t1 r1)
  | false => rw [hp] at h; exact iteF ⟨S1, p.2, r1, PostT.from t1 h⟩
theorem gnot (ha : PT X a (tT (gc X A0 W) ga)) : PT X (.UnaryOp .Not a pos) (tT (gc X A0 W) (notB ga)) := by
  refine PT_imp (pt_not ha) ?_
  rintro σ H Q ⟨S, ρ, rp, h⟩
  exact tT_bind (P := fun z => PostT (gc X A0 W) S H σ ρ z Q) exT PostT.bad rp h fun p S1 H1 t1 r1 h => h S1 H1 t1 r1
/-! and, or, not as values -/
def andV (fa fb : SE) : SE := fun ρ => (fB fa ρ).bind fun p => if p.1 = true then fb p.2 else .ok (.val (.bool false), p.2)
def orV (fa fb : SE) : SE := fun ρ => (fB fa ρ).bind fun p => if p.1 = true then .ok (.val (.bool true), p.2) else fb p.2
def notV (fa : SE) : SE := fun ρ => (fB fa ρ).bind fun p => .ok (.val (.bool (!p.1)), p.2)
theorem fB_bind {g : Gc} {S : Addr → Prop} {H : Hp} {σ : St} {ρ : List B} {R : VK} {Q : VK} {k : Bool × List B → Rs (Ev × List B)} (r : Rp g.K g.A0 S H σ ρ) (h : PostE g S H σ ρ ((fB fa ρ).bind k) Q)
    (hk : ∀ (c : Bool) (ρ1 : List B) S' H', Tr S H (Ow σ ρ) S' H' (Ow σ ρ1) → Rp g.K g.A0 S' H' σ ρ1 → PostE g S H σ ρ (k (c, ρ1)) Q → R (.bl c) H') : tE g fa σ H R := by
  refine tE_bind (f := fa) (k := fun p => (match peek p.2 p.1 with | some (.bool c) => (Rs.ok (c, p.2) : Rs (Bool × List B)) | _ => Rs.bad).bind k) (P := fun z => PostE g S H σ ρ z Q) exE PostE.bad r ?_ fun p S1 H1 v1 t1 r1 e1 h => ?_
  · have e : (fB fa ρ).bind k = (fa ρ).bind (fun p => (match peek p.2 p.1 with | some (.bool c) => (Rs.ok (c, p.2) : Rs (Bool × List B)) | _ => Rs.bad).bind k) := by
      unfold fB
      cases fa ρ with
      | ok p => rfl
      | ex n ρ' => rfl
      | bad => rfl
    rw [e] at h
    exact h
  · cases p1 : peek p.2 p.1 with
    | none => rw [p1] at h; exact h.elim
    | some d =>
      rw [p1] at h
      cases d with
      | bool c =>
        rw [(peek_ok r1 e1 p1).bl]
        exact hk c p.2 S1 H1 t1 r1 h
      | _ => exact h.elim
theorem gandV (ha : PE X a (tE (gc X A0 W) fa)) (hb : PE X (.BoolOp .And (b :: rest) pos) (tE (gc X A0 W) fb)) : PE X (.BoolOp .And (a :: b :: rest) pos) (tE (gc X A0 W) (andV fa fb)) := by
  refine PE_imp (pe_and ha hb) ?_
  rintro σ H Q ⟨S, ρ, rp, h⟩
  refine fB_bind rp h fun c ρ1 S1 H1 t1 r1 h => ⟨c, rfl, ?_⟩
  cases c with
  | false => exact iteF ((show PostE (gc X A0 W) S H σ ρ (.ok (.val (.bool false), ρ1)) Q from h) S1 H1 _ t1 r1 (.bl false))
  | true => exact iteT ⟨S1, ρ1, r1, PostE.from t1 h⟩
theorem gone {op} (h : PE X a (tE (gc X A0 W) fa)) : PE X (.BoolOp op [a] pos) (tE (gc X A0 W) fa) := pe_one h
theorem gnotV (ha : PE X a (tE (gc X A0 W) fa)) : PE X (.UnaryOp .Not a pos) (tE (gc X A0 W) (notV fa)) := by
  refine PE_imp (pe_not ha) ?_
  rintro σ H Q ⟨S, ρ, rp, h⟩
  exact fB_bind rp h fun c ρ1 S1 H1 t1 r1 h => ⟨c, rfl, (show PostE (gc X A0 W) S H σ ρ (.ok (.val (.bool (!c)), ρ1)) Q from h) S1 H1 _ t1 r1 (.bl _)⟩
def ifE (t : SB) (fa fb : SE) : SE := fun ρ => (t ρ).bind fun p => if p.1 = true then fa p.2 else fb p.2
end
/-! ### arguments, displays -/
section
variable {X : Cx} {A0 : Ax} {W : WX} {e : Expr} {es : List Expr} {f : SE} {fs : SA} {pos : Pos}
def aNil : SA := fun ρ => .ok ([], ρ)
def aCons (f : SE) (fs : SA) : SA := fun ρ => (f ρ).bind fun p => (fs p.2).bind fun q => .ok (settle p.1 :: q.1, q.2)
theorem gnil : PA X [] (tA (gc X A0 W) aNil) := PA_imp pa_nil fun σ H Q ⟨S, ρ, r, h⟩ => h S H [] Tr.refl r .nil
theorem gcons (ha : PE X e (tE (gc X A0 W) f)) (hr : PA X es (tA (gc X A0 W) fs)) (hs : starEach (e :: es) X.env = (false, eval e X.env) :: starEach es X.env := by rfl) : PA X (e :: es) (tA (gc X A0 W) (aCons f fs)) := by
  refine PA_imp (pa_cons ha hr hs) ?_
  rintro σ H Q ⟨S, ρ, rp, h⟩
  refine tE_bind (P := fun z => PostA (gc X A0 W) S H σ ρ z Q) exA PostA.bad rp h fun p S1 H1 v1 t1 r1 e1 h => ?_
  obtain ⟨S1', t1', r1', e1', _⟩ := settle_ok t1 r1 e1
  refine tA_bind (P := fun z => PostA (gc X A0 W) S1' H1 σ p.2 z Q) exA PostA.bad r1' (h.from t1') fun q S2 H2 vs t2 r2 e2 h => ?_
  exact h S2 H2 (v1 :: vs) t2 r2 (.cons (e1'.ex (r1'.ex t2)) e2)
/-- what stands in a slot is given away -/
def shr (ρ : List B) : Ev → Option (PyData × List B)
  | .val d => some (d, ρ)
  | .fr d => some (d, ρ)
  | .sl i => match ρ[i]? with
    | some (.own d) => some (d, ρ.set i (.val d))
    | some (.val d) => some (d, ρ)
    | _ => none
theorem ow_set {σ : St} {ρ : List B} {i : Nat} {b : B} (hb : isOw (some b) = false) {a : Addr} (h : Ow σ (ρ.set i b) a) : Ow σ ρ a ∧ ¬ ∃ o, OwI σ ρ i o ∧ o = a ∧ ∀ j, OwI σ ρ j a → j = i := by
  obtain ⟨j, h1, h2⟩ := h
  by_cases e : i = j
  · subst e
    by_cases hl : i < ρ.length
    · rw [List.getElem?_set_self hl, hb] at h1; cases h1
    · rw [List.getElem?_eq_none (by rw [List.length_set]; omega)] at h1; cases h1
  · rw [List.getElem?_set_ne e] at h1
    exact ⟨⟨j, h1, h2⟩, fun ⟨o, _, _, u⟩ => e (u j ⟨h1, h2⟩).symm⟩
theorem shr_sl {K : PySem.W.Frag} {A0 : Ax} {S : Addr → Prop} {H : Hp} {σ : St} {ρ : List B} {i : Nat} {d : PyData} (r : Rp K A0 S H σ ρ) (e : ρ[i]? = some (.own d)) :
    ∃ a, σ[i]? = some (some (.ref a)) ∧ Ow σ ρ a ∧ Rp K A0 (Sadd S a) H σ (ρ.set i (.val d)) ∧ Dr K (Sadd S a) H (.ref a) d ∧ (∀ b, Ow σ (ρ.set i (.val d)) b → Ow σ ρ b) := by
  obtain ⟨a, e1, e2, o, e3, e4⟩ := r.bd i _ e
  have ow : OwI σ ρ i a := by unfold OwI; rw [e]; exact ⟨rfl, e1⟩
  have hl : i < ρ.length := (List.getElem?_eq_some_iff.mp e).1
  have dr : Dr K (Sadd S a) H (.ref a) d := .obj (.inl e3) (.inr rfl) (e4.ex (Ex.add a))
  have sub : ∀ b, Ow σ (ρ.set i (.val d)) b → Ow σ ρ b := fun b h => (ow_set rfl h).1
  refine ⟨a, e1, ⟨i, ow⟩, ⟨by rw [List.length_set]; exact r.len, fun j b hb => ?_, fun j k c h1 h2 => ?_, fun c hc => ?_, fun j d' c h1 h2 => ?_, r.aa, r.tb⟩, dr, sub⟩
  · by_cases hj : i = j
    · subst hj
      rw [List.getElem?_set_self hl] at hb; cases hb
      exact ⟨_, e1, dr⟩
    · rw [List.getElem?_set_ne hj] at hb
      have q := r.bd j b hb
      cases b with
      | un => trivial
      | exc n => exact bd_exc (Ex.add a) q
      | val d' => obtain ⟨v, q1, q2⟩ := q; exact ⟨v, q1, q2.ex (Ex.add a)⟩
      | own d' =>
        obtain ⟨c, q1, q2, q3⟩ := q
        refine ⟨c, q1, fun z => ?_, q3.ex (Ex.add a) fun _ h => h⟩
        rcases z with z | rfl
        · exact q2 z
        · exact hj (r.dis i j c ow (by unfold OwI; rw [hb]; exact ⟨rfl, q1⟩))
      | prm d' =>
        obtain ⟨c, q1, q0, q2, q3⟩ := q
        refine ⟨c, q1, q0, fun z => ?_, q3.ex (Ex.add a) fun _ h => h⟩
        rcases z with z | rfl
        · exact q2 z
        · exact hj (r.dis i j c ow (by unfold OwI; rw [hb]; exact ⟨rfl, q1⟩))
  · have w1 : OwI σ ρ j c := by
      by_cases hj : i = j
      · subst hj; unfold OwI at h1; rw [List.getElem?_set_self hl] at h1; cases h1.1
      · unfold OwI at h1 ⊢; rw [List.getElem?_set_ne hj] at h1; exact h1
    have w2 : OwI σ ρ k c := by
      by_cases hj : i = k
      · subst hj; unfold OwI at h2; rw [List.getElem?_set_self hl] at h2; cases h2.1
      · unfold OwI at h2 ⊢; rw [List.getElem?_set_ne hj] at h2; exact h2
    exact r.dis j k c w1 w2
  · rcases hc with hc | rfl
    · exact r.al c hc
    · exact ⟨o, e3⟩
  · by_cases hj : i = j
    · subst hj; rw [List.getElem?_set_self hl] at h1; cases h1
    · rw [List.getElem?_set_ne hj] at h1; exact r.np j d' c h1 h2
theorem shr_ok {K : PySem.W.Frag} {A0 : Ax} {S S0 : Addr → Prop} {H H0 : Hp} {σ : St} {ρ ρ' : List B} {O0 : Addr → Prop} {v : V} {e : Ev} {d : PyData}
    (t : Tr S0 H0 O0 S H (Ow σ ρ)) (r : Rp K A0 S H σ ρ) (h : RE1 K S H σ v e) (q : shr ρ e = some (d, ρ')) :
    ∃ S', Tr S0 H0 O0 S' H (Ow σ ρ') ∧ Rp K A0 S' H σ ρ' ∧ Dr K S' H v d ∧ Ex S H S' H := by
  cases e with
  | val d' => cases q; exact ⟨S, t, r, h, Ex.same fun _ _ e => e⟩
  | fr d' => exact h.elim
  | sl i =>
    have hv : σ[i]? = some (some v) := h
    unfold shr at q
    cases e : ρ[i]? with
    | none => simp only [e, reduceCtorEq] at q
    | some b =>
      simp only [e] at q
      cases b with
      | un => cases q
      | exc n => cases q
      | prm d' => cases q
      | val d' =>
        cases q
        obtain ⟨u, e1, e2⟩ := r.bd i _ e
        rw [hv] at e1; cases e1
        exact ⟨S, t, r, e2, Ex.same fun _ _ e => e⟩
      | own d' =>
        cases q
        obtain ⟨a, e1, ow, r', dr, sub⟩ := shr_sl r e
        rw [hv] at e1; cases e1
        refine ⟨Sadd S a, ?_, r', dr, Ex.add a⟩
        have t' := t.add (a := a) (by
          rcases t.o a ow with z | z
          · exact .inr z
          · exact .inl z)
        exact ⟨t'.s, t'.keep, t'.dom, fun b hb => t.o b (sub b hb), t'.g⟩
def shrs (ρ : List B) : List Ev → Option (List PyData × List B)
  | [] => some ([], ρ)
  | e :: es => (shr ρ e).bind fun p => (shrs p.2 es).map fun q => (p.1 :: q.1, q.2)
theorem shrs_ok {K : PySem.W.Frag} {A0 : Ax} {S0 : Addr → Prop} {H H0 : Hp} {σ : St} {O0 : Addr → Prop} : ∀ {vs : List V} {es : List Ev} {S : Addr → Prop} {ρ ρ' : List B} {ds : List PyData},
    Tr S0 H0 O0 S H (Ow σ ρ) → Rp K A0 S H σ ρ → Paired (RE1 K S H σ) vs es → shrs ρ es = some (ds, ρ') → ∃ S', Tr S0 H0 O0 S' H (Ow σ ρ') ∧ Rp K A0 S' H σ ρ' ∧ DrAll K S' H vs ds ∧ Ex S H S' H
  | _, _, S, ρ, ρ', ds, t, r, .nil, q => by cases q; exact ⟨S, t, r, .nil, Ex.same fun _ _ e => e⟩
  | _, _, S, ρ, ρ', ds, t, r, .cons (b := e) (l₂ := es) a rest, q => by
    unfold shrs at q
    cases h1 : shr ρ e with
    | none => rw [h1] at q; cases q
    | some p =>
      rw [h1] at q
      cases h2 : shrs p.2 es with
      | none => rw [Option.bind_some, h2] at q; cases q
      | some p2 =>
        rw [Option.bind_some, h2] at q; cases q
        obtain ⟨S1, t1, r1, d1, x1⟩ := shr_ok t r a h1
        obtain ⟨S2, t2, r2, d2, x2⟩ := shrs_ok t1 r1 (RE1s.ex x1 rest) h2
        exact ⟨S2, t2, r2, .cons (d1.ex x2) d2, ⟨fun b hb => x2.s b (x1.s b hb), fun _ _ _ _ e => e, fun _ _ e => e, fun _ _ _ e => e⟩⟩
/-- a display: what it makes of the items -/
def dispE (mk : List PyData → Ev) (fs : SA) : SE := fun ρ => (fs ρ).bind fun p => match shrs p.2 p.1 with
  | some (ds, ρ') => if ds.length ≤ sizeLine then resE ρ' (some (mk ds)) else .bad
  | none => .bad
theorem disp_ok {g : Gc} {mk : List PyData → Ev} {σ : St} {H : Hp} {Q : VK} (h : tE g (dispE mk fs) σ H Q) {R : List V → Hp → Prop}
    (hR : ∀ S' H' vs ds, DrAll g.K S' H' vs ds → vs.length ≤ sizeLine → Out g.K S' H' (mk ds) Q → R vs H') : tA g fs σ H R := by
  obtain ⟨S, ρ, rp, h⟩ := h
  refine tA_bind (P := fun z => PostE g S H σ ρ z Q) exE PostE.bad rp h fun p S1 H1 vs t1 r1 e1 h => ?_
  cases q : shrs p.2 p.1 with
  | none => rw [q] at h; exact h.elim
  | some pr =>
    obtain ⟨ds, ρ'⟩ := pr
    rw [q] at h
    obtain ⟨S2, t2, r2, d2, _⟩ := shrs_ok t1 r1 e1 q
    simp only at h
    split at h
    · rename_i hl
      obtain ⟨ev, he, out⟩ := resE_out t2 r2 h
      cases he
      exact hR S2 H1 vs ds d2 (by rw [d2.length]; exact hl) out
    · exact h.elim
def tupE (fs : SA) : SE := dispE (fun ds => .val (.tuple ds)) fs
def lstE (fs : SA) : SE := dispE (fun ds => .fr (.list ds)) fs
theorem gtup {x1} (h : PA X es (tA (gc X A0 W) fs)) : PE X (.Tuple es x1 pos) (tE (gc X A0 W) (tupE fs)) := PE_imp (pe_tup h) fun σ H Q q => disp_ok (g := gc X A0 W) q fun S' H' vs ds d hl out => ⟨hl, outTup d out⟩
theorem glst (h : PA X es (tA (gc X A0 W) fs)) : PE X (.List es pos) (tE (gc X A0 W) (lstE fs)) := PE_imp (pe_lst h) fun σ H Q q => disp_ok (g := gc X A0 W) q fun S' H' vs ds d hl out => ⟨hl, outLst d out⟩
end
/-! ### items, slices -/
section
variable {X : Cx} {A0 : Ax} {W : WX} {a b : Expr} {fa fb : SE} {pos : Pos}
def ixD : PyData → PyData → Option Ev
  | .list ds, .int i => (atI ds i).map .val
  | .tuple ds, .int i => (atI ds i).map .val
  | .str z, .int i => if z.length ≤ sizeLine then (atI z.cps.toList i).map fun c => .val (.str ⟨#[c]⟩) else none
  | .dict kvs, k => (keyOf k).bind fun q => (dget kvs q).map .val
  | _, _ => none
theorem atI_dr {K : PySem.W.Frag} {S : Addr → Prop} {H : Hp} {xs : List V} {ds : List PyData} {i : Int} {d : PyData} (r : DrAll K S H xs ds) (h : atI ds i = some d) : ∃ v, atI xs i = some v ∧ Dr K S H v d := by
  unfold atI at h ⊢
  rw [r.length]
  cases e : ixN ds.length i with
  | none => rw [e] at h; cases h
  | some j =>
    rw [e] at h
    exact r.get h
theorem ixD_ok {K : PySem.W.Frag} : OpD K (fun x y H Q => rIx K x y H Q ∨ rIxG x y H Q) ixD := by
  intro S H x y d1 d2 e Q h1 h2 he out
  cases d1 with
  | none => cases d2 <;> cases he
  | bool b => cases d2 <;> cases he
  | int b => cases d2 <;> cases he
  | str z =>
    cases d2 with
    | int i =>
      simp only [ixD] at he
      split at he
      · rename_i hz
        cases e1 : atI z.cps.toList i with
        | none => rw [e1] at he; cases he
        | some c =>
          rw [e1] at he; cases he
          exact .inl (.inr (.inr ⟨z, i, c, h1.str, h2.int, hz, e1, outStr out⟩))
      · cases he
    | _ => cases he
  | list ds =>
    cases d2 with
    | int i =>
      simp only [ixD] at he
      cases e1 : atI ds i with
      | none => rw [e1] at he; cases he
      | some d =>
        rw [e1] at he; cases he
        obtain ⟨a, xs, rfl, q, r⟩ := h1.lst
        obtain ⟨v, e2, dv⟩ := atI_dr r e1
        exact .inl (.inl ⟨a, xs, i, v, rfl, h2.int, q.sq, e2, out v H (fun _ _ e => e) dv⟩)
    | _ => cases he
  | tuple ds =>
    cases d2 with
    | int i =>
      simp only [ixD] at he
      cases e1 : atI ds i with
      | none => rw [e1] at he; cases he
      | some d =>
        rw [e1] at he; cases he
        obtain ⟨a, xs, rfl, q, r⟩ := h1.tup
        obtain ⟨v, e2, dv⟩ := atI_dr r e1
        exact .inl (.inr (.inl ⟨a, xs, i, v, rfl, h2.int, q, e2, out v H (fun _ _ e => e) dv⟩))
    | _ => cases he
  | dict kvs =>
    have he' : ((keyOf d2).bind fun q => (dget kvs q).map Ev.val) = some e := by cases d2 <;> exact he
    cases hq : keyOf d2 with
    | none => rw [hq] at he'; cases he'
    | some q =>
      rw [hq] at he'
      cases hg : dget kvs q with
      | none => simp only [Option.bind, hg, Option.map_none, reduceCtorEq] at he'
      | some d =>
        simp only [Option.bind, hg, Option.map_some, Option.some.injEq] at he'
        subst he'
        obtain ⟨a, v, rfl, g, dr⟩ := h1.get h2 hq hg
        exact .inr ⟨a, v, rfl, g, out v H (fun _ _ e => e) dr⟩
theorem gix (hu : X.A.units + 1 < cLine) (ha : PE X a (tE (gc X A0 W) fa)) (hb : PE X b (tE (gc X A0 W) fb)) (hs : PlainIx b := by exact fun _ _ => rfl) : PE X (.Subscript a b pos) (tE (gc X A0 W) (op2 ixD fa fb)) := PE_imp (pe_ix (ix_seq.or (ix_dict hu)) ha hb hs) (op2_ok ixD_ok)
end
end G
namespace G
open PySem PySem.Spec PyProof.Rows L2
/-! ### what is read off the real heap -/
section
variable {X : Cx} {pins : List (Addr × Obj)} {σ : St} {H : Hp} {s : Shared} {S : Addr → Prop}
theorem pairs_vals {P : Program} {w : World} : ∀ {es : List DictEntry} {vs : List (Key × Value)}, Pairs (mixKind P w) es vs → es.map (·.val) = vs.map (·.2)
  | _, _, .nil => rfl
  | _, _, .cons _ he t => by simp only [List.map_cons, he, pairs_vals t]
theorem kv_vals {κ : Type} : ∀ {kvs : List (κ × V)} {vs : List (κ × Value)}, KV kvs vs → Vals (kvs.map (·.2)) (vs.map (·.2)) ∧ kvs.map (·.1) = vs.map (·.1)
  | _, _, .nil => ⟨.nil, rfl⟩
  | _, _, .cons ⟨a, b⟩ t => by
    obtain ⟨h1, h2⟩ := kv_vals t
    exact ⟨.cons b h1, by simp only [List.map_cons, a, h2]⟩
theorem zip_fst {α β : Type} : ∀ {l : List α} {m : List β}, l.length = m.length → (l.zip m).map (·.1) = l
  | [], [], _ => rfl
  | a :: l, b :: m, h => by simp only [List.zip_cons_cons, List.map_cons, zip_fst (Nat.succ.inj h)]
theorem zip_snd {α β : Type} : ∀ {l : List α} {m : List β}, l.length = m.length → (l.zip m).map (·.2) = m
  | [], [], _ => rfl
  | a :: l, b :: m, h => by simp only [List.zip_cons_cons, List.map_cons, zip_snd (Nat.succ.inj h)]
theorem kt_vals {P : Program} {w : World} : ∀ {kvs : List (List Key × V)} {xs : List (List Key × Addr × Value)}, KT H kvs xs → Vals (kvs.map (·.2)) ((xs.map (entryOfKey (tupleKind (mixKind P w)))).map (·.val))
  | _, _, .nil => .nil
  | _, _, .cons ⟨_, _, h3⟩ t => .cons h3 (kt_vals t)
/-- no object that is the module table -/
def NoSys (as : List Addr) : Prop := sysModules ∉ as
/-- what more is known around a body: no repr is running; the module table stands in the base -/
structure GX (X : Cx) : Prop where
  gd : X.A.guards = some []
  sys : ∃ o es ep, X.base.get? sysModules = some o ∧ o.data = .dict es ep
  un : X.A.units + 150 < cLine
theorem GX.ne_lst (G : GX X) (I : Inv X pins σ H s) {a : Addr} {xs : List V} (ha : LstX X.K H a xs) : a ≠ sysModules := by
  obtain ⟨o, es, ep, e, hc⟩ := G.sys
  rintro rfl
  obtain ⟨e2, hn⟩ := I.bs _ _ e
  rcases ha with h | ⟨o', h⟩ | ⟨its, n, h, _⟩
  · rw [hn] at h; cases h
  · rw [hn] at h; cases h
  · have := I.mod.kin _ _ h
    rw [e] at this; cases this
    cases hc
theorem Ct.reads_lst (G : GX X) (I : Inv X pins σ H s) {xs : List V} {ds : List PyData} (h : ∀ us, Vals xs us → ∃ as, ReadsAll s.heap us ds as ∧ NoSys as) {a : Addr} (ha : LstX X.K H a xs) : ∃ as, Reads s.heap (.ref a) (.list ds) as ∧ NoSys as := by
  obtain ⟨its, n, rv, e, z⟩ := ha.at_ I
  obtain ⟨as, hr, hn⟩ := h its rv
  refine ⟨_, Reads.list e rfl rfl (by simpa using hr), fun hm => ?_⟩
  rcases List.mem_cons.mp hm with hm | hm
  · exact G.ne_lst I ha hm.symm
  · exact hn hm
theorem nosys_nil : NoSys [] := fun h => nomatch h
theorem pairs_read {h : Heap} {P : Program} {w : World} : ∀ {es : List DictEntry} {vs : List (Key × Value)}, Pairs (mixKind P w) es vs → ∃ as, ReadsAll h (es.map (·.key)) (vs.map fun p => kD p.1) as ∧ NoSys as
  | _, _, .nil => ⟨_, .nil, nosys_nil⟩
  | _, _, .cons (e := e) (kv := kv) hk _ t => by
    obtain ⟨as, q, n⟩ := pairs_read (h := h) t
    rcases keyIs_shape hk with ⟨i, u, e1, e2⟩ | ⟨x, u, e1, e2⟩
    · exact ⟨[] ++ as, .cons (by show Reads h e.key (kD kv.1) []; rw [e1, e2]; exact Reads.int i u) q, n⟩
    · exact ⟨[] ++ as, .cons (by show Reads h e.key (kD kv.1) []; rw [e1, e2]; exact Reads.str x u) q, n⟩
theorem keys_read {h : Heap} : ∀ (ks : List Key) (us : List Value), Vals (ks.map kV) us → ∃ as, ReadsAll h us (ks.map kD) as ∧ NoSys as
  | [], _, r => by cases r; exact ⟨_, .nil, nosys_nil⟩
  | .inl i :: ks, _, .cons r t => by
    obtain ⟨as, q, n⟩ := keys_read (h := h) ks _ t
    obtain ⟨u, rfl⟩ := r
    exact ⟨[] ++ as, .cons (Reads.int i u) q, n⟩
  | .inr x :: ks, _, .cons r t => by
    obtain ⟨as, q, n⟩ := keys_read (h := h) ks _ t
    obtain ⟨u, rfl⟩ := r
    exact ⟨[] ++ as, .cons (Reads.str x u) q, n⟩
theorem nosys_app {as bs : List Addr} (h : NoSys as) (h' : NoSys bs) : NoSys (as ++ bs) := fun z => (List.mem_append.mp z).elim h h'
theorem kt_read (I : Inv X pins σ H s) : ∀ {kvs : List (List Key × V)} {xs : List (List Key × Addr × Value)}, KT H kvs xs → ∃ as, ReadsAll s.heap ((xs.map (entryOfKey (tupleKind (mixKind X.prog X.w)))).map (·.key)) (kvs.map fun p => PyData.tuple (p.1.map kD)) as ∧ NoSys as
  | _, _, .nil => ⟨_, .nil, nosys_nil⟩
  | _, _, .cons (a := p) (b := q) ⟨h1, h2, h3⟩ t => by
    obtain ⟨as, r, n1⟩ := kt_read I t
    obtain ⟨_, its, rv, o, ho, hc, n, hd⟩ := I.hok _ _ h2
    obtain ⟨bs, r2, n2⟩ := keys_read (h := s.heap) p.1 its rv
    exact ⟨_, .cons (Reads.tuple ho hc hd r2) r, nosys_app n2 n1⟩
theorem hokO (I : Inv X pins σ H s) {a : Addr} {o : HO} (h : HasO H a o) : ObjOk X.prog X.w H s.heap a o := by
  rcases h with h | ⟨_, od, h⟩
  · exact I.hok a _ h
  · exact (show ObjOk X.prog X.w H s.heap a (.frz od o) from I.hok a _ h).2
theorem reads_all (G : GX X) (I : Inv X pins σ H s) {v : V} {d : PyData} (h : Dr X.K S H v d) : ∀ u, RelV v u → ∃ as, Reads s.heap u d as ∧ NoSys as :=
  Dr.rec (motive_1 := fun v d _ => ∀ u, RelV v u → ∃ as, Reads s.heap u d as ∧ NoSys as) (motive_2 := fun vs ds _ => vs.length = ds.length ∧ ∀ us, Vals vs us → ∃ as, ReadsAll s.heap us ds as ∧ NoSys as) (motive_3 := fun o d _ => ∀ a, HasO H a o → ∃ as, Reads s.heap (.ref a) d as ∧ NoSys as)
    (fun u r => by cases r; exact ⟨_, Reads.none, nosys_nil⟩)
    (fun b u r => by cases r; exact ⟨_, Reads.bool b, nosys_nil⟩)
    (fun i u r => by obtain ⟨t, rfl⟩ := r; exact ⟨_, Reads.int i t, nosys_nil⟩)
    (fun x u r => by obtain ⟨t, rfl⟩ := r; exact ⟨_, Reads.str x t, nosys_nil⟩)
    (fun ha hs _ ih u r => by cases r; exact ih _ ha)
    (fun hl _ ih u r => by cases r; exact Ct.reads_lst G I ih.2 (.inr hl))
    (fun ht _ ih u r => by
      cases r
      obtain ⟨its, rv, ⟨o, ho, hc, n, hd⟩, _⟩ := I.tuple ht
      obtain ⟨as, hr, hn⟩ := ih.2 its rv
      exact ⟨_, Reads.tuple ho hc hd hr, hn⟩)
    ⟨rfl, fun us r => by cases r; exact ⟨_, ReadsAll.nil, nosys_nil⟩⟩
    (fun _ _ ih1 ih2 => ⟨by simp only [List.length_cons, ih2.1], fun us r => by
      cases r with
      | cons r1 r2 =>
        obtain ⟨as, q1, n1⟩ := ih1 _ r1
        obtain ⟨bs, q2, n2⟩ := ih2.2 _ r2
        exact ⟨_, ReadsAll.cons q1 q2, nosys_app n1 n2⟩⟩)
    (fun _ ih a ha => Ct.reads_lst G I ih.2 (.inl ha.lst))
    (fun {kvs ds} _ ih a ha => by
      obtain ⟨_, hsys, vs, kv, o, es, ep, ho, hx, hdt, _, hp, _⟩ := hokO I ha
      obtain ⟨q1, q2⟩ := kv_vals kv
      obtain ⟨as, r1, n1⟩ := pairs_read (h := s.heap) hp
      obtain ⟨hl, ih⟩ := ih
      obtain ⟨bs, r2, n2⟩ := ih _ q1
      refine ⟨_, Reads.dict ho hx.1 hdt (as := as) (bs := bs) ?_ ?_, nosys_app (as := a :: as) (fun z => (List.mem_cons.mp z).elim (fun e => by rw [e, beq_self_eq_true] at hsys; cases hsys) n1) n2⟩
      · rw [zip_fst (by simpa using hl), show (fun p : Key × V => kD p.1) = kD ∘ (·.1) from rfl, ← List.map_map, q2, List.map_map]
        exact r1
      · rw [zip_snd (by simpa using hl), pairs_vals hp]
        exact r2)
    (fun {kvs ds} _ ih a ha => by
      obtain ⟨_, hsys, xs, kt, o, es, ep, ho, hx, hdt, hes, _⟩ := hokO I ha
      obtain ⟨as, r1, n1⟩ := kt_read I kt
      obtain ⟨hl, ih⟩ := ih
      obtain ⟨bs, r2, n2⟩ := ih _ (kt_vals (P := X.prog) (w := X.w) kt)
      refine ⟨_, Reads.dict ho hx.1 hdt (as := as) (bs := bs) ?_ ?_, nosys_app (as := a :: as) (fun z => (List.mem_cons.mp z).elim (fun e => by rw [e, beq_self_eq_true] at hsys; cases hsys) n1) n2⟩
      · rw [zip_fst (by simpa using hl), hes]
        exact r1
      · rw [zip_snd (by simpa using hl), hes]
        exact r2) h
theorem Dw.reads (G : GX X) (I : Inv X pins σ H s) {v : V} {d : PyData} {u : Value} (h : Dw X.K S H v d) (r : RelV v u) : ∃ as, Reads s.heap u d as ∧ NoSys as := by
  rcases h with h | ⟨a, rfl, o, e, c⟩
  · exact reads_all G I h u r
  · exact reads_all (S := fun b => S b ∨ b = a) G I (Dr.obj (.inl e) (.inr rfl) (c.ex (Ex.add a))) u r
/-! ### repr -/
mutual
def szD : PyData → Nat
  | .none => 4
  | .bool _ => 5
  | .int _ => 1921
  | .str x => if x.cps.toList.all (fun c => decide (c < 4294967296)) = true then 10 * x.length + 2 else 4294967296
  | .list xs => szAll xs + 4
  | .tuple xs => szAll xs + 4
  | .dict kvs => szKv kvs + 4
def szAll : List PyData → Nat
  | [] => 0
  | x :: xs => szD x + 2 + szAll xs
def szKv : List (PyData × PyData) → Nat
  | [] => 0
  | (k, v) :: r => szD k + szD v + 4 + szKv r
end
theorem textFrom_le : ∀ (ts : List Str) (k : Nat) (acc : Str), (textFrom k acc ts).length ≤ acc.length + piled ts
  | [], k, acc => by show acc.length ≤ _; omega
  | t :: r, k, acc => by
    have ih := textFrom_le r (k + 1) (acc ++ (if k > 0 then ", " else "" : String) ++ t)
    have e : (acc ++ (if k > 0 then ", " else "" : String) ++ t).length = acc.length + (if k > 0 then 2 else 0) + t.length := by
      rw [strLen_append, strLen_append]
      split <;> rfl
    rw [e] at ih
    rw [piled_cons]
    show (textFrom (k + 1) _ r).length ≤ _
    have h2 : (if k > 0 then 2 else 0) ≤ 2 := by split <;> omega
    omega
theorem listText_le (ts : List Str) : (listText ts).length ≤ piled ts + 2 := by
  unfold listText
  rw [strLen_append]
  have := textFrom_le ts 0 "["
  have e1 : (("[" : String) : Str).length = 1 := rfl
  have e2 : (("]" : String) : Str).length = 1 := rfl
  omega
theorem join_le (ts : List Str) : (Str.join ", " ts).length ≤ piled ts := by
  by_cases h : ts = []
  · subst h; exact Nat.zero_le _
  · have := join_length_add ts h; omega
theorem tupleText_le (ts : List Str) : (tupleText ts).length ≤ piled ts + 3 := by
  unfold tupleText
  rw [strLen_append, strLen_append]
  have := join_le ts
  have e1 : (("(" : String) : Str).length = 1 := rfl
  have e2 : ((if ts.length == 1 then ",)" else ")" : String) : Str).length ≤ 2 := by split <;> decide
  omega
theorem dictText_le (ts : List Str) : (dictText ts).length ≤ piled ts + 2 := by
  unfold dictText
  rw [strLen_append, strLen_append]
  have := join_le ts
  have e1 : (("{" : String) : Str).length = 1 := rfl
  have e2 : (("}" : String) : Str).length = 1 := rfl
  omega
mutual
theorem shown_le : ∀ d : PyData, d.showable = true → szD d ≤ 4294967295 → d.shown.length ≤ szD d
  | .none, _, _ => by simp only [PyData.shown, szD]; decide
  | .bool b, _, _ => by cases b <;> simp only [PyData.shown, szD] <;> decide
  | .int i, h, _ => by
    simp only [PyData.showable, decide_eq_true_eq] at h
    simp only [PyData.shown, szD]
    have := int_text_length_le (a := i) (k := 1920) (by decide) h
    show (Str.ofString (toString i)).length ≤ _
    rw [PySem.ofString_length]
    omega
  | .str x, _, h => by
    simp only [PyData.shown]
    unfold szD at h ⊢
    split at h
    · rename_i hc
      rw [if_pos hc]
      exact StrLaws.reprText_len x fun c hm => by
        have := List.all_eq_true.mp hc c hm
        have e : (16 : Nat) ^ 8 = 4294967296 := by decide
        rw [e]; exact of_decide_eq_true this
    · omega
  | .list xs, h, z => by
    simp only [PyData.showable] at h
    simp only [szD] at z ⊢
    simp only [PyData.shown]
    have := listText_le (PyData.shownAll xs)
    have := shownAll_le xs h (by omega)
    omega
  | .tuple xs, h, z => by
    simp only [PyData.showable] at h
    simp only [szD] at z ⊢
    simp only [PyData.shown]
    have := tupleText_le (PyData.shownAll xs)
    have := shownAll_le xs h (by omega)
    omega
  | .dict kvs, h, z => by
    simp only [PyData.showable] at h
    simp only [szD] at z ⊢
    simp only [PyData.shown]
    have := dictText_le (PyData.shownKv kvs)
    have := shownKv_le kvs h (by omega)
    omega
theorem shownAll_le : ∀ xs : List PyData, PyData.showableAll xs = true → szAll xs ≤ 4294967295 → piled (PyData.shownAll xs) ≤ szAll xs
  | [], _, _ => by simp only [PyData.shownAll, szAll]; decide
  | x :: xs, h, z => by
    simp only [PyData.showableAll, Bool.and_eq_true] at h
    simp only [szAll] at z ⊢
    simp only [PyData.shownAll, piled_cons]
    have := shown_le x h.1 (by omega)
    have := shownAll_le xs h.2 (by omega)
    omega
theorem shownKv_le : ∀ kvs : List (PyData × PyData), PyData.showableKv kvs = true → szKv kvs ≤ 4294967295 → piled (PyData.shownKv kvs) ≤ szKv kvs
  | [], _, _ => by simp only [PyData.shownKv, szKv]; decide
  | (k, v) :: r, h, z => by
    simp only [PyData.showableKv, Bool.and_eq_true] at h
    simp only [szKv] at z ⊢
    simp only [PyData.shownKv, piled_cons]
    have := shown_le k h.1.1 (by omega)
    have := shown_le v h.1.2 (by omega)
    have := shownKv_le r h.2 (by omega)
    rw [strLen_append, strLen_append]
    have e : ((": " : String) : Str).length = 2 := rfl
    omega
end
def reprOk (d : PyData) : Bool := d.showable && (decide (szD d ≤ 16000000) && decide (d.depth ≤ 64))
def reprD : List PyData → Option Ev
  | [d] => if reprOk d = true then some (.val (.str d.shown)) else none
  | _ => none
theorem call_repr (G : GX X) : CallR X (.builtin "repr") (fun xs H Q => ∃ S d, DwAll X.K S H xs [d] ∧ reprOk d = true ∧ Q (.str d.shown) H) := by
  rintro pins s σ H xs us Q I rx ⟨S, d, hd, ok, q⟩
  cases hd with
  | cons hd hn =>
    cases hn
    obtain ⟨u, rfl, ru⟩ := vals1 rx
    simp only [reprOk, Bool.and_eq_true, decide_eq_true_eq] at ok
    obtain ⟨sh, hz, hdp⟩ := ok
    have hl := shown_le d sh (by omega)
    have hsz : d.shown.length ≤ sizeLine := by rw [sizeLine_eq]; omega
    obtain ⟨as, rd, ns⟩ := hd.reads G I ru
    have hun := G.un
    cases rd with
    | none => exact PySem.P.repr_of_none ⟨.str _, H, I.tok _, ⟨_, rfl⟩, by simpa only [PyData.shown] using q⟩
    | bool b => exact PySem.P.repr_of_bool ⟨.str _, H, I.tok _, ⟨_, rfl⟩, by simpa only [PyData.shown] using q⟩
    | int i t => exact PySem.P.repr_of_int (by simpa only [PyData.showable, decide_eq_true_eq] using sh) ⟨.str _, H, I.tok _, ⟨_, rfl⟩, by simpa only [PyData.shown] using q⟩
    | str x t => exact PySem.P.repr_of_str ⟨.str _, H, I.tok _, ⟨_, rfl⟩, by simpa only [PyData.shown] using q⟩ (by simpa only [PyData.shown] using hsz)
    | list h1 h2 h3 h4 => exact repr_of_reads' (Reads.list h1 h2 h3 h4) sh (fun _ => ns) G.gd (by omega) (fun _ _ e => e) (fun h' u tk k => ⟨.str _, H, I.kept k, ⟨_, rfl⟩, q⟩) hsz
    | tuple h1 h2 h3 h4 => exact repr_of_reads' (Reads.tuple h1 h2 h3 h4) sh (fun _ => ns) G.gd (by omega) (fun _ _ e => e) (fun h' u tk k => ⟨.str _, H, I.kept k, ⟨_, rfl⟩, q⟩) hsz
    | dict h1 h2 h3 h4 h5 => exact repr_of_reads' (Reads.dict h1 h2 h3 h4 h5) sh (fun _ => ns) G.gd (by omega) (fun _ _ e => e) (fun h' u tk k => ⟨.str _, H, I.kept k, ⟨_, rfl⟩, q⟩) hsz
end
/-! ### built-in calls -/
section
variable {X : Cx} {A0 : Ax} {W : WX} {x : Str} {p pos : Pos} {e : Expr} {es : List Expr} {fs : SA} {f : SE} {bid T : String} {r : List V → Hp → VK → Prop} {bd : List PyData → Option Ev}
theorem gcall (hc : CallR X (.builtin bid) r) (hd : CallD X.K r bd) (hm : X.mg x = none) (hv : bootBuiltins x = some (.builtin bid)) (ha : PA X (e :: es) (tA (gc X A0 W) fs)) (hg : Gl X x := by rfl) (hn : x ≠ "__name__" := by decide) (hdb : (x == ("__debug__" : Str)) = false := by decide)
    (he : starEach (e :: es) X.env = (false, eval e X.env) :: starEach es X.env := by rfl) (hpl : (backTo pos (starEach es X.env)).any (·.1) = false := by rfl) : PE X (.Call (.Name x p) (e :: es) [] pos) (tE (gc X A0 W) (opN bd fs)) :=
  PE_imp (pe_callB hc hg hm hv ha hn hdb he hpl) (opN_ok hd)
theorem gcallT (hc : CallR X (.type T) r) (hd : CallD X.K r bd) (hm : X.mg x = none) (hv : bootBuiltins x = some (.type T)) (ha : PA X (e :: es) (tA (gc X A0 W) fs)) (hg : Gl X x := by rfl) (hn : x ≠ "__name__" := by decide) (hdb : (x == ("__debug__" : Str)) = false := by decide)
    (he : starEach (e :: es) X.env = (false, eval e X.env) :: starEach es X.env := by rfl) (hpl : (backTo pos (starEach es X.env)).any (·.1) = false := by rfl) : PE X (.Call (.Name x p) (e :: es) [] pos) (tE (gc X A0 W) (opN bd fs)) :=
  PE_imp (pe_callTy hc hg hm hv ha hn hdb he hpl) (opN_ok hd)
theorem reprD_ok {K : PySem.W.Frag} : CallD K (fun xs H Q => ∃ S d, DwAll K S H xs [d] ∧ reprOk d = true ∧ Q (.str d.shown) H) reprD := by
  intro S H xs ds ev Q h he out
  match ds, he with
  | [d], he =>
    simp only [reprD] at he
    split at he
    · rename_i ok; cases he; exact ⟨S, d, h, ok, outStr out⟩
    · cases he
theorem g_repr (gx : GX X) (hm : X.mg "repr" = none) (ha : PA X (e :: es) (tA (gc X A0 W) fs)) (hg : Gl X "repr" := by rfl)
    (he : starEach (e :: es) X.env = (false, eval e X.env) :: starEach es X.env := by rfl) (hpl : (backTo pos (starEach es X.env)).any (·.1) = false := by rfl) : PE X (.Call (.Name "repr" p) (e :: es) [] pos) (tE (gc X A0 W) (opN reprD fs)) :=
  gcall (call_repr gx) reprD_ok hm PyProof.Rows.boot_repr ha hg (by decide) (by decide) he hpl
theorem dw1 {K : PySem.W.Frag} {S : Addr → Prop} {H : Hp} {xs : List V} {d : PyData} (h : DwAll K S H xs [d]) : ∃ v, xs = [v] ∧ Dw K S H v d := by
  cases h with
  | cons a b => cases b; exact ⟨_, rfl, a⟩
theorem dw2 {K : PySem.W.Frag} {S : Addr → Prop} {H : Hp} {xs : List V} {d e : PyData} (h : DwAll K S H xs [d, e]) : ∃ v u, xs = [v, u] ∧ Dw K S H v d ∧ Dw K S H u e := by
  cases h with
  | cons a b => cases b with
    | cons b c => cases c; exact ⟨_, _, rfl, a, b⟩
/-! len -/
def lenD : List PyData → Option Ev
  | [.list ds] => some (.val (.int ds.length))
  | [.tuple ds] => some (.val (.int ds.length))
  | [.str z] => if z.length ≤ sizeLine then some (.val (.int z.length)) else none
  | _ => none
theorem lenD_ok {K : PySem.W.Frag} : CallD K (fun xs H Q => ∃ x n, xs = [x] ∧ LenV K x H n ∧ Q (.int n) H) lenD := by
  intro S H xs ds ev Q h he out
  match ds, he with
  | [.list ds], he =>
    cases he
    obtain ⟨v, rfl, hv⟩ := dw1 h
    obtain ⟨a, ys, rfl, q, rr⟩ := hv.lst
    exact ⟨_, ds.length, rfl, .inl ⟨ys, q.sq, rr.length.symm⟩, outInt out⟩
  | [.tuple ds], he =>
    cases he
    obtain ⟨v, rfl, hv⟩ := dw1 h
    obtain ⟨a, ys, rfl, q, rr⟩ := hv.tup
    exact ⟨_, ds.length, rfl, .inr ⟨ys, q, rr.length.symm⟩, outInt out⟩
  | [.str z], he =>
    simp only [lenD] at he
    split at he
    · rename_i hz
      cases he
      obtain ⟨v, rfl, hv⟩ := dw1 h
      rw [hv.str]
      exact ⟨_, z.length, rfl, ⟨hz, rfl⟩, outInt out⟩
    · cases he
theorem g_len (hm : X.mg "len" = none) (ha : PA X (e :: es) (tA (gc X A0 W) fs)) (hg : Gl X "len" := by rfl)
    (he : starEach (e :: es) X.env = (false, eval e X.env) :: starEach es X.env := by rfl) (hpl : (backTo pos (starEach es X.env)).any (·.1) = false := by rfl) : PE X (.Call (.Name "len" p) (e :: es) [] pos) (tE (gc X A0 W) (opN lenD fs)) :=
  gcall call_len lenD_ok hm PySem.boot_len ha hg (by decide) (by decide) he hpl
/-! all, any over a list of bools -/
def boolsD : List PyData → Option (List Bool)
  | [] => some []
  | .bool b :: r => (boolsD r).map (b :: ·)
  | _ => none
theorem boolsD_ok {K : PySem.W.Frag} {S : Addr → Prop} {H : Hp} : ∀ {vs : List V} {ds : List PyData} {bs : List Bool}, DrAll K S H vs ds → boolsD ds = some bs → vs = bs.map V.bl
  | [], ds, bs, h, e => by cases h; cases e; rfl
  | v :: vs, ds, bs, h, e => by
    cases h with
    | cons h1 h2 =>
      rename_i d ds
      cases d with
      | bool b =>
        simp only [boolsD] at e
        cases e1 : boolsD ds with
        | none => rw [e1] at e; cases e
        | some bs' => rw [e1] at e; cases e; rw [h1.w.bl, boolsD_ok h2 e1]; rfl
      | _ => cases e
def allD : List PyData → Option Ev
  | [.list ds] => (boolsD ds).map fun bs => .val (.bool (bs.all id))
  | _ => none
def anyD : List PyData → Option Ev
  | [.list ds] => (boolsD ds).map fun bs => .val (.bool (bs.any id))
  | _ => none
theorem allD_ok {K : PySem.W.Frag} : CallD K (rAll K) allD := by
  intro S H xs ds ev Q h he out
  match ds, he with
  | [.list ds], he =>
    simp only [allD] at he
    cases e1 : boolsD ds with
    | none => rw [e1] at he; cases he
    | some bs =>
      rw [e1] at he; cases he
      obtain ⟨v, rfl, hv⟩ := dw1 h
      obtain ⟨a, ys, rfl, q, rr⟩ := hv.lst
      obtain rfl := boolsD_ok rr e1
      exact ⟨a, bs, rfl, q.sq, outBl out⟩
theorem g_all (hc : X.calm = true) (hm : X.mg "all" = none) (ha : PA X (e :: es) (tA (gc X A0 W) fs)) (hg : Gl X "all" := by rfl)
    (he : starEach (e :: es) X.env = (false, eval e X.env) :: starEach es X.env := by rfl) (hpl : (backTo pos (starEach es X.env)).any (·.1) = false := by rfl) : PE X (.Call (.Name "all" p) (e :: es) [] pos) (tE (gc X A0 W) (opN allD fs)) :=
  gcall (cr_all hc) allD_ok hm (by decide +kernel) ha hg (by decide) (by decide) he hpl
/-! abs, max, min of two ints -/
def absD : List PyData → Option Ev
  | [.int i] => some (.val (.int (if i < 0 then -i else i)))
  | _ => none
def max2D : List PyData → Option Ev
  | [.int i, .int j] => some (.val (.int (if j > i then j else i)))
  | _ => none
def min2D : List PyData → Option Ev
  | [.int i, .int j] => some (.val (.int (if j < i then j else i)))
  | _ => none
theorem max2D_ok {K : PySem.W.Frag} : CallD K (fun xs H Q => ∃ i j, xs = [.int i, .int j] ∧ Q (.int (if j > i then j else i)) H) max2D := by
  intro S H xs ds ev Q h he out
  match ds, he with
  | [.int i, .int j], he => cases he; obtain ⟨v, u, rfl, hv, hu⟩ := dw2 h; exact ⟨i, j, by rw [hv.int, hu.int], outInt out⟩
theorem min2D_ok {K : PySem.W.Frag} : CallD K (fun xs H Q => ∃ i j, xs = [.int i, .int j] ∧ Q (.int (if j < i then j else i)) H) min2D := by
  intro S H xs ds ev Q h he out
  match ds, he with
  | [.int i, .int j], he => cases he; obtain ⟨v, u, rfl, hv, hu⟩ := dw2 h; exact ⟨i, j, by rw [hv.int, hu.int], outInt out⟩
theorem g_max2 (hc : X.calm = true) (hm : X.mg "max" = none) (ha : PA X (e :: es) (tA (gc X A0 W) fs)) (hg : Gl X "max" := by rfl)
    (he : starEach (e :: es) X.env = (false, eval e X.env) :: starEach es X.env := by rfl) (hpl : (backTo pos (starEach es X.env)).any (·.1) = false := by rfl) : PE X (.Call (.Name "max" p) (e :: es) [] pos) (tE (gc X A0 W) (opN max2D fs)) :=
  gcall (call_max2 hc) max2D_ok hm (by decide +kernel) ha hg (by decide) (by decide) he hpl
theorem g_min2 (hc : X.calm = true) (hm : X.mg "min" = none) (ha : PA X (e :: es) (tA (gc X A0 W) fs)) (hg : Gl X "min" := by rfl)
    (he : starEach (e :: es) X.env = (false, eval e X.env) :: starEach es X.env := by rfl) (hpl : (backTo pos (starEach es X.env)).any (·.1) = false := by rfl) : PE X (.Call (.Name "min" p) (e :: es) [] pos) (tE (gc X A0 W) (opN min2D fs)) :=
  gcall (call_min2 hc) min2D_ok hm (by decide +kernel) ha hg (by decide) (by decide) he hpl
/-! tuple(x), list(x) -/
def tupleD : List PyData → Option Ev
  | [.list ds] => some (.val (.tuple ds))
  | [.tuple ds] => some (.val (.tuple ds))
  | _ => none
def listD : List PyData → Option Ev
  | [.list ds] => some (.fr (.list ds))
  | [.tuple ds] => some (.fr (.list ds))
  | [.dict kvs] => if keyed kvs = true then some (.fr (.list (kvs.map (·.1)))) else none
  | _ => none
theorem tupleD_ok {K : PySem.W.Frag} : CallD K (fun xs H Q => ∃ p ys, xs = [.ref p] ∧ ((SqL K H p ys ∧ ∀ l, H l = none → Q (.ref l) (upd H l (.tup ys))) ∨ (SqT K H p ys ∧ Q (.ref p) H))) tupleD := by
  intro S H xs ds ev Q h he out
  match ds, he with
  | [.list ds], he =>
    cases he
    obtain ⟨v, rfl, hv⟩ := dw1 h
    obtain ⟨a, ys, rfl, q, rr⟩ := hv.lst
    exact ⟨a, ys, rfl, .inl ⟨q.sq, outTup rr out⟩⟩
  | [.tuple ds], he =>
    cases he
    obtain ⟨v, rfl, hv⟩ := dw1 h
    obtain ⟨a, ys, rfl, q, rr⟩ := hv.tup
    exact ⟨a, ys, rfl, .inr ⟨q, out _ H (fun _ _ e => e) (.tup q rr)⟩⟩
theorem g_tuple (hm : X.mg "tuple" = none) (ha : PA X (e :: es) (tA (gc X A0 W) fs)) (hg : Gl X "tuple" := by rfl)
    (he : starEach (e :: es) X.env = (false, eval e X.env) :: starEach es X.env := by rfl) (hpl : (backTo pos (starEach es X.env)).any (·.1) = false := by rfl) : PE X (.Call (.Name "tuple" p) (e :: es) [] pos) (tE (gc X A0 W) (opN tupleD fs)) :=
  gcallT call_tuple_of tupleD_ok hm (by decide +kernel) ha hg (by decide) (by decide) he hpl
/-! isinstance with a built-in class -/
def tyD : PyData → String
  | .none => "NoneType"
  | .bool _ => "bool"
  | .int _ => "int"
  | .str _ => "str"
  | .list _ => "list"
  | .tuple _ => "tuple"
  | .dict _ => "dict"
theorem Dw.tyx {K : PySem.W.Frag} {S : Addr → Prop} {H : Hp} {v : V} {d : PyData} (h : Dw K S H v d) : TyX K H v (.type (tyD d)) := by
  cases d with
  | none => rw [h.non]; exact .base .non
  | bool b => rw [h.bl]; exact .base (.bl b)
  | int i => rw [h.int]; exact .base (.int i)
  | str x => rw [h.str]; exact .base (.str x)
  | list ds =>
    obtain ⟨a, xs, rfl, q, _⟩ := h.lst
    rcases q with q | ⟨o, q⟩ | ⟨its, n, q, _⟩
    · exact .base (.lst q)
    · exact .base (.frz q)
    · exact .kList q rfl
  | tuple ds =>
    obtain ⟨a, xs, rfl, q, _⟩ := h.tup
    rcases q with (q | ⟨o, q⟩) | ⟨o, its, n, q, c, _⟩
    · exact .base (.tup q)
    · exact .fTuple q
    · exact .kTuple q c
  | dict kvs =>
    have key : ∀ (o : HO) (a : Addr), HasO H a o → Ct K S H o (.dict kvs) → TyX K H (.ref a) (.type "dict") := fun o a e c => by
      generalize hd : PyData.dict kvs = D at c
      cases c with
      | lst _ => cases hd
      | dK _ =>
        rcases e with e | ⟨_, od, e⟩
        · exact .base (.dK e)
        · exact .fDict e
      | dT _ =>
        rcases e with e | ⟨e, _⟩
        · exact .base (.dT e)
        · exact e.elim
    rcases h with h | ⟨a, rfl, o, e, c⟩
    · cases h with
      | obj e _ c => exact key _ _ e c
    · exact key _ _ (.inl e) c
def isiS (T s : String) : Bool := s == T || (T == "int" && s == "bool")
def isiB (T : String) (d : PyData) : Bool := isiS T (tyD d)
def isiD (T : String) : PyData → Option Ev := fun d => some (.val (.bool (isiB T d)))
def KitOk (T : String) : Prop := ∀ d, kitB (tyD d) T = some (isiB T d)
theorem kit_mk {T : String} (h : (["NoneType", "bool", "int", "str", "list", "tuple", "dict"].all fun s => kitB s T == some (isiS T s)) = true) : KitOk T := fun d => by
  have := List.all_eq_true.mp h (tyD d) (by cases d <;> simp [tyD])
  exact eq_of_beq this
theorem kit_int : KitOk "int" := kit_mk (by decide +kernel)
theorem kit_bool : KitOk "bool" := kit_mk (by decide +kernel)
theorem kit_tuple : KitOk "tuple" := kit_mk (by decide +kernel)
theorem g_isi {T : String} {y : Str} {p2 : Pos} (k : KitOk T) (hm : X.mg "isinstance" = none) (hm2 : X.mg y = none) (hv2 : bootBuiltins y = some (.type T)) (ha : PE X e (tE (gc X A0 W) f)) (hg : Gl X "isinstance" := by rfl) (hg2 : Gl X y := by rfl)
    (hn2 : y ≠ "__name__" := by decide) (hdb2 : (y == ("__debug__" : Str)) = false := by decide)
    (he : starEach [e, .Name y p2] X.env = (false, eval e X.env) :: starEach [.Name y p2] X.env := by rfl) (he2 : starEach [.Name y p2] X.env = (false, eval (.Name y p2) X.env) :: starEach [] X.env := by rfl)
    (hpl : (backTo pos (starEach [.Name y p2] X.env)).any (·.1) = false := by rfl) :
    PE X (.Call (.Name "isinstance" p) [e, .Name y p2] [] pos) (tE (gc X A0 W) (op1 (isiD T) f)) := by
  refine PE_imp (pe_callB call_isi hg hm (by decide +kernel) (pa_cons ha (pa_cons (pe_bltn (v := .ty T) hg2 hm2 hv2 rfl hn2 hdb2) pa_nil he2) he) (by decide) (by decide) he hpl) fun σ H Q h => ?_
  refine op1_ok (g := gc X A0 W) (r := fun x H Q => rIsi X.K [x, .ty T] H Q) (b := isiD T) (fun S H x d ev Q hd he out => ?_) σ H Q h
  cases he
  exact ⟨x, .ty T, .type (tyD d), .type T, _, rfl, .ty T, hd.tyx, kit_ty (k d), outBl out⟩
end
end G
namespace G
open PySem PySem.Spec PyProof.Rows L2
/-- how a statement ends -/
inductive Fl where
  | nx (ρ : List B) | rt (e : Ev) (ρ : List B) | bk (ρ : List B) | ct (ρ : List B)
abbrev SS := List B → Rs Fl
def Fl.env : Fl → List B
  | .nx ρ => ρ
  | .rt _ ρ => ρ
  | .bk ρ => ρ
  | .ct ρ => ρ
def EndFl (g : Gc) (H0 : Hp) (D : Ends) (S : Addr → Prop) (H : Hp) (σ : St) : Fl → Prop
  | .nx _ => D.nx σ H
  | .bk _ => D.bk σ H
  | .ct _ => D.ct σ H
  | .rt e ρ => ∀ v, RE g.K g.A0 H0 S H σ ρ v e → D.rt v H
def PostS (g : Gc) (S : Addr → Prop) (H : Hp) (σ : St) (ρ : List B) (r : Rs Fl) (D : Ends) : Prop := match r with
  | .ok fl => ∀ S' H' σ', Tr S H (Ow σ ρ) S' H' (Ow σ' fl.env) → Rp g.K g.A0 S' H' σ' fl.env → EndFl g H D S' H' σ' fl
  | .ex n ρ' => ∀ S' H' σ', Tr S H (Ow σ ρ) S' H' (Ow σ' ρ') → Rp g.K g.A0 S' H' σ' ρ' → g.wx n σ' H'
  | .bad => False
def tSt (g : Gc) (f : SS) : TS := fun D σ H => ∃ S ρ, Rp g.K g.A0 S H σ ρ ∧ PostS g S H σ ρ (f ρ) D
section
variable {g : Gc} {S S' : Addr → Prop} {H H' : Hp} {σ σ' : St} {ρ ρ' : List B} {D : Ends}
theorem PostS.from {r : Rs Fl} (t : Tr S H (Ow σ ρ) S' H' (Ow σ' ρ')) (h : PostS g S H σ ρ r D) : PostS g S' H' σ' ρ' r D := by
  cases r with
  | ok fl =>
    intro S2 H2 σ2 t2 r2
    have q := h S2 H2 σ2 (t.trans t2) r2
    cases fl with
    | nx _ => exact q
    | bk _ => exact q
    | ct _ => exact q
    | rt e ρ2 => exact fun v re => q v (re.back fun a hz => t.fresh hz)
  | ex n ρ2 => exact fun S2 H2 σ2 t2 r2 => h S2 H2 σ2 (t.trans t2) r2
  | bad => exact h
theorem PostS.bad : ¬ PostS g S H σ ρ .bad D := fun h => h
theorem exS : ∀ n ρ', PostS g S H σ ρ (.ex n ρ') D → ∀ S' H', Tr S H (Ow σ ρ) S' H' (Ow σ ρ') → Rp g.K g.A0 S' H' σ ρ' → g.wx n σ H' := fun _ _ h S' H' t r => h S' H' σ t r
end
def nxS : SS := fun ρ => .ok (.nx ρ)
def seqS (f1 f2 : SS) : SS := fun ρ => (f1 ρ).bind fun r => match r with
  | .nx ρ' => f2 ρ'
  | r => .ok r
section
variable {X : Cx} {A0 : Ax} {W : WX} {st : Stmt} {rest : List Stmt} {f f1 f2 : SS} {e : Expr} {fe : SE} {pos : Pos}
theorem gs_nil : PSs X [] (tSt (gc X A0 W) nxS) := PSs_imp pss_nil fun D σ H ⟨S, ρ, r, h⟩ => h S H σ Tr.refl r
theorem seq_ok {g : Gc} : ∀ D σ H, tSt g (seqS f1 f2) D σ H → tSeq (tSt g f1) (tSt g f2) D σ H := by
  rintro D σ H ⟨S, ρ, r, h⟩
  refine ⟨S, ρ, r, ?_⟩
  unfold seqS at h
  cases e : f1 ρ with
  | bad => rw [e] at h; exact h
  | ex n ρ' => rw [e] at h; exact h
  | ok fl =>
    rw [e] at h
    cases fl with
    | nx ρ' => exact fun S' H' σ' t r' => ⟨S', ρ', r', PostS.from t h⟩
    | rt ev ρ' => exact h
    | bk ρ' => exact h
    | ct ρ' => exact h
theorem gs_cons (h1 : PS X st (tSt (gc X A0 W) f1)) (h2 : PSs X rest (tSt (gc X A0 W) f2)) : PSs X (st :: rest) (tSt (gc X A0 W) (seqS f1 f2)) := PSs_imp (pss_cons h1 h2) seq_ok
theorem gs_one (h1 : PS X st (tSt (gc X A0 W) f1)) : PSs X [st] (tSt (gc X A0 W) f1) := pss_one h1
def bkS : SS := fun ρ => .ok (.bk ρ)
def ctS : SS := fun ρ => .ok (.ct ρ)
def retS (fe : SE) : SS := fun ρ => (fe ρ).bind fun p => .ok (.rt p.1 p.2)
theorem gs_ret (he : PE X e (tE (gc X A0 W) fe)) : PS X (.Return (some e) pos) (tSt (gc X A0 W) (retS fe)) := PS_imp (ps_ret he) fun D σ H ⟨S, ρ, r, h⟩ =>
  tE_bind (P := fun z => PostS (gc X A0 W) S H σ ρ z D) exS PostS.bad r h fun p S1 H1 v1 t1 r1 e1 h => h S1 H1 σ t1 r1 v1 e1
def retNS : SS := fun ρ => .ok (.rt (.val .none) ρ)
def dropS (fe : SE) : SS := fun ρ => (fe ρ).bind fun p => .ok (.nx p.2)
theorem gs_expr (he : PE X e (tE (gc X A0 W) fe)) (hs : swapsWith e none pos.line X.env = pure false := by rfl) : PS X (.Expr e pos) (tSt (gc X A0 W) (dropS fe)) := PS_imp (ps_expr he hs) fun D σ H ⟨S, ρ, r, h⟩ =>
  tE_bind (P := fun z => PostS (gc X A0 W) S H σ ρ z D) exS PostS.bad r h fun p S1 H1 v1 t1 r1 e1 h => h S1 H1 σ t1 r1
def ifS (c : SB) (f1 f2 : SS) : SS := fun ρ => (c ρ).bind fun p => if p.1 = true then f1 p.2 else f2 p.2
theorem gs_if {c : Expr} {a b : List Stmt} {fc : SB} (hc : PT X c (tT (gc X A0 W) fc)) (ha : PSs X a (tSt (gc X A0 W) f1)) (hb : PSs X b (tSt (gc X A0 W) f2)) : PS X (.If c a b pos) (tSt (gc X A0 W) (ifS fc f1 f2)) := PS_imp (ps_if hc ha hb) fun D σ H ⟨S, ρ, r, h⟩ =>
  tT_bind (P := fun z => PostS (gc X A0 W) S H σ ρ z D) exS PostS.bad r h fun p S1 H1 t1 r1 h => by
    cases hp : p.1 with
    | true => rw [hp] at h; exact iteT ⟨S1, p.2, r1, PostS.from t1 h⟩
    | false => rw [hp] at h; exact iteF ⟨S1, p.2, r1, PostS.from t1 h⟩
end
/-! ### a slot is stored -/
section
variable {K : PySem.W.Frag} {A0 : Ax} {S S0 : Addr → Prop} {H H0 : Hp} {σ : St} {ρ : List B} {O0 : Addr → Prop} {i : Nat}
theorem Bd.other {σ : St} {j : Nat} {b : B} {x : Option V} (hj : i ≠ j) (h : Bd K A0 S H σ j b) : Bd K A0 S H (σ.set i x) j b := by
  cases b with
  | un => trivial
  | exc n => exact ⟨h.1, by rw [List.getElem?_set_ne hj]; exact h.2⟩
  | val d => obtain ⟨v, e, q⟩ := h; exact ⟨v, by rw [List.getElem?_set_ne hj]; exact e, q⟩
  | own d => obtain ⟨v, e, q⟩ := h; exact ⟨v, by rw [List.getElem?_set_ne hj]; exact e, q⟩
  | prm d => obtain ⟨v, e, q⟩ := h; exact ⟨v, by rw [List.getElem?_set_ne hj]; exact e, q⟩
theorem OwI.other {x : Option V} {b : B} {j : Nat} {a : Addr} (hj : i ≠ j) (h : OwI (σ.set i x) (ρ.set i b) j a) : OwI σ ρ j a := by
  obtain ⟨h1, h2⟩ := h
  rw [List.getElem?_set_ne hj] at h1 h2
  exact ⟨h1, h2⟩
theorem Rp.setVal (r : Rp K A0 S H σ ρ) {v : V} {d : PyData} (hd : Dr K S H v d) : Rp K A0 S H (σ.set i (some v)) (ρ.set i (.val d)) ∧ ∀ a, Ow (σ.set i (some v)) (ρ.set i (.val d)) a → Ow σ ρ a := by
  have own : ∀ j a, OwI (σ.set i (some v)) (ρ.set i (.val d)) j a → OwI σ ρ j a := fun j a h => by
    by_cases hj : i = j
    · subst hj
      obtain ⟨h1, _⟩ := h
      by_cases hl : i < ρ.length
      · rw [List.getElem?_set_self hl] at h1; cases h1
      · rw [List.getElem?_eq_none (by rw [List.length_set]; omega)] at h1; cases h1
    · exact OwI.other hj h
  refine ⟨⟨by rw [List.length_set, List.length_set]; exact r.len, fun j b hb => ?_, fun j k a h1 h2 => r.dis j k a (own j a h1) (own k a h2), r.al, fun j d' a h1 h2 => ?_, r.aa, r.tb⟩, fun a ⟨j, h⟩ => ⟨j, own j a h⟩⟩
  by_cases hj : i = j
  · subst hj
    have hl : i < ρ.length := by
      have := (List.getElem?_eq_some_iff.mp hb).1
      simpa using this
    rw [List.getElem?_set_self hl] at hb; cases hb
    exact ⟨v, by rw [List.getElem?_set_self (by rw [r.len]; exact hl)], hd⟩
  · rw [List.getElem?_set_ne hj] at hb
    exact (r.bd j b hb).other hj
  · by_cases hj : i = j
    · subst hj
      by_cases hl : i < ρ.length
      · rw [List.getElem?_set_self hl] at h1; cases h1
      · rw [List.getElem?_eq_none (by rw [List.length_set]; omega)] at h1; cases h1
    · rw [List.getElem?_set_ne hj] at h1 h2
      exact r.np j d' a h1 h2
theorem Rp.setOwn (r : Rp K A0 S H σ ρ) {a : Addr} {d : PyData} (hs : ¬ S a) (ho : ¬ Ow σ ρ a) (hp : ∀ j, A0 j ≠ some a) (ha : OwnAt K S H a d) : Rp K A0 S H (σ.set i (some (.ref a))) (ρ.set i (.own d)) ∧ ∀ b, Ow (σ.set i (some (.ref a))) (ρ.set i (.own d)) b → Ow σ ρ b ∨ b = a := by
  have own : ∀ j b, OwI (σ.set i (some (.ref a))) (ρ.set i (.own d)) j b → (OwI σ ρ j b ∧ i ≠ j) ∨ (j = i ∧ b = a) := fun j b h => by
    by_cases hj : i = j
    · subst hj
      obtain ⟨h1, h2⟩ := h
      by_cases hl : i < ρ.length
      · rw [List.getElem?_set_self (by rw [r.len]; exact hl)] at h2; cases h2; exact .inr ⟨rfl, rfl⟩
      · rw [List.getElem?_eq_none (by rw [List.length_set]; omega)] at h1; cases h1
    · exact .inl ⟨OwI.other hj h, hj⟩
  refine ⟨⟨by rw [List.length_set, List.length_set]; exact r.len, fun j b hb => ?_, fun j k b h1 h2 => ?_, r.al, fun j d' b h1 h2 => ?_, r.aa, r.tb⟩, fun b ⟨j, h⟩ => ?_⟩
  · by_cases hj : i = j
    · subst hj
      have hl : i < ρ.length := by
        have := (List.getElem?_eq_some_iff.mp hb).1
        simpa using this
      rw [List.getElem?_set_self hl] at hb; cases hb
      exact ⟨a, by rw [List.getElem?_set_self (by rw [r.len]; exact hl)], hs, ha⟩
    · rw [List.getElem?_set_ne hj] at hb
      exact (r.bd j b hb).other hj
  · rcases own j b h1 with ⟨q1, _⟩ | ⟨q1, q2⟩
    · rcases own k b h2 with ⟨p1, _⟩ | ⟨p1, p2⟩
      · exact r.dis j k b q1 p1
      · exact (ho (p2 ▸ ⟨j, q1⟩)).elim
    · rcases own k b h2 with ⟨p1, _⟩ | ⟨p1, p2⟩
      · exact (ho (q2 ▸ ⟨k, p1⟩)).elim
      · rw [q1, p1]
  · by_cases hj : i = j
    · subst hj
      by_cases hl : i < ρ.length
      · rw [List.getElem?_set_self (by rw [r.len]; exact hl)] at h2; cases h2; exact hp
      · rw [List.getElem?_eq_none (by rw [List.length_set]; omega)] at h1; cases h1
    · rw [List.getElem?_set_ne hj] at h1 h2
      exact r.np j d' b h1 h2
  · rcases own j b h with ⟨q, _⟩ | ⟨_, q⟩
    · exact .inl ⟨j, q⟩
    · exact .inr q
end
def bindV (i : Nat) : Ev → List B → Rs (List B)
  | .val d, ρ => .ok (ρ.set i (.val d))
  | .fr d, ρ => .ok (ρ.set i (.own d))
  | .sl j, ρ => match shr ρ (.sl j) with
    | some (d, ρ') => .ok (ρ'.set i (.val d))
    | none => .bad
theorem bindV_ok {g : Gc} {S S0 : Addr → Prop} {H H0 : Hp} {σ σ0 : St} {ρ ρ0 ρ' : List B} {i : Nat} {e : Ev} {v : V} (t : Tr S0 H0 (Ow σ0 ρ0) S H (Ow σ ρ)) (r : Rp g.K g.A0 S H σ ρ) (h : RE g.K g.A0 H0 S H σ ρ v e)
    (hb : bindV i e ρ = .ok ρ') : ∃ S', Tr S0 H0 (Ow σ0 ρ0) S' H (Ow (σ.set i (some v)) ρ') ∧ Rp g.K g.A0 S' H (σ.set i (some v)) ρ' := by
  cases e with
  | val d =>
    cases hb
    obtain ⟨r', s⟩ := r.setVal (i := i) h
    exact ⟨S, ⟨t.s, t.keep, t.dom, fun a q => t.o a (s a q), t.g⟩, r'⟩
  | fr d =>
    cases hb
    obtain ⟨a, rfl, h0, hs, ho, ha⟩ := h
    obtain ⟨r', s⟩ := r.setOwn (i := i) hs ho h0.2 ha
    refine ⟨S, ⟨t.s, t.keep, t.dom, fun b q => ?_, t.g⟩, r'⟩
    rcases s b q with q | rfl
    · exact t.o b q
    · exact .inr h0.1
  | sl j =>
    unfold bindV at hb
    cases q : shr ρ (.sl j) with
    | none => simp only [q, reduceCtorEq] at hb
    | some p =>
      obtain ⟨d, ρ1⟩ := p
      simp only [q] at hb
      cases hb
      obtain ⟨S', t', r', hd, _⟩ := shr_ok t r (show RE1 g.K S H σ v (.sl j) from h) q
      obtain ⟨r2, s⟩ := r'.setVal (i := i) hd
      have t2 := t'
      exact ⟨S', ⟨t2.s, t2.keep, t2.dom, fun a z => t2.o a (s a z), t2.g⟩, r2⟩
def asgS (i : Nat) (fe : SE) : SS := fun ρ => (fe ρ).bind fun p => (bindV i p.1 p.2).bind fun ρ' => .ok (.nx ρ')
section
variable {X : Cx} {A0 : Ax} {W : WX} {e : Expr} {fe : SE} {pos pos' : Pos}
theorem gs_set (i : Nat) {x : Str} (hN : X.N.Nodup) (he : PE X e (tE (gc X A0 W) fe)) (hi : X.N[i]? = some x := by rfl) (hx : Loc X.env.scope x := by first | exact Or.inl rfl | exact Or.inr rfl) (hs : swapsWith e (some (.Name x pos')) pos.line X.env = pure false := by rfl) (hf : X.fn x = true ∨ X.env.scope.names.lookup x = some .local := by first | exact .inl rfl | exact .inr rfl | assumption) :
    PS X (.Assign [.Name x pos'] e pos) (tSt (gc X A0 W) (asgS i fe)) := PS_imp (ps_set hN hi hx he hs hf) fun D σ H ⟨S, ρ, r, h⟩ =>
  tE_bind (P := fun z => PostS (gc X A0 W) S H σ ρ z D) exS PostS.bad r h fun p S1 H1 v1 t1 r1 e1 h => by
    show D.nx _ _
    cases hb : bindV i p.1 p.2 with
    | bad => rw [hb] at h; exact h.elim
    | ex n ρ' =>
      exfalso
      revert hb
      unfold bindV
      split
      · nofun
      · nofun
      · split <;> nofun
    | ok ρ' =>
      rw [hb] at h
      obtain ⟨S2, t2, r2⟩ := bindV_ok t1 r1 e1 hb
      exact h S2 H1 _ t2 r2
end
/-! ### targets -/
abbrev SG := PyData → List B → Rs (List B)
def PostG (g : Gc) (tv : List Nat) (S : Addr → Prop) (H : Hp) (σ : St) (ρ : List B) (r : Rs (List B)) (Q : St → Hp → Prop) : Prop := match r with
  | .ok ρ' => ∀ S' H' σ', Tr S H (Ow σ ρ) S' H' (Ow σ' ρ') → Rp g.K g.A0 S' H' σ' ρ' → wipe σ' tv = wipe σ tv → Q σ' H'
  | _ => False
def tG (g : Gc) (tv : List Nat) (ft : SG) : TG := fun v σ H Q => ∃ S ρ d, Rp g.K g.A0 S H σ ρ ∧ Dr g.K S H v d ∧ PostG g tv S H σ ρ (ft d ρ) Q
def tGs (g : Gc) (tv : List Nat) (ft : List PyData → List B → Rs (List B)) : TGs := fun vs σ H Q => ∃ S ρ ds, Rp g.K g.A0 S H σ ρ ∧ DrAll g.K S H vs ds ∧ PostG g tv S H σ ρ (ft ds ρ) Q
theorem wipe_get {σ : St} {k : Nat} : ∀ {vs : List Nat}, (wipe σ vs)[k]? = if k ∈ vs then (σ[k]?).map fun _ => none else σ[k]?
  | [] => by simp [wipe]
  | v :: vs => by
    unfold wipe
    by_cases hk : v = k
    · subst hk
      rw [if_pos (List.mem_cons_self ..)]
      by_cases hl : v < σ.length
      · rw [List.getElem?_set_self (by rw [wipe_length]; exact hl), List.getElem?_eq_getElem hl]; rfl
      · rw [List.getElem?_eq_none (by rw [List.length_set, wipe_length]; omega), List.getElem?_eq_none (by omega)]; rfl
    · rw [List.getElem?_set_ne hk, wipe_get]
      by_cases hm : k ∈ vs
      · rw [if_pos hm, if_pos (List.mem_cons_of_mem _ hm)]
      · rw [if_neg hm, if_neg]
        intro z
        rcases List.mem_cons.mp z with z | z
        · exact hk z.symm
        · exact hm z
theorem wipe_set {σ : St} {i : Nat} {x : Option V} {vs : List Nat} (h : i ∈ vs) : wipe (σ.set i x) vs = wipe σ vs := by
  apply List.ext_getElem?
  intro k
  rw [wipe_get, wipe_get]
  by_cases hk : k ∈ vs
  · rw [if_pos hk, if_pos hk]
    by_cases hi : i = k
    · subst hi
      by_cases hl : i < σ.length
      · rw [List.getElem?_set_self hl, List.getElem?_eq_getElem hl]; rfl
      · rw [List.getElem?_eq_none (by rw [List.length_set]; omega), List.getElem?_eq_none (by omega)]
    · rw [List.getElem?_set_ne hi]
  · rw [if_neg hk, if_neg hk, List.getElem?_set_ne (fun z => hk (by rw [← z]; exact h))]
theorem PostG.from {g : Gc} {tv : List Nat} {S S' : Addr → Prop} {H H' : Hp} {σ σ' : St} {ρ ρ' : List B} {r : Rs (List B)} {Q : St → Hp → Prop} (t : Tr S H (Ow σ ρ) S' H' (Ow σ' ρ')) (hw : wipe σ' tv = wipe σ tv) (h : PostG g tv S H σ ρ r Q) : PostG g tv S' H' σ' ρ' r Q := by
  cases r with
  | ok p => exact fun S2 H2 σ2 t2 r2 w2 => h S2 H2 σ2 (t.trans t2) r2 (w2.trans hw)
  | ex n ρ2 => exact h
  | bad => exact h
def nmG (i : Nat) : SG := fun d ρ => .ok (ρ.set i (.val d))
def nilG : List PyData → List B → Rs (List B) := fun ds ρ => match ds with
  | [] => .ok ρ
  | _ => .bad
def consG (t : SG) (u : List PyData → List B → Rs (List B)) : List PyData → List B → Rs (List B) := fun ds ρ => match ds with
  | d :: r => (t d ρ).bind (u r)
  | [] => .bad
def tupG (n : Nat) (u : List PyData → List B → Rs (List B)) : SG := fun d ρ => match d with
  | .tuple ds => if ds.length = n then u ds ρ else .bad
  | .list ds => if ds.length = n then u ds ρ else .bad
  | _ => .bad
section
variable {X : Cx} {A0 : Ax} {W : WX} {pos : Pos} {tv : List Nat}
theorem gg_name (i : Nat) {x : Str} (hN : X.N.Nodup) (hi : X.N[i]? = some x := by rfl) (hx : Loc X.env.scope x := by first | exact Or.inl rfl | exact Or.inr rfl) (hf : X.fn x = true ∨ X.env.scope.names.lookup x = some .local := by first | exact .inl rfl | exact .inr rfl | assumption) (hm : i ∈ tv := by decide) : PG X (.Name x pos) (tG (gc X A0 W) tv (nmG i)) := by
  refine ⟨fun pins s σ H v u Q I r h => (pg_name hN hi hx hf).run pins s σ H v u Q I r ?_⟩
  obtain ⟨S, ρ, d, rp, hd, h⟩ := h
  obtain ⟨r', s⟩ := rp.setVal (i := i) hd
  exact h S H _ ⟨fun _ q => q, fun _ _ q _ => .inl q, fun _ o q => ⟨o, q⟩, fun a q => .inl (s a q), fun _ q => .inl q⟩ r' (wipe_set hm)
theorem ggs_nil : PGs X [] (tGs (gc X A0 W) tv nilG) := by
  refine ⟨fun pins s σ H vs us Q I r h => pgs_nil.run pins s σ H vs us Q I r ?_⟩
  obtain ⟨S, ρ, ds, rp, hd, h⟩ := h
  cases ds with
  | nil => cases hd; exact ⟨rfl, h S H σ Tr.refl rp rfl⟩
  | cons _ _ => exact h.elim
theorem ggs_cons {e : Expr} {es : List Expr} {t : SG} {u : List PyData → List B → Rs (List B)} (h1 : PG X e (tG (gc X A0 W) tv t)) (h2 : PGs X es (tGs (gc X A0 W) tv u))
    (hs : (assignEach (e :: es) X.env).map (·.2) = assign e X.env :: (assignEach es X.env).map (·.2) := by rfl) : PGs X (e :: es) (tGs (gc X A0 W) tv (consG t u)) := by
  refine ⟨fun pins s σ H vs us Q I r h => (pgs_cons h1 h2 hs).run pins s σ H vs us Q I r ?_⟩
  obtain ⟨S, ρ, ds, rp, hd, h⟩ := h
  cases ds with
  | nil => exact h.elim
  | cons d ds =>
    cases hd with
    | cons hd1 hd2 =>
      refine ⟨_, _, rfl, S, ρ, d, rp, hd1, ?_⟩
      simp only [consG] at h
      cases e : t d ρ with
      | ok ρ' =>
        rw [e] at h
        exact fun S' H' σ' t' r' w' => ⟨S', ρ', ds, r', hd2.ex (rp.ex t'), PostG.from t' w' h⟩
      | ex n ρ' => rw [e] at h; exact h.elim
      | bad => rw [e] at h; exact h.elim
theorem gg_tup {es : List Expr} {k : Nat} {u : List PyData → List B → Rs (List B)} {n : Nat} (hc : X.calm = true) (h : PGs X es (tGs (gc X A0 W) tv u))
    (hn : (assignEach es X.env).length = n := by rfl) (hst : (assignEach es X.env).findIdx? (·.1) = none := by rfl) : PG X (.Tuple es k pos) (tG (gc X A0 W) tv (tupG n u)) := by
  refine ⟨fun pins s σ H v w Q I r q => ?_⟩
  obtain ⟨S, ρ, d, rp, hd, q⟩ := q
  cases d with
  | tuple ds =>
    simp only [tupG] at q
    split at q
    · rename_i hl
      obtain ⟨a, xs, rfl, hq, hx⟩ := hd.tupE
      exact (pg_tup hc h hn hst).run pins s σ H _ w Q I r ⟨a, xs, rfl, hq, by rw [hx.length]; exact hl, S, ρ, ds, rp, hx, q⟩
    · exact q.elim
  | list ds =>
    simp only [tupG] at q
    split at q
    · rename_i hl
      obtain ⟨a, xs, rfl, hq, hx⟩ := hd.w.lst
      exact (pg_unl hc h hn hst).run pins s σ H _ w Q I r ⟨a, xs, rfl, hq.sq, by rw [hx.length]; exact hl, S, ρ, ds, rp, hx, q⟩
    · exact q.elim
  | _ => exact q.elim
/-- target = value, the value a datum -/
def asgG (t : SG) (fe : SE) : SS := fun ρ => (fe ρ).bind fun p => match shr p.2 (settle p.1) with
  | some (d, ρ1) => (match t d ρ1 with
    | .ok ρ' => .ok (.nx ρ')
    | _ => .bad)
  | none => .bad
theorem gs_asg {tg e : Expr} {fe : SE} {t : SG} (he : PE X e (tE (gc X A0 W) fe)) (hg : PG X tg (tG (gc X A0 W) tv t)) (hs : swapsWithSole [tg] e pos.line X.env = pure false := by rfl) (hw : swappedStores [tg] e X.env = pure none := by rfl)
    (h1 : (assignEach [tg] X.env).map (·.2) = [assign tg X.env] := by rfl) : PS X (.Assign [tg] e pos) (tSt (gc X A0 W) (asgG t fe)) := PS_imp (ps_asg he hg hs hw h1) fun D σ H ⟨S, ρ, r, h⟩ =>
  tE_bind (P := fun z => PostS (gc X A0 W) S H σ ρ z D) exS PostS.bad r h fun p S1 H1 v1 t1 r1 e1 h => by
    obtain ⟨S1', t1', r1', e1', _⟩ := settle_ok t1 r1 e1
    cases q : shr p.2 (settle p.1) with
    | none => rw [q] at h; exact h.elim
    | some pr =>
      obtain ⟨d, ρ1⟩ := pr
      rw [q] at h
      obtain ⟨S2, t2, r2, hd, _⟩ := shr_ok t1' r1' e1' q
      simp only at h
      refine ⟨S2, ρ1, d, r2, hd, ?_⟩
      cases e : t d ρ1 with
      | ok ρ' => rw [e] at h; exact fun S' H' σ' t' r' _ => h S' H' σ' (t2.trans t') r'
      | ex n ρ' => rw [e] at h; exact h.elim
      | bad => rw [e] at h; exact h.elim
end
end G
namespace G
open PySem PySem.Spec PyProof.Rows L2
/-! ### while -/
def whF (c : SB) (b : SS) : Nat → SS
  | 0, _ => .bad
  | n + 1, ρ => (c ρ).bind fun p => if p.1 = true then (b p.2).bind fun r => (match r with
      | .nx ρ' => whF c b n ρ'
      | .ct ρ' => whF c b n ρ'
      | .bk ρ' => .ok (.nx ρ')
      | .rt e ρ' => .ok (.rt e ρ')) else .ok (.nx p.2)
/-- μ: how many turns at most -/
def whS (μ : List B → Nat) (c : SB) (b : SS) : SS := fun ρ => whF c b (μ ρ) ρ
section
variable {X : Cx} {A0 : Ax} {W : WX} {pos : Pos}
theorem gs_while (μ : List B → Nat) {c : Expr} {body : List Stmt} {fc : SB} {fb : SS} (hp : PassesOwn (model X.prog X.w) X.A X.env X.xe) (hc : PT X c (tT (gc X A0 W) fc)) (hb : PSs X body (tSt (gc X A0 W) fb)) : PS X (.While c body [] pos) (tSt (gc X A0 W) (whS μ fc fb)) := by
  refine PS_imp (ps_while hp hc hb) ?_
  rintro D σ0 H0 ⟨S0, ρ0, r0, h0⟩
  refine ⟨fun m σ H => tSt (gc X A0 W) (whF fc fb m) D σ H, ⟨_, S0, ρ0, r0, h0⟩, ?_⟩
  rintro m σ H ⟨S, ρ, r, h⟩
  cases m with
  | zero => exact h.elim
  | succ n =>
    refine tT_bind (P := fun z => PostS (gc X A0 W) S H σ ρ z D) exS PostS.bad r h fun p S1 H1 t1 r1 h1 => ?_
    cases hp : p.1 with
    | false =>
      rw [hp] at h1
      exact iteF (h1 S1 H1 σ t1 r1)
    | true =>
      rw [hp] at h1
      refine iteT ⟨fun σ' H' => tSt (gc X A0 W) (whF fc fb n) D σ' H', fun σ' H' q => ⟨n, Nat.lt_succ_self n, q⟩, S1, p.2, r1, ?_⟩
      cases e : fb p.2 with
      | bad => rw [e] at h1; exact h1.elim
      | ex k ρ' => rw [e] at h1; exact PostS.from t1 h1
      | ok fl =>
        rw [e] at h1
        cases fl with
        | nx ρ' => exact fun S' H' σ' t' r' => ⟨S', ρ', r', PostS.from (t1.trans t') h1⟩
        | ct ρ' => exact fun S' H' σ' t' r' => ⟨S', ρ', r', PostS.from (t1.trans t') h1⟩
        | bk ρ' => exact fun S' H' σ' t' r' => h1 S' H' σ' (t1.trans t') r'
        | rt ev ρ' => exact fun S' H' σ' t' r' v re => h1 S' H' σ' (t1.trans t') r' v (re.back fun a hz => t1.fresh hz)
end
/-! ### what is walked -/
theorem Ex.trans {S S1 S2 : Addr → Prop} {H H1 H2 : Hp} (a : Ex S H S1 H1) (b : Ex S1 H1 S2 H2) : Ex S H S2 H2 :=
  ⟨fun c h => b.s c (a.s c h), fun c o h n e => b.sh c o (a.s c h) n (a.sh c o h n e), fun c xs h => b.tup c xs (a.tup c xs h), fun c o u h => b.frz c o u (a.frz c o u h)⟩
structure ItOk (K : PySem.W.Frag) (J : It) (S0 : Addr → Prop) (H0 : Hp) (ds : List PyData) : Prop where
  at_ : ∀ S H i d, Ex S0 H0 S H → ds[i]? = some d → J.go i H ∧ ∀ x H', J.yld i H x H' → L2.Same H H' ∧ Dr K S H' x d
  end_ : ∀ S H, Ex S0 H0 S H → J.stop ds.length H
theorem ItOk.mono {K : PySem.W.Frag} {J : It} {S S' : Addr → Prop} {H H' : Hp} {ds : List PyData} (x : Ex S H S' H') (h : ItOk K J S H ds) : ItOk K J S' H' ds :=
  ⟨fun S2 H2 i d q => h.at_ S2 H2 i d (x.trans q), fun S2 H2 q => h.end_ S2 H2 (x.trans q)⟩
abbrev SI := List B → Rs (List PyData × List B)
def PostI (g : Gc) (S : Addr → Prop) (H : Hp) (σ : St) (ρ : List B) (r : Rs (List PyData × List B)) (R : It → Hp → Prop) : Prop := match r with
  | .ok p => ∀ S' H' J, Tr S H (Ow σ ρ) S' H' (Ow σ p.2) → Rp g.K g.A0 S' H' σ p.2 → ItOk g.K J S' H' p.1 → R J H'
  | .ex n ρ' => ∀ S' H', Tr S H (Ow σ ρ) S' H' (Ow σ ρ') → Rp g.K g.A0 S' H' σ ρ' → g.wx n σ H'
  | .bad => False
def tI (g : Gc) (f : SI) : TI := fun σ H R => ∃ S ρ, Rp g.K g.A0 S H σ ρ ∧ PostI g S H σ ρ (f ρ) R
theorem tI_bind {g : Gc} {S : Addr → Prop} {H : Hp} {σ : St} {ρ : List B} {f : SI} {R : It → Hp → Prop} {α : Type} {k : List PyData × List B → Rs α} {P : Rs α → Prop} (hex : ∀ n ρ', P (.ex n ρ') → ∀ S' H', Tr S H (Ow σ ρ) S' H' (Ow σ ρ') → Rp g.K g.A0 S' H' σ ρ' → g.wx n σ H') (hbad : ¬ P .bad)
    (r : Rp g.K g.A0 S H σ ρ) (h : P ((f ρ).bind k)) (hk : ∀ p S' H' J, Tr S H (Ow σ ρ) S' H' (Ow σ p.2) → Rp g.K g.A0 S' H' σ p.2 → ItOk g.K J S' H' p.1 → P (k p) → R J H') : tI g f σ H R := by
  refine ⟨S, ρ, r, ?_⟩
  cases e : f ρ with
  | ok p => rw [e] at h; exact fun S' H' v t r' q => hk p S' H' v t r' q h
  | ex n ρ' => rw [e] at h; exact hex n ρ' h
  | bad => rw [e] at h; exact (hbad h).elim
theorem exI {g : Gc} {S : Addr → Prop} {H : Hp} {σ : St} {ρ : List B} {R : It → Hp → Prop} : ∀ n ρ', PostI g S H σ ρ (.ex n ρ') R → ∀ S' H', Tr S H (Ow σ ρ) S' H' (Ow σ ρ') → Rp g.K g.A0 S' H' σ ρ' → g.wx n σ H' := fun _ _ h => h
theorem PostI.bad {g : Gc} {S : Addr → Prop} {H : Hp} {σ : St} {ρ : List B} {R : It → Hp → Prop} : ¬ PostI g S H σ ρ .bad R := fun h => h
/-- a list or tuple walked -/
def seqI (k : PyData → Option (List PyData)) (fe : SE) : SI := fun ρ => (fe ρ).bind fun p => match shr p.2 (settle p.1) with
  | some (d, ρ1) => (match k d with
    | some ds => .ok (ds, ρ1)
    | none => .bad)
  | none => .bad
theorem seqI_bind {g : Gc} {k : PyData → Option (List PyData)} {fe : SE} {σ : St} {H : Hp} {R : It → Hp → Prop} (h : tI g (seqI k fe) σ H R) {R' : VK}
    (hk : ∀ S' H' v d ds, Dr g.K S' H' v d → k d = some ds → (∀ J, ItOk g.K J S' H' ds → R J H') → R' v H') : tE g fe σ H R' := by
  obtain ⟨S, ρ, r, h⟩ := h
  refine tE_bind (P := fun z => PostI g S H σ ρ z R) exI PostI.bad r h fun p S1 H1 v1 t1 r1 e1 h => ?_
  obtain ⟨S1', t1', r1', e1', _⟩ := settle_ok t1 r1 e1
  cases q : shr p.2 (settle p.1) with
  | none => rw [q] at h; exact h.elim
  | some pr =>
    obtain ⟨d, ρ1⟩ := pr
    rw [q] at h
    obtain ⟨S2, t2, r2, hd, _⟩ := shr_ok t1' r1' e1' q
    simp only at h
    cases e : k d with
    | none => rw [e] at h; exact h.elim
    | some ds =>
      rw [e] at h
      exact hk S2 H1 v1 d ds hd e fun J ok => h S2 H1 J t2 r2 ok
def lstK : PyData → Option (List PyData)
  | .list ds => some ds
  | _ => none
def tupK : PyData → Option (List PyData)
  | .tuple ds => some ds
  | _ => none
theorem itl_ok {K : PySem.W.Frag} {S : Addr → Prop} {H : Hp} {v : V} {ds : List PyData} (h : Dr K S H v (.list ds)) : ∃ a, v = .ref a ∧ (∃ xs, SqL K H a xs) ∧ ItOk K (Itl K a) S H ds := by
  obtain ⟨a, xs0, rfl, q0, _⟩ := h.w.lst
  have key : ∀ S2 H2, Ex S H S2 H2 → ∃ xs, SqL K H2 a xs ∧ DrAll K S2 H2 xs ds := fun S2 H2 x => by
    obtain ⟨a', xs, e, q1, q2⟩ := (h.ex x).w.lst
    cases e
    exact ⟨xs, q1.sq, q2⟩
  refine ⟨a, rfl, ⟨xs0, q0.sq⟩, fun S2 H2 i d x e => ?_, fun S2 H2 x => ?_⟩
  · obtain ⟨xs, q1, q2⟩ := key S2 H2 x
    obtain ⟨u, e1, e2⟩ := q2.get e
    refine ⟨⟨xs, u, q1, e1⟩, fun y H' hy => ?_⟩
    obtain ⟨rfl, hy⟩ := hy
    have := hy xs q1
    rw [e1] at this; cases this
    exact ⟨fun _ _ e => e, e2⟩
  · obtain ⟨xs, q1, q2⟩ := key S2 H2 x
    exact ⟨xs, q1, by rw [q2.length]; exact Nat.le_refl _⟩
theorem itt_ok {K : PySem.W.Frag} {S : Addr → Prop} {H : Hp} {v : V} {ds : List PyData} (h : Dr K S H v (.tuple ds)) : ∃ a, v = .ref a ∧ (∃ xs, SqT K H a xs) ∧ ItOk K (Itt K a) S H ds := by
  obtain ⟨a, xs0, rfl, q0, _⟩ := h.w.tup
  have key : ∀ S2 H2, Ex S H S2 H2 → ∃ xs, SqT K H2 a xs ∧ DrAll K S2 H2 xs ds := fun S2 H2 x => by
    obtain ⟨a', xs, e, q1, q2⟩ := (h.ex x).w.tup
    cases e
    exact ⟨xs, q1, q2⟩
  refine ⟨a, rfl, ⟨xs0, q0⟩, fun S2 H2 i d x e => ?_, fun S2 H2 x => ?_⟩
  · obtain ⟨xs, q1, q2⟩ := key S2 H2 x
    obtain ⟨u, e1, e2⟩ := q2.get e
    refine ⟨⟨xs, u, q1, e1⟩, fun y H' hy => ?_⟩
    obtain ⟨rfl, hy⟩ := hy
    have := hy xs q1
    rw [e1] at this; cases this
    exact ⟨fun _ _ e => e, e2⟩
  · obtain ⟨xs, q1, q2⟩ := key S2 H2 x
    exact ⟨xs, q1, by rw [q2.length]; exact Nat.le_refl _⟩
theorem itr_ok {K : PySem.W.Frag} {S : Addr → Prop} {H : Hp} {lo : Int} {n : Nat} : ItOk K (Itr lo n) S H ((List.range n).map fun i : Nat => PyData.int (lo + i)) := by
  refine ⟨fun S2 H2 i d x e => ?_, fun S2 H2 x => by rw [List.length_map, List.length_range]; exact Nat.le_refl _⟩
  rw [List.getElem?_map] at e
  by_cases hi : i < n
  · rw [List.getElem?_range hi] at e
    cases e
    refine ⟨hi, fun y H' hy => ?_⟩
    obtain ⟨rfl, rfl⟩ := hy
    exact ⟨fun _ _ e => e, .int _⟩
  · rw [List.getElem?_eq_none (by rw [List.length_range]; omega)] at e; cases e
section
variable {X : Cx} {A0 : Ax} {W : WX} {tg l : Expr} {fe : SE} {pos p : Pos}
theorem PI_imp {iter : Expr} {t t' : TI} (h : PI X tg iter t) (i : ∀ σ H R, t' σ H R → t σ H R) : PI X tg iter t' := ⟨fun pins s σ H R I q => h.run pins s σ H R I (i σ H R q)⟩
def rngOk (i : Int) : Bool := decide (-4611686018427387904 ≤ i) && decide (i < 4611686018427387904)
theorem rngOk_ok {i : Int} (h : rngOk i = true) : -(2 ^ 62) ≤ i ∧ i < 2 ^ 62 := by
  simp only [rngOk, Bool.and_eq_true, decide_eq_true_eq] at h
  have : (2 : Int) ^ 62 = 4611686018427387904 := by decide
  omega
def rng1I (fa : SA) : SI := fun ρ => (fa ρ).bind fun p => match peeks p.2 p.1 with
  | some [.int j] => if rngOk j = true then .ok ((List.range j.toNat).map fun i : Nat => PyData.int (0 + i), p.2) else .bad
  | _ => .bad
def rng2I (fa : SA) : SI := fun ρ => (fa ρ).bind fun p => match peeks p.2 p.1 with
  | some [.int i, .int j] => if (rngOk i && rngOk j) = true then .ok ((List.range (j - i).toNat).map fun k : Nat => PyData.int (i + k), p.2) else .bad
  | _ => .bad
variable {a b : Expr} {fa : SA}
theorem gi_range1 (hm : X.mg "range" = none) (ha : PA X [a] (tA (gc X A0 W) fa)) (hg : Gl X "range" := by rfl) (hs : starEach [a] X.env = [(false, eval a X.env)] := by rfl) : PI X tg (.Call (.Name "range" p) [a] [] pos) (tI (gc X A0 W) (rng1I fa)) := PI_imp (pi_range1 hg hm ha hs) fun σ H R ⟨S, ρ, r, h⟩ =>
  tA_bind (P := fun z => PostI (gc X A0 W) S H σ ρ z R) exI PostI.bad r h fun p S1 H1 vs t1 r1 e1 h => by
    cases q : peeks p.2 p.1 with
    | none => rw [q] at h; exact h.elim
    | some ds =>
      rw [q] at h
      match ds, h, peeks_ok r1 e1 q with
      | [.int j], h, dw =>
        simp only at h
        split at h
        · rename_i hj
          obtain ⟨v, rfl, hv⟩ := dw1 dw
          have := rngOk_ok hj
          exact ⟨j, by rw [hv.int], this.1, this.2, h S1 H1 _ t1 r1 itr_ok⟩
        · exact h.elim
end
/-! ### for -/
def forL (t : SG) (b : SS) : List PyData → List B → Rs Fl
  | [], ρ => .ok (.nx ρ)
  | d :: ds, ρ => match t d ρ with
    | .ok ρ1 => (b ρ1).bind fun r => (match r with
      | .nx ρ2 => forL t b ds ρ2
      | .ct ρ2 => forL t b ds ρ2
      | .bk ρ2 => .ok (.nx ρ2)
      | .rt e ρ2 => .ok (.rt e ρ2))
    | _ => .bad
def forS (it : SI) (t : SG) (b : SS) : SS := fun ρ => (it ρ).bind fun p => forL t b p.1 p.2
theorem drop_cons {α : Type} {l : List α} {i : Nat} {d : α} (h : l[i]? = some d) : l.drop i = d :: l.drop (i + 1) := by
  obtain ⟨hi, e⟩ := List.getElem?_eq_some_iff.mp h
  rw [List.drop_eq_getElem_cons hi, e]
section
variable {X : Cx} {A0 : Ax} {W : WX} {tg iter : Expr} {pos : Pos} {tv : List Nat}
theorem gs_for {body : List Stmt} {fi : SI} {ft : SG} {fb : SS} (hp : PassesOwn (model X.prog X.w) X.A X.env X.xe) (hc : X.calm = true) (hi : PI X tg iter (tI (gc X A0 W) fi)) (hg : PG X tg (tG (gc X A0 W) tv ft)) (hb : PSs X body (tSt (gc X A0 W) fb))
    (hs : ∀ x, foldedSetIterable iter X.env x = pure x := by intro _; rfl) : PS X (.For tg iter body [] pos) (tSt (gc X A0 W) (forS fi ft fb)) := by
  refine PS_imp (ps_for hp hc hi hg hb hs) ?_
  rintro D σ H ⟨S, ρ, r, h⟩
  refine tI_bind (P := fun z => PostS (gc X A0 W) S H σ ρ z D) exS PostS.bad r h fun p S1 H1 J t1 r1 ok h1 => ?_
  obtain ⟨ds, ρ1⟩ := p
  refine ⟨fun i m σ H => i + m = ds.length ∧ ∃ S ρ, Rp X.K A0 S H σ ρ ∧ ItOk X.K J S H ds ∧ PostS (gc X A0 W) S H σ ρ (forL ft fb (ds.drop i) ρ) D, ⟨ds.length, by omega, S1, ρ1, r1, ok, PostS.from t1 h1⟩, ?_⟩
  rintro i m σ H ⟨hm, S, ρ, r, ok, h⟩
  cases m with
  | zero =>
    have hi : i = ds.length := by omega
    subst hi
    rw [List.drop_length] at h
    exact .inl ⟨ok.end_ S H (Ex.same fun _ _ e => e), h S H σ Tr.refl r⟩
  | succ n =>
    have hl : i < ds.length := by omega
    have e : ds[i]? = some ds[i] := List.getElem?_eq_getElem hl
    obtain ⟨hgo, hy⟩ := ok.at_ S H i _ (Ex.same fun _ _ e => e) e
    rw [drop_cons e] at h
    refine .inr ⟨hgo, fun σ' H' => ∃ S ρ, Rp X.K A0 S H' σ' ρ ∧ ItOk X.K J S H' ds ∧ PostS (gc X A0 W) S H' σ' ρ (forL ft fb (ds.drop (i + 1)) ρ) D, fun σ' H' q => ⟨n, Nat.lt_succ_self n, by omega, q⟩, fun x H' y => ?_⟩
    obtain ⟨sm, dx⟩ := hy x H' y
    have tg0 : Tr S H (Ow σ ρ) S H' (Ow σ ρ) := Tr.grow sm
    refine ⟨S, ρ, ds[i], r.same sm, dx, ?_⟩
    simp only [forL] at h
    cases e1 : ft ds[i] ρ with
    | bad => rw [e1] at h; exact h.elim
    | ex k ρ' => rw [e1] at h; exact h.elim
    | ok ρ2 =>
      rw [e1] at h
      simp only at h
      intro S2 H2 σ2 t2 r2 _
      have t02 := tg0.trans t2
      have x02 : Ex S H S2 H2 := r.ex t02
      refine ⟨S2, ρ2, r2, ?_⟩
      cases e2 : fb ρ2 with
      | bad => rw [e2] at h; exact h.elim
      | ex k ρ' => rw [e2] at h; exact PostS.from t02 h
      | ok fl =>
        rw [e2] at h
        cases fl with
        | nx ρ' => exact fun S' H' σ' t' r' => ⟨S', ρ', r', ok.mono (x02.trans (r2.ex t')), PostS.from (t02.trans t') h⟩
        | ct ρ' => exact fun S' H' σ' t' r' => ⟨S', ρ', r', ok.mono (x02.trans (r2.ex t')), PostS.from (t02.trans t') h⟩
        | bk ρ' => exact fun S' H' σ' t' r' => h S' H' σ' (t02.trans t') r'
        | rt ev ρ' => exact fun S' H' σ' t' r' v re => h S' H' σ' (t02.trans t') r' v (re.back fun a hz => t02.fresh hz)
end
end G
namespace G
open PySem PySem.Spec PyProof.Rows L2
/-! ### what a def promises: F of its parameters' bindings -/
def A0f (vs : List V) (bs : List B) (i : Nat) : Option Addr := match bs[i]?, vs[i]? with
  | some (.prm _), some (.ref a) => some a
  | _, _ => none
abbrev A0p (Γ : Gx) (vs : List V) (bs : List B) : Ax := ⟨A0f vs bs, Γ⟩
theorem A0p_ok {vs : List V} {bs : List B} {i : Nat} {a : Addr} (h : A0f vs bs i = some a) : (∃ d, bs[i]? = some (.prm d)) ∧ vs[i]? = some (.ref a) := by
  unfold A0f at h
  split at h
  · rename_i d a' e1 e2; cases h; exact ⟨⟨_, e1⟩, e2⟩
  · cases h
abbrev pst (vs : List V) : St := vs.map some
def PostF (Γ : Gx) (K : PySem.W.Frag) (mg : Str → Option Value) (S : Addr → Prop) (H : Hp) (vs : List V) (bs : List B) (r : Rs (Ev × List B)) (Q : VK) (E : XK) : Prop := match r with
  | .ok p => ∀ S' H' v, Tr S H (Ow (pst vs) bs) S' H' (Ow (pst vs) p.2) → Rp K (A0p Γ vs bs) S' H' (pst vs) p.2 → RE K (A0p Γ vs bs) H S' H' (pst vs) p.2 v p.1 → Q v H'
  | .ex n _ => ∀ S' H', Tr S H (Ow (pst vs) bs) S' H' (fun _ => False) → (∀ a, S' a → ∃ o, H' a = some o) → LamX.Tabs Γ.T H' → ∀ C, mg n = some (.ref C) → E (.ref C) none H'
  | .bad => False
/-- the base has the module table -/
def SysOk (base : Heap) : Prop := ∃ o es ep, base.get? sysModules = some o ∧ o.data = .dict es ep
structure FnG (P : Program) (w : World) (K : PySem.W.Frag) (mg : Str → Option Value) (base : Heap) (Γ : Gx) (k : Nat) (f : Addr) (fd : FuncData) (ps : List Str) (F : SE) : Prop where
  run : ∀ (A : Around) (outer : List Env) (s : Shared) (H : Hp) (args : Args) (us : List Value) (vs : List V) (Q : VK) (E : XK) (S : Addr → Prop) (bs : List B), Room k A → A.guards = some [] → Env0 P w K mg base A outer s H → BindsTo s fd args (ps.zip us) → Vals vs us →
    vs.length = ps.length → (∀ (i : Nat) (d : PyData), bs[i]? ≠ some (B.own d)) → Rp K (A0p Γ vs bs) S H (pst vs) bs → PostF Γ K mg S H vs bs (F bs) Q E → codeAny (model P w) A (.call (.ref f) args) (CR (CX P w) outer P w H s Q E) s
theorem FnG.mono {P : Program} {w : World} {K : PySem.W.Frag} {mg : Str → Option Value} {base : Heap} {Γ : Gx} {j k : Nat} {f : Addr} {fd : FuncData} {ps : List Str} {F : SE} (G : FnG P w K mg base Γ j f fd ps F) (h : j ≤ k) : FnG P w K mg base Γ k f fd ps F :=
  ⟨fun A outer s H args us vs Q E S bs hr => G.run A outer s H args us vs Q E S bs (hr.mono h)⟩
/-- the parameters' bindings behind the body -/
def outB : B → B
  | .prm d => .prm d
  | _ => .un
def retF0 (outs : List B) : Fl → Rs (Ev × List B)
  | .rt (.val d) _ => .ok (.val d, outs)
  | .rt (.fr d) _ => .ok (.fr d, outs)
  | .rt (.sl i) ρ => match ρ[i]? with
    | some (.val d) => .ok (.val d, outs)
    | some (.own d) => .ok (.fr d, outs)
    | _ => .bad
  | .nx _ => .ok (.val .none, outs)
  | _ => .bad
def retF (m : Nat) (fl : Fl) : Rs (Ev × List B) := if m ≤ fl.env.length then retF0 ((fl.env.take m).map outB) fl else .bad
/-- a def by its body: N names -/
def defF (N : Nat) (body : SS) : SE := fun bs => (body (bs ++ List.replicate (N - bs.length) .un)).bind (retF bs.length)
section
variable {Γ : Gx} {K : PySem.W.Frag} {A0 : Ax} {S S' : Addr → Prop} {H H' : Hp}
theorem start_get {N : List Str} {vs : List V} {i : Nat} {v : V} (h : (pst vs)[i]? = some (some v)) : (L2.start N vs)[i]? = some (some v) := by
  unfold L2.start
  have hi : i < (pst vs).length := (List.getElem?_eq_some_iff.mp h).1
  rw [List.getElem?_append_left hi]
  exact h
theorem Rp.begin_ {N : List Str} {vs : List V} {bs : List B} (hN : vs.length ≤ N.length) (r : Rp K (A0p Γ vs bs) S H (pst vs) bs) : Rp K (A0p Γ vs bs) S H (L2.start N vs) (bs ++ List.replicate (N.length - bs.length) .un) ∧
    (∀ a, Ow (L2.start N vs) (bs ++ List.replicate (N.length - bs.length) .un) a ↔ Ow (pst vs) bs a) := by
  have hl : bs.length = vs.length := by rw [← r.len]; simp [pst]
  have inn : ∀ i a, OwI (L2.start N vs) (bs ++ List.replicate (N.length - bs.length) .un) i a → OwI (pst vs) bs i a := fun i a ⟨h1, h2⟩ => by
    by_cases hi : i < bs.length
    · rw [List.getElem?_append_left hi] at h1
      unfold L2.start at h2
      rw [List.getElem?_append_left (by simpa [pst] using (by omega : i < vs.length))] at h2
      exact ⟨h1, h2⟩
    · rw [List.getElem?_append_right (by omega), List.getElem?_replicate] at h1
      split at h1 <;> cases h1
  have out : ∀ i a, OwI (pst vs) bs i a → OwI (L2.start N vs) (bs ++ List.replicate (N.length - bs.length) .un) i a := fun i a ⟨h1, h2⟩ => by
    have hi : i < bs.length := by
      by_cases hi : i < bs.length
      · exact hi
      · rw [List.getElem?_eq_none (by omega)] at h1; cases h1
    exact ⟨by rw [List.getElem?_append_left hi]; exact h1, start_get h2⟩
  refine ⟨⟨?_, fun i b hb => ?_, fun i j a h1 h2 => r.dis i j a (inn i a h1) (inn j a h2), r.al, fun i d a h1 h2 => ?_, r.aa, r.tb⟩, fun a => ⟨fun ⟨i, h⟩ => ⟨i, inn i a h⟩, fun ⟨i, h⟩ => ⟨i, out i a h⟩⟩⟩
  · unfold L2.start
    rw [List.length_append, List.length_append, List.length_map, List.length_replicate, List.length_replicate, hl]
  · by_cases hi : i < bs.length
    · rw [List.getElem?_append_left hi] at hb
      have q := r.bd i b hb
      cases b with
      | un => trivial
      | exc n => exact ⟨q.1, start_get q.2⟩
      | val d => obtain ⟨v, e, q⟩ := q; exact ⟨v, start_get e, q⟩
      | own d => obtain ⟨v, e, q⟩ := q; exact ⟨v, start_get e, q⟩
      | prm d => obtain ⟨v, e, q⟩ := q; exact ⟨v, start_get e, q⟩
    · rw [List.getElem?_append_right (by omega), List.getElem?_replicate] at hb
      split at hb
      · cases hb; trivial
      · cases hb
  · by_cases hi : i < bs.length
    · rw [List.getElem?_append_left hi] at h1
      unfold L2.start at h2
      rw [List.getElem?_append_left (by simpa [pst] using (by omega : i < vs.length))] at h2
      exact r.np i d a h1 h2
    · rw [List.getElem?_append_right (by omega), List.getElem?_replicate] at h1
      split at h1 <;> cases h1
/-- from the body's end to the parameters -/
theorem outs_ok {vs : List V} {bs : List B} {σ : St} {ρ : List B} {m : Nat} (hm : m = vs.length) (hlen : m ≤ ρ.length) (r : Rp K (A0p Γ vs bs) S H σ ρ) : Rp K (A0p Γ vs bs) S H (pst vs) ((ρ.take m).map outB) ∧ ∀ a, Ow (pst vs) ((ρ.take m).map outB) a → Ow σ ρ a := by
  have get : ∀ i b, ((ρ.take m).map outB)[i]? = some b → i < m ∧ ∃ b0, ρ[i]? = some b0 ∧ b = outB b0 := fun i b h => by
    rw [List.getElem?_map] at h
    by_cases hi : i < m
    · rw [List.getElem?_take_of_lt hi] at h
      cases e : ρ[i]? with
      | none => rw [e] at h; cases h
      | some b0 => rw [e] at h; cases h; exact ⟨hi, b0, rfl, rfl⟩
    · rw [List.getElem?_eq_none (by rw [List.length_take]; omega)] at h; cases h
  have prm : ∀ (i : Nat) (d : PyData), ((ρ.take m).map outB)[i]? = some (B.prm d) → ρ[i]? = some (B.prm d) ∧ ∃ a, σ[i]? = some (some (V.ref a)) ∧ vs[i]? = some (V.ref a) ∧ (¬ S a ∧ OwnAt K S H a d) ∧ A0f vs bs i = some a := fun i d h => by
    obtain ⟨hi, b0, e, eb⟩ := get i _ h
    cases b0 with
    | prm d0 =>
      cases eb
      obtain ⟨a, e1, e2, e3⟩ := r.bd i _ e
      exact ⟨e, a, e1, (A0p_ok e2).2, e3, e2⟩
    | _ => cases eb
  have own : ∀ i a, OwI (pst vs) ((ρ.take m).map outB) i a → OwI σ ρ i a := fun i a ⟨h1, h2⟩ => by
    cases e : ((ρ.take m).map outB)[i]? with
    | none => rw [e] at h1; cases h1
    | some b =>
      obtain ⟨hi, b0, e0, eb⟩ := get i b e
      cases b with
      | prm d =>
        obtain ⟨p1, a', p2, p3, _⟩ := prm i d e
        have : (pst vs)[i]? = some (some (.ref a')) := by simp [pst, p3]
        rw [this] at h2; cases h2
        exact ⟨by rw [p1]; rfl, p2⟩
      | un => rw [e] at h1; cases h1
      | exc _ => rw [e] at h1; cases h1
      | val d => rw [e] at h1; cases h1
      | own d => cases b0 <;> cases eb
  refine ⟨⟨by simp [pst]; omega, fun i b hb => ?_, fun i j a h1 h2 => r.dis i j a (own i a h1) (own j a h2), r.al, fun i d a h1 _ => ?_, r.aa, r.tb⟩, fun a ⟨i, h⟩ => ⟨i, own i a h⟩⟩
  · obtain ⟨hi, b0, e0, eb⟩ := get i b hb
    cases b with
    | un => trivial
    | exc _ => cases b0 <;> cases eb
    | val d => cases b0 <;> cases eb
    | own d => cases b0 <;> cases eb
    | prm d =>
    obtain ⟨p1, a', p2, p3, p4, p5⟩ := prm i d hb
    exact ⟨a', by simp [pst, p3], p5, p4.1, p4.2⟩
  · obtain ⟨_, b0, _, eb⟩ := get i _ h1
    cases b0 <;> cases eb
end
section
variable {P : Program} {w : World} {K : PySem.W.Frag} {mg : Str → Option Value} {base : Heap} {Γ : Gx}
abbrev WF (E : XK) : WX := fun cls d _ H => E cls d H
/-- what the body's end says to the caller -/
theorem body_reads {vs : List V} {bs : List B} {N : List Str} {S0 : Addr → Prop} {H : Hp} {body : SS} {Q : VK} {E : XK} (hN : vs.length ≤ N.length) (hbs : ∀ (i : Nat) (d : PyData), bs[i]? ≠ some (B.own d)) (rp : Rp K (A0p Γ vs bs) S0 H (pst vs) bs)
    (hF : PostF Γ K mg S0 H vs bs (defF N.length body bs) Q E) : PostS ⟨K, mg, A0p Γ vs bs, WF E⟩ S0 H (L2.start N vs) (bs ++ List.replicate (N.length - bs.length) .un) (body (bs ++ List.replicate (N.length - bs.length) .un)) { nx := fun _ H' => Q .non H', rt := Q } := by
  have hbl : bs.length = vs.length := by rw [← rp.len]; simp [pst]
  obtain ⟨_, ow⟩ := rp.begin_ (N := N) hN
  have trP : ∀ {S' : Addr → Prop} {H' : Hp} {O' O2 : Addr → Prop}, Tr S0 H (Ow (L2.start N vs) (bs ++ List.replicate (N.length - bs.length) .un)) S' H' O' → (∀ a, O2 a → O' a) → Tr S0 H (Ow (pst vs) bs) S' H' O2 := fun t h =>
    ⟨t.s, fun a o e n => t.keep a o e fun z => n ((ow a).mp z), t.dom, fun a z => (t.o a (h a z)).imp (ow a).mp id, fun a z => (t.g a z).imp id (Or.imp (ow a).mp id)⟩
  unfold defF at hF
  cases eb : body (bs ++ List.replicate (N.length - bs.length) .un) with
  | bad => rw [eb] at hF; exact hF
  | ex n ρ' =>
    rw [eb] at hF
    exact fun S' H' σ' t' r' C hC => hF S' H' (trP t' fun a z => z.elim) r'.al r'.tb C hC
  | ok fl =>
    rw [eb] at hF
    intro S' H' σ' t' r'
    have hF : PostF Γ K mg S0 H vs bs (retF bs.length fl) Q E := hF
    unfold retF at hF
    split at hF
    rotate_left
    · exact hF.elim
    rename_i hm
    obtain ⟨ro, so⟩ := outs_ok hbl hm r'
    cases fl with
    | nx ρ' => exact hF S' H' .non (trP t' so) ro .non
    | bk ρ' => exact hF.elim
    | ct ρ' => exact hF.elim
    | rt ev ρ' =>
      intro v re
      cases ev with
      | val d => exact hF S' H' v (trP t' so) ro re
      | fr d =>
        obtain ⟨a, e1, h0, hs, ho, hc⟩ := re
        exact hF S' H' v (trP t' so) ro ⟨a, e1, h0, hs, fun z => ho (so a z), hc⟩
      | sl i =>
        have hv : σ'[i]? = some (some v) := re
        simp only [retF0] at hF
        cases ei : ρ'[i]? with
        | none => simp only [ei] at hF; exact hF.elim
        | some b =>
          simp only [ei] at hF
          have q := r'.bd i b ei
          cases b with
          | un => exact hF.elim
          | exc _ => exact hF.elim
          | prm d => exact hF.elim
          | val d =>
            obtain ⟨u, e1, e2⟩ := q
            rw [hv] at e1; cases e1
            exact hF S' H' v (trP t' so) ro e2
          | own d =>
            obtain ⟨a, e1, e2, e3⟩ := q
            rw [hv] at e1; cases e1
            have ow1 : OwI σ' ρ' i a := ⟨by rw [ei]; rfl, hv⟩
            have np := r'.np i d a ei hv
            refine hF S' H' _ (trP t' so) ro ⟨a, rfl, ⟨?_, np⟩, e2, fun z => ?_, e3⟩
            · rcases t'.o a ⟨i, ow1⟩ with z | z
              · exfalso
                obtain ⟨j, z1, z2⟩ := (ow a).mp z
                cases ej : bs[j]? with
                | none => rw [ej] at z1; cases z1
                | some bj =>
                  rw [ej] at z1
                  cases bj with
                  | un => cases z1
                  | exc _ => cases z1
                  | val _ => cases z1
                  | own d' => exact hbs j d' ej
                  | prm d' =>
                    obtain ⟨a', q1, q2, _⟩ := rp.bd j _ ej
                    rw [z2] at q1; cases q1
                    exact np j q2
              · exact z
            · obtain ⟨j, z1, z2⟩ := z
              have z1 : isOw ((List.map outB (List.take bs.length ρ'))[j]?) = true := z1
              have ro : Rp K (A0p Γ vs bs) S' H' (pst vs) (List.map outB (List.take bs.length ρ')) := ro
              cases ej : (List.map outB (List.take bs.length ρ'))[j]? with
              | none => rw [ej] at z1; cases z1
              | some bj =>
                rw [ej] at z1
                have q := ro.bd j bj ej
                cases bj with
                | un => cases z1
                | exc _ => cases z1
                | val _ => cases z1
                | own d' =>
                  rw [List.getElem?_map] at ej
                  cases ek : (List.take bs.length ρ')[j]? with
                  | none => rw [ek] at ej; cases ej
                  | some b0 => rw [ek] at ej; cases b0 <;> cases ej
                | prm d' =>
                  obtain ⟨a', q1, q2, _⟩ := q
                  rw [z2] at q1; cases q1
                  exact np j q2
/-- the code of the def at f -/
def CodeAt (K : PySem.W.Frag) (f : Addr) (cdv : Value) : Prop := ∃ (oc : Value) (od : Option Addr) (fd : FuncData) (osl : Array (Option Value)), K.lookup f = some ⟨oc, od, .func fd, osl⟩ ∧ fd.code = cdv
/-- a def as it stands in K, whatever its defaults -/
def FnEx (K : PySem.W.Frag) (dV : Value) (x qual : Str) (st : Stmt) (f : Addr) (fd : FuncData) : Prop :=
  ∃ (oc : Value) (od : Option Addr) (kV doc pm : Value) (an : Option Addr) (cdv ct : Value) (osl : Array (Option Value)),
    fd = PySem.W.fnOf x qual (defArgs st) (defBody st) (defScope st) dV kV doc pm an cdv ct ∧ K.lookup f = some ⟨oc, od, .func fd, osl⟩ ∧ PySem.W.codeIn K cdv qual = true
/-- THE RULE: a def by its body -/
theorem fnG_of {dV : Value} {x qual : Str} {st : Stmt} {f : Addr} {fd : FuncData} {N ps : List Str} {k : Nat} {body : SS} (F : FnEx K dV x qual st f fd) (S : FnScope N ps (defScope st)) (sys : SysOk base)
    (hbody : ∀ (cdv : Value), CodeAt K f cdv → ∀ (A : Around) (outer : List Env) (s : Shared) (H : Hp) (E : XK) (A0 : Nat → Option Addr), Room k (cxOf (CX P w) P w K mg base N qual (defScope st) f cdv A outer s H E).A → GX (cxOf (CX P w) P w K mg base N qual (defScope st) f cdv A outer s H E) →
      Takes (cxOf (CX P w) P w K mg base N qual (defScope st) f cdv A outer s H E) (WF E) →
      PSs (cxOf (CX P w) P w K mg base N qual (defScope st) f cdv A outer s H E) (defBody st) (tSt (gc (cxOf (CX P w) P w K mg base N qual (defScope st) f cdv A outer s H E) ⟨A0, Γ⟩ (WF E)) body)) :
    FnG P w K mg base Γ (k + 1) f fd ps (defF N.length body) := by
  obtain ⟨oc, od, kV, doc, pm, an, cdv, ct, osl, rfl, lk, hcd⟩ := F
  refine ⟨fun A outer s H args us vs Q E S0 bs hr hgd e0 hb r hl hbs rp hF => ?_⟩
  have KX : K.In s.heap := e0.mod.kin.keeps fun b o e => (e0.bs b o e).1
  have lim : s.heap.NoLimit := e0.mod.nolimit.keeps fun b o e => (e0.bs b o e).1
  have hpl : ps.length ≤ N.length := by have := congrArg List.length S.pre; rw [List.length_take] at this; omega
  have hbl : bs.length = vs.length := by rw [← rp.len]; simp [pst]
  have hkind : ∀ y ∈ ps.zip us, (defScope st).names.lookup y.1 = some .local ∨ ((defScope st).names.lookup y.1 = some .cell ∧ ((cellsFrom (s.heap.objs.size + 1) (defScope st).names []).lookup y.1).isSome = true) := fun ⟨n, v⟩ hy => by
    rcases S.par n (List.of_mem_zip hy).1 with q | q
    · exact .inl q
    · exact .inr ⟨q, PySem.W.cellsFrom_some _ _ _ (.inl q)⟩
  refine codeAny_call_function hr.depth (KX _ _ lk) rfl S.co S.gen rfl (PySem.W.codeRec_of KX hcd) (hb _ _ _ _ ?_)
  refine wpAny_newFunctionEnv_cells S.kind hkind fun env he s1 x => ?_
  subst he
  refine ⟨lim.keeps x.toInCall.keep, codeAny_func ?_⟩
  have hrd : Room k (A.deeper (envOfC qual (defScope st) s.heap.objs.size f cdv)) := hr.deeper _
  have ht := hbody cdv ⟨oc, od, _, osl, lk, rfl⟩ A outer s H E (A0f vs bs) hrd ⟨hgd, sys, by have := hrd.un; show (A.deeper (envOfC qual (defScope st) s.heap.objs.size f cdv)).units + 150 < _; omega⟩ (takes_of rfl rfl rfl rfl)
  have I : Inv (cxOf (CX P w) P w K mg base N qual (defScope st) f cdv A outer s H E) [] (L2.start N vs) H s1 := inv_start S hr.hd e0 hl r x
  obtain ⟨rp', ow⟩ := rp.begin_ (N := N) (by omega)
  have fin : ∀ {σ' : St} {H' : Hp} {v : V} {u : Value} {s' : Shared}, Inv (cxOf (CX P w) P w K mg base N qual (defScope st) f cdv A outer s H E) [] σ' H' s' → RelV v u → Q v H' → CE outer P w H s Q u s' :=
    fun {σ' H' v u s'} J rv q => ⟨v, H', J.os, J.bare, J.base, J.hok, rv, q⟩
  refine wpAny_mono (ht.run [] s1 (L2.start N vs) H { nx := fun _ H' => Q .non H', rt := Q } I ⟨S0, _, rp', ?_⟩) (fun fl s' hs => ?_) fun e s' hs => hs
  · exact body_reads (by omega) hbs rp hF
  · cases fl with
    | ret u =>
      obtain ⟨v, σ', H', J, rv, q⟩ := hs
      exact fin J rv q
    | next =>
      obtain ⟨σ', H', J, q⟩ := hs
      exact fin (v := V.non) (u := Value.none) J rfl q
    | brk =>
      obtain ⟨_, _, _, q⟩ := hs
      exact False.elim q
    | cont =>
      obtain ⟨_, _, _, q⟩ := hs
      exact False.elim q
end
end G
namespace G
open PySem PySem.Spec PyProof.Rows L2
/-! ### how arguments become parameters: a mode each, true: the slot's own list is handed over -/
def cv1 : List Bool → List Ev → List B → Option (List Ev × List B)
  | m :: ms, e :: es, ρ => if m = true then (cv1 ms es ρ).map fun q => (e :: q.1, q.2) else (shr ρ e).bind fun p => (cv1 ms es p.2).map fun q => (.val p.1 :: q.1, q.2)
  | [], [], ρ => some ([], ρ)
  | _, _, _ => none
def cvB (ρ : List B) : Ev → Option (B × Option Nat)
  | .val d => some (.val d, none)
  | .sl j => match ρ[j]? with
    | some (.own d) => some (.prm d, some j)
    | some (.prm d) => some (.prm d, some j)
    | some (.exc n) => some (.exc n, none)
    | _ => none
  | .fr _ => none
def cv2 (ρ : List B) : List Ev → Option (List B × List (Option Nat))
  | [] => some ([], [])
  | e :: es => (cvB ρ e).bind fun b => (cv2 ρ es).map fun q => (b.1 :: q.1, b.2 :: q.2)
def memL (j : Nat) : List (Option Nat) → Bool
  | [] => false
  | some i :: r => (i == j) || memL j r
  | none :: r => memL j r
def dstL : List (Option Nat) → Bool
  | [] => true
  | some i :: r => !memL i r && dstL r
  | none :: r => dstL r
def reB : B → B → B
  | .own _, .prm d => .own d
  | .prm _, .prm d => .prm d
  | _, _ => .un
def wb : List (Option Nat) → List B → List B → List B
  | some j :: ls, o :: os, ρ => wb ls os (ρ.set j (match ρ[j]? with
    | some b => reB b o
    | none => .un))
  | none :: ls, _ :: os, ρ => wb ls os ρ
  | _, _, ρ => ρ
def wbx : List (Option Nat) → List B → List B
  | some j :: ls, ρ => wbx ls (ρ.set j .un)
  | none :: ls, ρ => wbx ls ρ
  | [], ρ => ρ
def callR (F : SE) (bs : List B) (ls : List (Option Nat)) (ρ : List B) : Rs (Ev × List B) := if dstL ls = true then (match F bs with
  | .ok (.val d, outs) => .ok (.val d, wb ls outs ρ)
  | .ok (.fr d, outs) => .ok (.fr d, wb ls outs ρ)
  | .ok (.sl _, _) => .bad
  | .ex n _ => .ex n (wbx ls ρ)
  | .bad => .bad) else .bad
def callF (ms : List Bool) (F : SE) (dbs : List B) (fa : SA) : SE := fun ρ => (fa ρ).bind fun p => match cv1 ms p.1 p.2 with
  | some (es, ρ1) => (match cv2 ρ1 es with
    | some (bs, ls) => callR F (bs ++ dbs) (ls ++ dbs.map fun _ => none) ρ1
    | none => .bad)
  | none => .bad
section
variable {K : PySem.W.Frag} {A0 : Ax} {S S0 : Addr → Prop} {H H0 : Hp} {σ : St} {O0 : Addr → Prop}
theorem cv1_ok : ∀ {ms : List Bool} {es es' : List Ev} {vs : List V} {S : Addr → Prop} {ρ ρ' : List B}, Tr S0 H0 O0 S H (Ow σ ρ) → Rp K A0 S H σ ρ → Paired (RE1 K S H σ) vs es → cv1 ms es ρ = some (es', ρ') →
    ∃ S', Tr S0 H0 O0 S' H (Ow σ ρ') ∧ Rp K A0 S' H σ ρ' ∧ Paired (RE1 K S' H σ) vs es' ∧ Ex S H S' H
  | [], [], es', vs, S, ρ, ρ', t, r, h, q => by cases q; cases h; exact ⟨S, t, r, .nil, Ex.same fun _ _ e => e⟩
  | m :: ms, e :: es, es', _, S, ρ, ρ', t, r, .cons (a := v) (l₁ := vs) a h, q => by
    unfold cv1 at q
    cases m with
    | true =>
      simp only [if_true] at q
      cases q1 : cv1 ms es ρ with
      | none => rw [q1] at q; cases q
      | some p =>
        rw [q1] at q; cases q
        obtain ⟨S', t', r', h', x⟩ := cv1_ok t r h q1
        exact ⟨S', t', r', .cons (a.ex x) h', x⟩
    | false =>
      simp only [Bool.false_eq_true, if_false] at q
      cases q1 : shr ρ e with
      | none => rw [q1] at q; cases q
      | some p =>
        rw [q1, Option.bind_some] at q
        cases q2 : cv1 ms es p.2 with
        | none => rw [q2] at q; cases q
        | some p2 =>
          rw [q2] at q; cases q
          obtain ⟨S1, t1, r1, d1, x1⟩ := shr_ok t r a q1
          obtain ⟨S', t', r', h', x⟩ := cv1_ok t1 r1 (RE1s.ex x1 h) q2
          exact ⟨S', t', r', .cons (d1.ex x) h', x1.trans x⟩
  | [], _ :: _, _, _, _, _, _, _, _, _, q => by cases q
  | _ :: _, [], _, _, _, _, _, _, _, _, q => by cases q
/-- the parameters, one by one -/
def Par (Γ : Gx) (K : PySem.W.Frag) (S : Addr → Prop) (H : Hp) (σ : St) (ρ : List B) (v : V) (b : B) (l : Option Nat) : Prop :=
  (∃ d, b = .val d ∧ l = none ∧ Dr K S H v d) ∨ (∃ j d a, b = .prm d ∧ l = some j ∧ v = .ref a ∧ OwI σ ρ j a ∧ ¬ S a ∧ OwnAt K S H a d) ∨ ∃ n, b = .exc n ∧ l = none ∧ v = .ref Γ.pa ∧ (n, Γ.pc) ∈ Γ.es
theorem cv2_ok : ∀ {es : List Ev} {vs : List V} {ρ : List B} {bs : List B} {ls : List (Option Nat)}, Rp K A0 S H σ ρ → Paired (RE1 K S H σ) vs es → cv2 ρ es = some (bs, ls) →
    vs.length = bs.length ∧ bs.length = ls.length ∧ ∀ (i : Nat) (b : B), bs[i]? = some b → ∃ v l, vs[i]? = some v ∧ ls[i]? = some l ∧ Par A0.g K S H σ ρ v b l
  | [], _, ρ, bs, ls, r, .nil, q => by cases q; exact ⟨rfl, rfl, fun i b e => by simp at e⟩
  | e :: es, _, ρ, bs, ls, r, .cons (a := v) (l₁ := vs) a h, q => by
    unfold cv2 at q
    cases q1 : cvB ρ e with
    | none => rw [q1] at q; cases q
    | some p =>
      rw [q1, Option.bind_some] at q
      cases q2 : cv2 ρ es with
      | none => rw [q2] at q; cases q
      | some p2 =>
        rw [q2] at q; cases q
        obtain ⟨l1, l2, ih⟩ := cv2_ok r h q2
        refine ⟨by simp only [List.length_cons, l1], by simp only [List.length_cons, l2], fun i b hb => ?_⟩
        cases i with
        | succ i => exact ih i b (by simpa using hb)
        | zero =>
          have hb' : p.1 = b := Option.some.inj hb
          subst hb'
          refine ⟨v, p.2, rfl, rfl, ?_⟩
          cases e with
          | val d => cases q1; exact .inl ⟨d, rfl, rfl, a⟩
          | fr d => cases q1
          | sl j =>
            have hv : σ[j]? = some (some v) := a
            unfold cvB at q1
            cases ej : ρ[j]? with
            | none => simp only [ej, reduceCtorEq] at q1
            | some b0 =>
              simp only [ej] at q1
              have qb := r.bd j b0 ej
              cases b0 with
              | un => cases q1
              | exc n =>
                cases q1
                obtain ⟨e0, e1⟩ := qb
                rw [hv] at e1; cases e1
                exact .inr (.inr ⟨n, rfl, rfl, rfl, e0⟩)
              | val _ => cases q1
              | own d =>
                cases q1
                obtain ⟨a', e1, e2, e3⟩ := qb
                rw [hv] at e1; cases e1
                exact .inr (.inl ⟨j, d, a', rfl, rfl, rfl, ⟨by rw [ej]; rfl, hv⟩, e2, e3⟩)
              | prm d =>
                cases q1
                obtain ⟨a', e1, e0, e2, e3⟩ := qb
                rw [hv] at e1; cases e1
                exact .inr (.inl ⟨j, d, a', rfl, rfl, rfl, ⟨by rw [ej]; rfl, hv⟩, e2, e3⟩)
theorem memL_of {j : Nat} : ∀ {ls : List (Option Nat)} {i : Nat}, ls[i]? = some (some j) → memL j ls = true
  | [], i, h => by simp at h
  | some k :: r, 0, h => by
    have : k = j := by simpa using h
    simp [memL, this]
  | none :: r, 0, h => by simp at h
  | some k :: r, i + 1, h => by simp only [memL, memL_of (ls := r) (i := i) (by simpa using h), Bool.or_true]
  | none :: r, i + 1, h => by simp only [memL, memL_of (ls := r) (i := i) (by simpa using h)]
theorem dstL_ok : ∀ {ls : List (Option Nat)}, dstL ls = true → ∀ {i k j : Nat}, ls[i]? = some (some j) → ls[k]? = some (some j) → i = k
  | [], _, i, k, j, h, _ => by simp at h
  | none :: r, d, 0, k, j, h, _ => by simp at h
  | none :: r, d, i + 1, 0, j, _, h => by simp at h
  | none :: r, d, i + 1, k + 1, j, h1, h2 => by rw [dstL_ok (ls := r) d (i := i) (k := k) (by simpa using h1) (by simpa using h2)]
  | some x :: r, d, 0, 0, j, _, _ => rfl
  | some x :: r, d, 0, k + 1, j, h1, h2 => by
    have e : x = j := by simpa using h1
    have := memL_of (ls := r) (i := k) (j := j) (by simpa using h2)
    simp only [dstL, e, this, Bool.not_true, Bool.false_and, Bool.false_eq_true] at d
  | some x :: r, d, i + 1, 0, j, h1, h2 => by
    have e : x = j := by simpa using h2
    have := memL_of (ls := r) (i := i) (j := j) (by simpa using h1)
    simp only [dstL, e, this, Bool.not_true, Bool.false_and, Bool.false_eq_true] at d
  | some x :: r, d, i + 1, k + 1, j, h1, h2 => by
    simp only [dstL, Bool.and_eq_true] at d
    rw [dstL_ok (ls := r) d.2 (i := i) (k := k) (by simpa using h1) (by simpa using h2)]
/-- what stands behind the call in a slot -/
theorem wb_len : ∀ {ls : List (Option Nat)} {outs ρ : List B}, (wb ls outs ρ).length = ρ.length
  | [], outs, ρ => by cases outs <;> rfl
  | some j :: ls, o :: os, ρ => by unfold wb; rw [wb_len, List.length_set]
  | none :: ls, o :: os, ρ => by unfold wb; rw [wb_len]
  | some j :: ls, [], ρ => rfl
  | none :: ls, [], ρ => rfl
theorem wbx_len : ∀ {ls : List (Option Nat)} {ρ : List B}, (wbx ls ρ).length = ρ.length
  | [], ρ => rfl
  | some j :: ls, ρ => by unfold wbx; rw [wbx_len, List.length_set]
  | none :: ls, ρ => by unfold wbx; rw [wbx_len]
theorem wb_ne {j : Nat} : ∀ {ls : List (Option Nat)} {outs ρ : List B}, memL j ls = false → (wb ls outs ρ)[j]? = ρ[j]?
  | [], outs, ρ, _ => by cases outs <;> rfl
  | some k :: ls, o :: os, ρ, h => by
    simp only [memL, Bool.or_eq_false_iff, beq_eq_false_iff_ne] at h
    unfold wb
    rw [wb_ne h.2, List.getElem?_set_ne h.1]
  | none :: ls, o :: os, ρ, h => by unfold wb; exact wb_ne (by simpa only [memL] using h)
  | some k :: ls, [], ρ, _ => rfl
  | none :: ls, [], ρ, _ => rfl
theorem wbx_ne {j : Nat} : ∀ {ls : List (Option Nat)} {ρ : List B}, memL j ls = false → (wbx ls ρ)[j]? = ρ[j]?
  | [], ρ, _ => rfl
  | some k :: ls, ρ, h => by
    simp only [memL, Bool.or_eq_false_iff, beq_eq_false_iff_ne] at h
    unfold wbx
    rw [wbx_ne h.2, List.getElem?_set_ne h.1]
  | none :: ls, ρ, h => by unfold wbx; exact wbx_ne (by simpa only [memL] using h)
theorem memL_at {j : Nat} : ∀ {ls : List (Option Nat)}, memL j ls = true → ∃ i : Nat, ls[i]? = some (some j)
  | [], h => by cases h
  | some k :: r, h => by
    simp only [memL, Bool.or_eq_true, beq_iff_eq] at h
    rcases h with rfl | h
    · exact ⟨0, rfl⟩
    · obtain ⟨i, e⟩ := memL_at h; exact ⟨i + 1, by simpa using e⟩
  | none :: r, h => by
    obtain ⟨i, e⟩ := memL_at (ls := r) (by simpa only [memL] using h); exact ⟨i + 1, by simpa using e⟩
theorem wb_at {j : Nat} {b o : B} : ∀ {ls : List (Option Nat)} {outs ρ : List B} {i : Nat}, dstL ls = true → ls[i]? = some (some j) → outs[i]? = some o → ρ[j]? = some b → (wb ls outs ρ)[j]? = some (reB b o)
  | [], _, _, i, _, h, _, _ => by simp at h
  | _ :: _, [], _, i, _, _, h, _ => by simp at h
  | none :: ls, o' :: os, ρ, 0, d, h, _, _ => by simp at h
  | none :: ls, o' :: os, ρ, i + 1, d, h1, h2, h3 => by unfold wb; exact wb_at (i := i) d (by simpa using h1) (by simpa using h2) h3
  | some k :: ls, o' :: os, ρ, 0, d, h1, h2, h3 => by
    have e : k = j := by simpa using h1
    have e2 : o' = o := by simpa using h2
    subst e e2
    simp only [dstL, Bool.and_eq_true, Bool.not_eq_true'] at d
    unfold wb
    rw [wb_ne d.1, List.getElem?_set_self (List.getElem?_eq_some_iff.mp h3).1, h3]
  | some k :: ls, o' :: os, ρ, i + 1, d, h1, h2, h3 => by
    have hm : memL j ls = true := memL_of (i := i) (by simpa using h1)
    simp only [dstL, Bool.and_eq_true, Bool.not_eq_true'] at d
    have hk : k ≠ j := fun e => by rw [e, hm] at d; cases d.1
    unfold wb
    exact wb_at (i := i) d.2 (by simpa using h1) (by simpa using h2) (by rw [List.getElem?_set_ne hk]; exact h3)
theorem wbx_at {j : Nat} : ∀ {ls : List (Option Nat)} {ρ : List B} {b : B}, memL j ls = true → (wbx ls ρ)[j]? = some b → b = .un
  | [], ρ, b, h, _ => by cases h
  | none :: ls, ρ, b, h, e => wbx_at (ls := ls) (ρ := ρ) (by simpa only [memL] using h) (by unfold wbx at e; exact e)
  | some k :: ls, ρ, b, h, e => by
    unfold wbx at e
    cases hm : memL j ls with
    | true => exact wbx_at hm e
    | false =>
      rw [wbx_ne hm] at e
      simp only [memL, hm, Bool.or_false, beq_iff_eq] at h
      subst h
      by_cases hl : k < ρ.length
      · rw [List.getElem?_set_self hl] at e; cases e; rfl
      · rw [List.getElem?_eq_none (by rw [List.length_set]; omega)] at e; cases e
end
section
variable {K : PySem.W.Frag} {A0 : Ax} {S S2 : Addr → Prop} {H H2 : Hp} {σ : St} {ρ : List B} {vs : List V} {bs outs : List B} {ls : List (Option Nat)}
/-- the parameters' state -/
theorem par_rp (r : Rp K A0 S H σ ρ) (d : dstL ls = true) (hl : vs.length = bs.length) (hp : ∀ (i : Nat) (b : B), bs[i]? = some b → ∃ v l, vs[i]? = some v ∧ ls[i]? = some l ∧ Par A0.g K S H σ ρ v b l) :
    Rp K (A0p A0.g vs bs) S H (pst vs) bs ∧ (∀ (i : Nat) (d : PyData), bs[i]? ≠ some (B.own d)) ∧ ∀ i a, OwI (pst vs) bs i a → ∃ j, ls[i]? = some (some j) ∧ OwI σ ρ j a := by
  have own : ∀ i a, OwI (pst vs) bs i a → ∃ j, ls[i]? = some (some j) ∧ OwI σ ρ j a := fun i a ⟨h1, h2⟩ => by
    cases e : bs[i]? with
    | none => rw [e] at h1; cases h1
    | some b =>
      obtain ⟨v, l, e1, e2, p⟩ := hp i b e
      have hv : (pst vs)[i]? = some (some v) := by simp [pst, e1]
      rw [hv] at h2
      rcases p with ⟨d, rfl, _⟩ | ⟨j, d, a', rfl, rfl, rfl, q, _⟩ | ⟨n, rfl, _⟩
      · rw [e] at h1; cases h1
      · cases h2; exact ⟨j, e2, q⟩
      · rw [e] at h1; cases h1
  refine ⟨⟨by simp [pst, hl], fun i b e => ?_, fun i k a h1 h2 => ?_, r.al, fun i d' a e _ => ?_, fun i a h => ?_, r.tb⟩, fun i d' e => ?_, own⟩
  · obtain ⟨v, l, e1, e2, p⟩ := hp i b e
    have hv : (pst vs)[i]? = some (some v) := by simp [pst, e1]
    rcases p with ⟨d, rfl, _, q⟩ | ⟨j, d, a', rfl, rfl, rfl, q, q2, q3⟩ | ⟨n, rfl, _, rfl, q1⟩
    · exact ⟨v, hv, q⟩
    · exact ⟨a', hv, by show A0f vs bs i = some a'; unfold A0f; rw [e, e1], q2, q3⟩
    · exact ⟨q1, hv⟩
  · obtain ⟨j, p1, p2⟩ := own i a h1
    obtain ⟨j', q1, q2⟩ := own k a h2
    obtain rfl := r.dis j j' a p2 q2
    exact dstL_ok d p1 q1
  · obtain ⟨v, l, _, _, p⟩ := hp i _ e
    rcases p with ⟨_, h, _⟩ | ⟨_, _, _, h, _⟩ | ⟨_, h, _⟩ <;> cases h
  · obtain ⟨⟨d', e⟩, e1⟩ := A0p_ok h
    obtain ⟨v, l, e2, _, p⟩ := hp i _ e
    rw [e1] at e2; cases e2
    rcases p with ⟨_, h, _⟩ | ⟨j, d2, a', h, _, e3, q, _, q3⟩ | ⟨_, h, _⟩
    · cases h
    · cases e3
      obtain ⟨o, e4, _⟩ := q3
      exact ⟨o, e4⟩
    · cases h
  · obtain ⟨v, l, _, _, p⟩ := hp i _ e
    rcases p with ⟨_, h, _⟩ | ⟨_, _, _, h, _⟩ | ⟨_, h, _⟩ <;> cases h
/-- behind the call: the caller's state -/
theorem back_rp (r : Rp K A0 S H σ ρ) (d : dstL ls = true) (hl : vs.length = bs.length) (hlb : bs.length = ls.length) (hp : ∀ (i : Nat) (b : B), bs[i]? = some b → ∃ v l, vs[i]? = some v ∧ ls[i]? = some l ∧ Par A0.g K S H σ ρ v b l)
    (more : List V) (dbs : List B) (hmore : ∀ i a, OwI (pst (vs ++ more)) (bs ++ dbs) i a → i < bs.length)
    (t : Tr S H (Ow (pst (vs ++ more)) (bs ++ dbs)) S2 H2 (Ow (pst (vs ++ more)) outs)) (ro : Rp K (A0p A0.g (vs ++ more) (bs ++ dbs)) S2 H2 (pst (vs ++ more)) outs) :
    Tr S H (Ow σ ρ) S2 H2 (Ow σ (wb ls outs ρ)) ∧ Rp K A0 S2 H2 σ (wb ls outs ρ) ∧ ∀ a, Ow σ (wb ls outs ρ) a → Ow σ ρ a := by
  have inn : ∀ a, Ow (pst (vs ++ more)) (bs ++ dbs) a → Ow σ ρ a := fun a ⟨i, h⟩ => by
    have hi := hmore i a h
    obtain ⟨h1, h2⟩ := h
    rw [List.getElem?_append_left hi] at h1
    have h2' : (pst vs)[i]? = some (some (.ref a)) := by
      simp only [pst, List.map_append] at h2 ⊢
      rw [List.getElem?_append_left (by simp; omega)] at h2
      exact h2
    obtain ⟨_, _, own⟩ := par_rp r d hl hp
    obtain ⟨j, _, q⟩ := own i a ⟨h1, h2'⟩
    exact ⟨j, q⟩
  have x : Ex S H S2 H2 := Ex.of_tr (K := K) t (fun a hs z => r.sep hs (inn a z)) fun a z => by
    obtain ⟨i, q⟩ := inn a z
    exact (r.own q).2
  -- what a handed slot holds
  have handed : ∀ j, memL j ls = true → ∃ i : Nat, ls[i]? = some (some j) ∧ i < bs.length := fun j h => by
    obtain ⟨i, e⟩ := memL_at h
    exact ⟨i, e, by rw [hlb]; exact (List.getElem?_eq_some_iff.mp e).1⟩
  have at_ : ∀ (i j : Nat), ls[i]? = some (some j) → i < bs.length → ∃ (d0 : PyData) (a : Addr) (b : B), bs[i]? = some (B.prm d0) ∧ vs[i]? = some (V.ref a) ∧ ρ[j]? = some b ∧ σ[j]? = some (some (V.ref a)) ∧ isOw (some b) = true ∧ OwI σ ρ j a := fun i j e hi => by
    obtain ⟨v, l, e1, e2, p⟩ := hp i _ (List.getElem?_eq_getElem hi)
    rw [e] at e2; cases e2
    rcases p with ⟨_, _, h, _⟩ | ⟨j', d0, a, h, h2, h3, q, _⟩ | ⟨_, _, h, _⟩
    · cases h
    rotate_left
    · cases h
    · cases h2
      obtain ⟨q1, q2⟩ := q
      cases ej : ρ[j]? with
      | none => rw [ej] at q1; cases q1
      | some b => exact ⟨d0, a, b, by rw [List.getElem?_eq_getElem hi, h], by rw [e1, h3], rfl, q2, by rw [ej] at q1; exact q1, ⟨q1, q2⟩⟩
  have out_prm : ∀ (i : Nat) (dd : PyData), outs[i]? = some (B.prm dd) → ∃ a : Addr, (pst (vs ++ more))[i]? = some (some (V.ref a)) ∧ ¬ S2 a ∧ OwnAt K S2 H2 a dd := fun i dd e => by
    obtain ⟨a, e1, _, e2, e3⟩ := ro.bd i _ e
    exact ⟨a, e1, e2, e3⟩
  -- slot by slot
  have slot : ∀ (j : Nat) (b' : B), (wb ls outs ρ)[j]? = some b' → (memL j ls = false ∧ ρ[j]? = some b') ∨ b' = .un ∨ ∃ (i : Nat) (b : B) (dd : PyData) (a : Addr), ls[i]? = some (some j) ∧ ρ[j]? = some b ∧ b' = reB b (B.prm dd) ∧ outs[i]? = some (B.prm dd) ∧ OwI σ ρ j a ∧ vs[i]? = some (V.ref a) := fun j b' e => by
    cases hm : memL j ls with
    | false => rw [wb_ne hm] at e; exact .inl ⟨rfl, e⟩
    | true =>
      obtain ⟨i, ei, hi⟩ := handed j hm
      obtain ⟨d0, a, b, _, q2, q3, q4, q5, q6⟩ := at_ i j ei hi
      cases eo : outs[i]? with
      | none =>
        -- outs is as long as the parameters
        exfalso
        have := ro.len
        have h1 : i < (pst (vs ++ more)).length := by simp [pst]; omega
        rw [this] at h1
        rw [List.getElem?_eq_getElem h1] at eo; cases eo
      | some o =>
        rw [wb_at d ei eo q3] at e
        cases e
        cases o with
        | prm dd => exact .inr (.inr ⟨i, b, dd, a, ei, q3, rfl, eo, q6, q2⟩)
        | un => cases b <;> exact .inr (.inl rfl)
        | exc _ => cases b <;> exact .inr (.inl rfl)
        | val _ => cases b <;> exact .inr (.inl rfl)
        | own _ => cases b <;> exact .inr (.inl rfl)
  have own : ∀ j a, OwI σ (wb ls outs ρ) j a → OwI σ ρ j a := fun j a ⟨h1, h2⟩ => by
    cases e : (wb ls outs ρ)[j]? with
    | none => rw [e] at h1; cases h1
    | some b' =>
      rcases slot j b' e with ⟨_, q⟩ | rfl | ⟨i, b, dd, a', q1, q2, q3, q4, q5, _⟩
      · exact ⟨by rw [q]; rw [e] at h1; exact h1, h2⟩
      · rw [e] at h1; cases h1
      · exact ⟨q5.1, h2⟩
  have noS : ∀ j a, OwI σ ρ j a → memL j ls = false → ¬ S2 a := fun j a q hm z => by
    obtain ⟨hs, _, o, e, _⟩ := r.own q
    rcases t.g a z with y | ⟨i, y⟩ | y
    · exact hs y
    · have hi := hmore i a y
      obtain ⟨h1, h2⟩ := y
      rw [List.getElem?_append_left hi] at h1
      have h2' : (pst vs)[i]? = some (some (.ref a)) := by
        simp only [pst, List.map_append] at h2 ⊢
        rw [List.getElem?_append_left (by simp; omega)] at h2
        exact h2
      obtain ⟨_, _, own2⟩ := par_rp r d hl hp
      obtain ⟨j', p1, p2⟩ := own2 i a ⟨h1, h2'⟩
      obtain rfl := r.dis j j' a q p2
      rw [memL_of p1] at hm; cases hm
    · rw [e] at y; cases y
  have keepO : ∀ j a, OwI σ ρ j a → memL j ls = false → ∀ o, H a = some o → H2 a = some o := fun j a q hm o e => t.keepS e (fun ⟨i, z⟩ => by
    have hi := hmore i a z
    obtain ⟨h1, h2⟩ := z
    rw [List.getElem?_append_left hi] at h1
    have h2' : (pst vs)[i]? = some (some (.ref a)) := by
      simp only [pst, List.map_append] at h2 ⊢
      rw [List.getElem?_append_left (by simp; omega)] at h2
      exact h2
    obtain ⟨_, _, own2⟩ := par_rp r d hl hp
    obtain ⟨j', p1, p2⟩ := own2 i a ⟨h1, h2'⟩
    obtain rfl := r.dis j j' a q p2
    rw [memL_of p1] at hm; cases hm) (noS j a q hm) (by obtain ⟨_, _, o', e', c⟩ := r.own q; rw [e] at e'; cases e'; exact c.notTb)
  refine ⟨⟨t.s, fun a o e n => t.keep a o e fun z => n (inn a z), t.dom, fun a ⟨j, h⟩ => .inl ⟨j, own j a h⟩, fun a z => (t.g a z).imp id (Or.imp (inn a) id)⟩,
    ⟨by rw [wb_len]; exact r.len, fun j b' e => ?_, fun j k a h1 h2 => r.dis j k a (own j a h1) (own k a h2), ro.al, fun j dd a e h2 => ?_, fun j a h => let ⟨o, e⟩ := r.aa j a h; t.dom a o e, ro.tb⟩, fun a ⟨j, h⟩ => ⟨j, own j a h⟩⟩
  · rcases slot j b' e with ⟨hm, q⟩ | rfl | ⟨i, b, dd, a, q1, q2, q3, q4, q5, q6⟩
    · have qb := r.bd j b' q
      cases b' with
      | un => trivial
      | exc _ => exact bd_exc x qb
      | val d' => obtain ⟨v, e1, e2⟩ := qb; exact ⟨v, e1, e2.ex x⟩
      | own d' =>
        obtain ⟨a, e1, e2, e3⟩ := qb
        have ow : OwI σ ρ j a := ⟨by rw [q]; rfl, e1⟩
        exact ⟨a, e1, noS j a ow hm, e3.ex x (keepO j a ow hm)⟩
      | prm d' =>
        obtain ⟨a, e1, e0, e2, e3⟩ := qb
        have ow : OwI σ ρ j a := ⟨by rw [q]; rfl, e1⟩
        exact ⟨a, e1, e0, noS j a ow hm, e3.ex x (keepO j a ow hm)⟩
    · trivial
    · obtain ⟨a', p1, p2, p3⟩ := out_prm i dd q4
      have ea : a' = a := by
        have hi : i < vs.length := (List.getElem?_eq_some_iff.mp q6).1
        simp only [pst, List.map_append] at p1
        rw [List.getElem?_append_left (by simp; omega), List.getElem?_map, q6] at p1
        cases p1; rfl
      subst ea
      have qb := r.bd j b q2
      cases b with
      | un => subst q3; trivial
      | exc _ => subst q3; trivial
      | val _ => subst q3; trivial
      | own d' => subst q3; exact ⟨a', q5.2, p2, p3⟩
      | prm d' =>
        subst q3
        obtain ⟨a2, e1, e0, _⟩ := qb
        rw [q5.2] at e1; cases e1
        exact ⟨a', q5.2, e0, p2, p3⟩
  · rcases slot j _ e with ⟨hm, q⟩ | h | ⟨i, b, d2, a', q1, q2, q3, q4, q5, q6⟩
    · exact r.np j dd a q h2
    · cases h
    · cases b with
      | own d' => exact r.np j d' a q2 h2
      | _ => cases q3
/-- an exception came: the handed slots are told no more -/
theorem backx_rp (r : Rp K A0 S H σ ρ) (d : dstL ls = true) (hl : vs.length = bs.length) (hlb : bs.length = ls.length) (hp : ∀ (i : Nat) (b : B), bs[i]? = some b → ∃ v l, vs[i]? = some v ∧ ls[i]? = some l ∧ Par A0.g K S H σ ρ v b l)
    (more : List V) (dbs : List B) (hmore : ∀ i a, OwI (pst (vs ++ more)) (bs ++ dbs) i a → i < bs.length) (al2 : ∀ a, S2 a → ∃ o, H2 a = some o) (tb2 : LamX.Tabs A0.g.T H2)
    (t : Tr S H (Ow (pst (vs ++ more)) (bs ++ dbs)) S2 H2 (fun _ => False)) : Tr S H (Ow σ ρ) S2 H2 (Ow σ (wbx ls ρ)) ∧ Rp K A0 S2 H2 σ (wbx ls ρ) := by
  have inn : ∀ a, Ow (pst (vs ++ more)) (bs ++ dbs) a → ∃ j, OwI σ ρ j a ∧ memL j ls = true := fun a ⟨i, h⟩ => by
    have hi := hmore i a h
    obtain ⟨h1, h2⟩ := h
    rw [List.getElem?_append_left hi] at h1
    have h2' : (pst vs)[i]? = some (some (.ref a)) := by
      simp only [pst, List.map_append] at h2 ⊢
      rw [List.getElem?_append_left (by simp; omega)] at h2
      exact h2
    obtain ⟨_, _, own⟩ := par_rp r d hl hp
    obtain ⟨j, p, q⟩ := own i a ⟨h1, h2'⟩
    exact ⟨j, q, memL_of p⟩
  have x : Ex S H S2 H2 := Ex.of_tr (K := K) t (fun a hs z => by
      obtain ⟨j, q, _⟩ := inn a z
      exact (r.own q).1 hs) fun a z => by
    obtain ⟨i, q, _⟩ := inn a z
    exact (r.own q).2
  have slot : ∀ (j : Nat) (b' : B), (wbx ls ρ)[j]? = some b' → (memL j ls = false ∧ ρ[j]? = some b') ∨ b' = .un := fun j b' e => by
    cases hm : memL j ls with
    | false => rw [wbx_ne hm] at e; exact .inl ⟨rfl, e⟩
    | true => exact .inr (wbx_at hm e)
  have own : ∀ j a, OwI σ (wbx ls ρ) j a → OwI σ ρ j a ∧ memL j ls = false := fun j a ⟨h1, h2⟩ => by
    cases e : (wbx ls ρ)[j]? with
    | none => rw [e] at h1; cases h1
    | some b' =>
      rcases slot j b' e with ⟨hm, q⟩ | rfl
      · exact ⟨⟨by rw [q]; rw [e] at h1; exact h1, h2⟩, hm⟩
      · rw [e] at h1; cases h1
  have noS : ∀ j a, OwI σ ρ j a → memL j ls = false → ¬ S2 a := fun j a q hm z => by
    obtain ⟨hs, _, o, e, _⟩ := r.own q
    rcases t.g a z with y | y | y
    · exact hs y
    · obtain ⟨j', q', hm'⟩ := inn a y
      obtain rfl := r.dis j j' a q q'
      rw [hm'] at hm; cases hm
    · rw [e] at y; cases y
  have keepO : ∀ j a, OwI σ ρ j a → memL j ls = false → ∀ o, H a = some o → H2 a = some o := fun j a q hm o e => t.keepS e (fun z => by
    obtain ⟨j', q', hm'⟩ := inn a z
    obtain rfl := r.dis j j' a q q'
    rw [hm'] at hm; cases hm) (noS j a q hm) (by obtain ⟨_, _, o', e', c⟩ := r.own q; rw [e] at e'; cases e'; exact c.notTb)
  refine ⟨⟨t.s, fun a o e n => t.keep a o e fun z => let ⟨j, q, _⟩ := inn a z; n ⟨j, q⟩, t.dom, fun a ⟨j, h⟩ => .inl ⟨j, (own j a h).1⟩, fun a z => (t.g a z).imp id (Or.imp (fun z => let ⟨j, q, _⟩ := inn a z; ⟨j, q⟩) id)⟩,
    ⟨by rw [wbx_len]; exact r.len, fun j b' e => ?_, fun j k a h1 h2 => r.dis j k a (own j a h1).1 (own k a h2).1, al2, fun j dd a e h2 => ?_, fun j a h => let ⟨o, e⟩ := r.aa j a h; t.dom a o e, tb2⟩⟩
  · rcases slot j b' e with ⟨hm, q⟩ | rfl
    · have qb := r.bd j b' q
      cases b' with
      | un => trivial
      | exc _ => exact bd_exc x qb
      | val d' => obtain ⟨v, e1, e2⟩ := qb; exact ⟨v, e1, e2.ex x⟩
      | own d' =>
        obtain ⟨a, e1, e2, e3⟩ := qb
        have ow : OwI σ ρ j a := ⟨by rw [q]; rfl, e1⟩
        exact ⟨a, e1, noS j a ow hm, e3.ex x (keepO j a ow hm)⟩
      | prm d' =>
        obtain ⟨a, e1, e0, e2, e3⟩ := qb
        have ow : OwI σ ρ j a := ⟨by rw [q]; rfl, e1⟩
        exact ⟨a, e1, e0, noS j a ow hm, e3.ex x (keepO j a ow hm)⟩
    · trivial
  · rcases slot j _ e with ⟨hm, q⟩ | h
    · exact r.np j dd a q h2
    · cases h
end
section
variable {X : Cx} {A0 : Ax} {W : WX} {k : Nat} {f : Addr} {fd : FuncData} {ps : List Str} {F : SE} {dvs : List V} {ds : List Value} {dbs : List B} {x : Str} {p pos : Pos} {e : Expr} {es : List Expr} {fa : SA}
abbrev Dfl (K : PySem.W.Frag) (dvs : List V) (dbs : List B) : Prop := Paired (fun v b => ∃ d, b = B.val d ∧ ∀ S H, Dr K S H v d) dvs dbs
theorem Dfl.nil {K : PySem.W.Frag} : Dfl K [] [] := Paired.nil
theorem Dfl.get {K : PySem.W.Frag} : ∀ {dvs : List V} {dbs : List B} {i : Nat} {b : B}, Dfl K dvs dbs → dbs[i]? = some b → ∃ v d, dvs[i]? = some v ∧ b = .val d ∧ ∀ S H, Dr K S H v d
  | [], dbs, i, b, h, e => by cases h; simp at e
  | v :: dvs, dbs, i, b, h, e => by
    cases h with
    | cons a t =>
      cases i with
      | zero =>
        obtain ⟨d, e1, q⟩ := a
        have e2 : _ = b := Option.some.inj e
        exact ⟨v, d, rfl, by rw [← e2, e1], q⟩
      | succ i =>
        obtain ⟨v', d, e1, q⟩ := Dfl.get (i := i) t (by simpa using e)
        exact ⟨v', d, by simpa using e1, q⟩
theorem Dfl.len {K : PySem.W.Frag} {dvs : List V} {dbs : List B} (h : Dfl K dvs dbs) : dvs.length = dbs.length := Paired.length h
/-- the callee runs -/
theorem run_fnG {pins : List (Addr × Obj)} {σ : St} {H : Hp} {s : Shared} {Q : VK} {E : XK} {us : List Value} {vs : List V} {S : Addr → Prop} {bs : List B} (G : FnG X.prog X.w X.K X.mg X.base A0.g k f fd ps F) (hr : Room k X.A) (gx : GX X) (hb : Binds X.K fd ps ds) (hd : Vals dvs ds)
    (hx : ∀ (e : Value) (s' : Shared), CX X.prog X.w X.stack H s E e s' → X.xe e s')
    (I : Inv X pins σ H s) (r : Vals vs us) (hl : (vs ++ dvs).length = ps.length) (hbs : ∀ (i : Nat) (d : PyData), bs[i]? ≠ some (B.own d)) (rp : Rp X.K (A0p A0.g (vs ++ dvs) bs) S H (pst (vs ++ dvs)) bs)
    (h : PostF A0.g X.K X.mg S H (vs ++ dvs) bs (F bs) Q E) : wpAny (model X.prog X.w) X.A (call (.ref f) us) (EP X pins σ Q) X.xe s := by
  have r2 : Vals (vs ++ dvs) (us ++ ds) := r.append hd
  have hl2 : (us ++ ds).length = ps.length := by rw [← r2.length]; exact hl
  refine wpAny_call (codeAny_mono (G.run X.A X.stack s H ⟨us, []⟩ (us ++ ds) (vs ++ dvs) Q E S bs hr gx.gd I.env0 (hb s us I.kIn hl2) r2 hl hbs rp h) fun r s' hq => ?_)
  cases r with
  | error e => exact hx e s' hq
  | ok fl =>
    cases fl with
    | ret u => exact I.after hq
    | next => exact False.elim hq
    | brk => exact False.elim hq
    | cont => exact False.elim hq
def tCallG (G : Sp) (E : St → XK) (t : TA) : TE := fun σ H Q => t σ H fun vs H1 => G vs H1 Q (E σ)
def spG (Γ : Gx) (K : PySem.W.Frag) (mg : Str → Option Value) (n : Nat) (dvs : List V) (F : SE) : Sp := fun vs H Q E => (vs ++ dvs).length = n ∧ ∃ S bs, (∀ (i : Nat) (d : PyData), bs[i]? ≠ some (B.own d)) ∧ Rp K (A0p Γ (vs ++ dvs) bs) S H (pst (vs ++ dvs)) bs ∧ PostF Γ K mg S H (vs ++ dvs) bs (F bs) Q E
theorem pe_callG (gg : FnG X.prog X.w X.K X.mg X.base A0.g k f fd ps F) (hr : Room k X.A) (gx : GX X) (tk : Takes X W) (hg : Gl X x) (hm : X.mg x = some (.ref f)) (hk : PySem.W.keepIn X.K (.ref f) = true) (hb : Binds X.K fd ps ds) (hd : Vals dvs ds)
    {t : TA} (ha : PA X (e :: es) t) (hdb : (x == ("__debug__" : Str)) = false := by decide) (he : starEach (e :: es) X.env = (false, eval e X.env) :: starEach es X.env := by rfl) (hpl : (backTo pos (starEach es X.env)).any (·.1) = false := by rfl) :
    PE X (.Call (.Name x p) (e :: es) [] pos) (tCallG (spG A0.g X.K X.mg ps.length dvs F) (WE W) t) := by
  refine ⟨fun pins s σ H Q I h => ?_⟩
  refine wpAny_Call_Name_kw (ld_glob I hg hm ?_ hdb)
  refine PySem.W.callWith_K (h₀ := X.base) I.ok.mod.kin hk (thn (ha.run pos pins s σ H _ I h) fun us s1 ⟨vs, H1, I1, r, hl, S, bs, hbs, rp, q⟩ => ⟨I1.kIn, ?_⟩) he hpl
  exact run_fnG gg hr gx hb hd (fun e s' c => passAt tk σ pins H1 s1 e s' I1 c) I1 r hl hbs rp q
theorem callG_ok {ms : List Bool} {n : Nat} (hdf : Dfl X.K dvs dbs) (hlen : ∀ vs : List V, ∀ es : List Ev, Paired (fun _ _ => True) vs es → ∀ ρ es' ρ', cv1 ms es ρ = some (es', ρ') → (vs ++ dvs).length = n) :
    ∀ σ H Q, tE (gc X A0 W) (callF ms F dbs fa) σ H Q → tCallG (spG A0.g X.K X.mg n dvs F) (WE W) (tA (gc X A0 W) fa) σ H Q := by
  rintro σ H Q ⟨S, ρ, rp, h⟩
  refine tA_bind (P := fun z => PostE (gc X A0 W) S H σ ρ z Q) exE PostE.bad rp h fun p S1 H1 vs t1 r1 e1 h => ?_
  cases q1 : cv1 ms p.1 p.2 with
  | none => rw [q1] at h; exact h.elim
  | some pr =>
    obtain ⟨es', ρ1⟩ := pr
    rw [q1] at h
    simp only at h
    obtain ⟨S2, t2, r2, e2, _⟩ := cv1_ok t1 r1 e1 q1
    cases q2 : cv2 ρ1 es' with
    | none => rw [q2] at h; exact h.elim
    | some pr2 =>
      obtain ⟨bs, ls⟩ := pr2
      rw [q2] at h
      simp only at h
      obtain ⟨l1, l2, hp⟩ := cv2_ok r2 e2 q2
      have ld := hdf.len
      have hp' : ∀ (i : Nat) (b : B), (bs ++ dbs)[i]? = some b → ∃ v l, (vs ++ dvs)[i]? = some v ∧ (ls ++ dbs.map fun _ => (none : Option Nat))[i]? = some l ∧ Par A0.g X.K S2 H1 σ ρ1 v b l := fun i b hb => by
        by_cases hi : i < bs.length
        · rw [List.getElem?_append_left hi] at hb
          obtain ⟨v, l, e1, e2, q⟩ := hp i b hb
          exact ⟨v, l, by rw [List.getElem?_append_left (by omega)]; exact e1, by rw [List.getElem?_append_left (by omega)]; exact e2, q⟩
        · rw [List.getElem?_append_right (by omega)] at hb
          obtain ⟨v, d, e1, e2, q⟩ := hdf.get hb
          refine ⟨v, none, by rw [List.getElem?_append_right (by omega), l1]; exact e1, ?_, .inl ⟨d, e2, rfl, q _ _⟩⟩
          rw [List.getElem?_append_right (by omega), ← l2, List.getElem?_map, hb]
          rfl
      have hl' : (vs ++ dvs).length = (bs ++ dbs).length := by rw [List.length_append, List.length_append]; omega
      have hlb' : (bs ++ dbs).length = (ls ++ dbs.map fun _ => (none : Option Nat)).length := by rw [List.length_append, List.length_append, List.length_map]; omega
      show spG A0.g X.K X.mg n dvs F vs H1 Q (WE W σ)
      unfold spG
      generalize bs ++ dbs = bs' at h hp' hl' hlb'
      generalize (ls ++ dbs.map fun _ => (none : Option Nat)) = ls' at h hp' hlb'
      have hn := hlen vs p.1 (Paired.mapP e1 fun _ _ _ => trivial) _ _ _ q1
      generalize vs ++ dvs = vs' at hp' hl' hn ⊢
      unfold callR at h
      split at h
      rotate_left
      · exact h.elim
      rename_i dst
      obtain ⟨pr, pb, pown⟩ := par_rp r2 dst hl' hp'
      have hmore : ∀ i a, OwI (pst (vs' ++ [])) (bs' ++ []) i a → i < bs'.length := fun i a ⟨q, _⟩ => by
        by_cases hi : i < bs'.length
        · exact hi
        · rw [List.append_nil, List.getElem?_eq_none (by omega)] at q; cases q
      refine ⟨hn, S2, bs', pb, pr, ?_⟩
      cases ef : F bs' with
      | bad => rw [ef] at h; exact h.elim
      | ex nm ρx =>
        rw [ef] at h
        intro S3 H3 t3 al3 tb3 C hC
        obtain ⟨t4, r4⟩ := backx_rp r2 dst hl' hlb' hp' [] [] hmore al3 tb3 (by rw [List.append_nil, List.append_nil]; exact t3)
        exact h S3 H3 (t2.trans t4) r4 C hC
      | ok pf =>
        obtain ⟨ev, outs⟩ := pf
        rw [ef] at h
        intro S3 H3 v t3 r3 re
        have bk := back_rp r2 dst hl' hlb' hp' [] [] hmore (by rw [List.append_nil, List.append_nil]; exact t3) (by rw [List.append_nil, List.append_nil]; exact r3)
        obtain ⟨t4, r4, sub⟩ := bk
        cases ev with
        | sl i => exact h.elim
        | val d => exact h S3 H3 v (t2.trans t4) r4 re
        | fr d =>
          obtain ⟨a, e1, ⟨h0, h0'⟩, hs, ho, hc⟩ := re
          refine h S3 H3 v (t2.trans t4) r4 ⟨a, e1, ⟨t2.fresh h0, fun j hj => ?_⟩, hs, fun z => ?_, hc⟩
          · obtain ⟨o, eo⟩ := r2.aa j a hj
            rw [h0] at eo; cases eo
          · obtain ⟨i, q⟩ := sub a z
            obtain ⟨_, _, o, eo, _⟩ := r2.own q
            rw [h0] at eo; cases eo
theorem cv1_len : ∀ {ms : List Bool} {vs : List V} {es es' : List Ev} {ρ ρ' : List B}, Paired (fun _ _ => True) vs es → cv1 ms es ρ = some (es', ρ') → vs.length = ms.length
  | [], vs, [], _, _, _, h, _ => by cases h; rfl
  | m :: ms, vs, e :: es, es', ρ, ρ', h, q => by
    cases h with
    | cons _ t =>
      unfold cv1 at q
      cases m with
      | true =>
        simp only [if_true] at q
        cases q1 : cv1 ms es ρ with
        | none => rw [q1] at q; cases q
        | some p => obtain ⟨a, b⟩ := p; simp only [List.length_cons]; rw [cv1_len t q1]
      | false =>
        simp only [Bool.false_eq_true, if_false] at q
        cases q1 : shr ρ e with
        | none => rw [q1] at q; cases q
        | some p =>
          rw [q1, Option.bind_some] at q
          cases q2 : cv1 ms es p.2 with
          | none => rw [q2] at q; cases q
          | some p2 => obtain ⟨a, b⟩ := p2; simp only [List.length_cons]; rw [cv1_len t q2]
  | [], _, _ :: _, _, _, _, _, q => by cases q
  | _ :: _, _, [], _, _, _, _, q => by cases q
/-- f(..), f a def of the text; ms: the arguments' modes; the further parameters by their defaults -/
theorem gcallf (ms : List Bool) {dvs : List V} {ds : List Value} {dbs : List B} (gg : FnG X.prog X.w X.K X.mg X.base A0.g k f fd ps F) (hr : Room k X.A) (gx : GX X) (tk : Takes X W) (hm : X.mg x = some (.ref f)) (hk : PySem.W.keepIn X.K (.ref f) = true) (hb : Binds X.K fd ps ds) (hd : Vals dvs ds) (hdf : Dfl X.K dvs dbs)
    (ha : PA X (e :: es) (tA (gc X A0 W) fa)) (hn : (ms.length + dvs.length == ps.length) = true := by rfl) (hg : Gl X x := by rfl) (hdb : (x == ("__debug__" : Str)) = false := by decide) (he : starEach (e :: es) X.env = (false, eval e X.env) :: starEach es X.env := by rfl) (hpl : (backTo pos (starEach es X.env)).any (·.1) = false := by rfl) :
    PE X (.Call (.Name x p) (e :: es) [] pos) (tE (gc X A0 W) (callF ms F dbs fa)) :=
  PE_imp (pe_callG gg hr gx tk hg hm hk hb hd ha hdb he hpl) (callG_ok hdf fun vs es h ρ es' ρ' q => by rw [List.length_append, cv1_len h q]; exact eq_of_beq hn)
end
end G
namespace G
open PySem PySem.Spec PyProof.Rows L2
/-! ### a list that a slot alone holds is changed -/
def ownD : B → Option PyData
  | .own d => some d
  | .prm d => some d
  | _ => none
def reD : B → PyData → B
  | .own _, d => .own d
  | .prm _, d => .prm d
  | b, _ => b
section
variable {K : PySem.W.Frag} {A0 : Ax} {S S0 : Addr → Prop} {H H0 : Hp} {σ : St} {ρ : List B} {O0 : Addr → Prop} {i : Nat}
theorem own_slot (r : Rp K A0 S H σ ρ) {b : B} {d : PyData} (e : ρ[i]? = some b) (hd : ownD b = some d) : ∃ a o, σ[i]? = some (some (.ref a)) ∧ OwI σ ρ i a ∧ ¬ S a ∧ H a = some o ∧ Ct K S H o d := by
  have q := r.bd i b e
  cases b with
  | un => cases hd
  | exc _ => cases hd
  | val _ => cases hd
  | own d' => cases hd; obtain ⟨a, e1, e2, o, e3, e4⟩ := q; exact ⟨a, o, e1, ⟨by rw [e]; rfl, e1⟩, e2, e3, e4⟩
  | prm d' => cases hd; obtain ⟨a, e1, e0, e2, o, e3, e4⟩ := q; exact ⟨a, o, e1, ⟨by rw [e]; rfl, e1⟩, e2, e3, e4⟩
theorem Ex.upd {a : Addr} {o o' : HO} {d : PyData} (hs : ¬ S a) (e : H a = some o) (c : Ct K S H o d) : Ex S H S (upd H a o') := by
  have ne : ∀ b u, H b = some u → (∀ xs, u ≠ .lst xs) → (∀ xs, u ≠ .dK xs) → (∀ xs, u ≠ .dT xs) → b ≠ a := fun b u hb n1 n2 n3 z => by
    subst z; rw [e] at hb; cases hb
    cases c with
    | lst _ => exact n1 _ rfl
    | dK _ => exact n2 _ rfl
    | dT _ => exact n3 _ rfl
  exact ⟨fun _ h => h, fun b u hb _ h => by
    have hne : b ≠ a := fun z => hs (by rw [← z]; exact hb)
    exact h.imp (fun q => by rw [upd_ne hne]; exact q) (fun ⟨q, od, z⟩ => ⟨q, od, by rw [upd_ne hne]; exact z⟩), fun b xs h => by rw [upd_ne (ne b _ h nofun nofun nofun)]; exact h, fun b ob u h => by rw [upd_ne (ne b _ h nofun nofun nofun)]; exact h⟩
theorem Rp.updOwn (r : Rp K A0 S H σ ρ) {b : B} {d d' : PyData} {a : Addr} {o o' : HO} (e : ρ[i]? = some b) (hd : ownD b = some d) (ea : σ[i]? = some (some (.ref a))) (hs : ¬ S a) (ho : H a = some o) (c : Ct K S H o d) (c' : Ct K S (upd H a o') o' d') :
    Rp K A0 S (upd H a o') σ (ρ.set i (reD b d')) ∧ Tr S H (Ow σ ρ) S (upd H a o') (Ow σ (ρ.set i (reD b d'))) := by
  have x : Ex S H S (upd H a o') := Ex.upd hs ho c
  have hl : i < ρ.length := (List.getElem?_eq_some_iff.mp e).1
  have hi : OwI σ ρ i a := ⟨(by rw [e]; cases b with
    | un => cases hd
    | exc _ => cases hd
    | val _ => cases hd
    | own _ => rfl
    | prm _ => rfl), ea⟩
  have own : ∀ j c, OwI σ (ρ.set i (reD b d')) j c → OwI σ ρ j c := fun j c ⟨h1, h2⟩ => by
    by_cases hj : i = j
    · subst hj; rw [ea] at h2; cases h2; exact hi
    · rw [List.getElem?_set_ne hj] at h1; exact ⟨h1, h2⟩
  have keep : ∀ j c, OwI σ ρ j c → i ≠ j → ∀ u, H c = some u → (upd H a o') c = some u := fun j c h hj u hc => by
    have hne : c ≠ a := fun z => hj (r.dis i j c (by rw [z]; exact hi) h)
    rw [upd_ne hne]; exact hc
  refine ⟨⟨by rw [List.length_set]; exact r.len, fun j bj hb => ?_, fun j k c h1 h2 => r.dis j k c (own j c h1) (own k c h2), fun c h => ?_, fun j dj c h1 h2 => ?_, fun j c h => ?_, tabs_upd r.tb ho c.notTb c.notExt⟩, ⟨fun _ h => h, fun c u hc n => ?_, fun c u hc => ?_, fun c ⟨j, h⟩ => .inl ⟨j, own j c h⟩, fun _ h => .inl h⟩⟩
  · by_cases hj : i = j
    · subst hj
      rw [List.getElem?_set_self hl] at hb; cases hb
      have q := r.bd i b e
      cases b with
      | un => cases hd
      | exc _ => cases hd
      | val _ => cases hd
      | own d0 => exact ⟨a, ea, hs, o', upd_same, c'⟩
      | prm d0 =>
        obtain ⟨a2, e1, e0, _⟩ := q
        rw [ea] at e1; cases e1
        exact ⟨a, ea, e0, hs, o', upd_same, c'⟩
    · rw [List.getElem?_set_ne hj] at hb
      have q := r.bd j bj hb
      cases bj with
      | un => trivial
      | exc _ => exact bd_exc x q
      | val d0 => obtain ⟨v, e1, e2⟩ := q; exact ⟨v, e1, e2.ex x⟩
      | own d0 =>
        obtain ⟨c1, e1, e2, e3⟩ := q
        exact ⟨c1, e1, e2, e3.ex x (keep j c1 ⟨by rw [hb]; rfl, e1⟩ hj)⟩
      | prm d0 =>
        obtain ⟨c1, e1, e0, e2, e3⟩ := q
        exact ⟨c1, e1, e0, e2, e3.ex x (keep j c1 ⟨by rw [hb]; rfl, e1⟩ hj)⟩
  · obtain ⟨u, hu⟩ := r.al c h
    by_cases hc : c = a
    · exact ⟨o', by rw [hc]; exact upd_same⟩
    · exact ⟨u, by rw [upd_ne hc]; exact hu⟩
  · by_cases hj : i = j
    · subst hj
      rw [List.getElem?_set_self hl] at h1
      cases b with
      | own d0 => exact r.np i d0 c e h2
      | un => cases hd
      | exc _ => cases hd
      | val _ => cases hd
      | prm _ => cases h1
    · rw [List.getElem?_set_ne hj] at h1; exact r.np j dj c h1 h2
  · obtain ⟨u, hu⟩ := r.aa j c h
    by_cases hc : c = a
    · subst hc; exact ⟨o', upd_same⟩
    · exact ⟨u, by rw [upd_ne hc]; exact hu⟩
  · have hne : c ≠ a := fun z => n ⟨i, by rw [z]; exact hi⟩
    exact .inl (by rw [upd_ne hne]; exact hc)
  · by_cases hc' : c = a
    · subst hc'; exact ⟨o', upd_same⟩
    · exact ⟨u, by rw [upd_ne hc']; exact hc⟩
end
/-! ### xs.append(e) -/
def appD (d y : PyData) : Option PyData := match d with
  | .list ds => if ds.length < sizeLine then some (.list (ds ++ [y])) else none
  | _ => none
/-- the slot's list after a method with the given data -/
def mutE1 (i : Nat) (mt : PyData → List PyData → Option (PyData × PyData)) (fa : SA) : SE := fun ρ => (fa ρ).bind fun p => match shrs p.2 p.1 with
  | some (ys, ρ1) => (match ρ1[i]? with
    | some b => (match ownD b with
      | some d => (match mt d ys with
        | some (d', v) => .ok (.val v, ρ1.set i (reD b d'))
        | none => .bad)
      | none => .bad)
    | none => .bad)
  | none => .bad
def isLst : PyData → Bool
  | .list _ => true
  | _ => false
def mutE (i : Nat) (mt : PyData → List PyData → Option (PyData × PyData)) (fa : SA) : SE := fun ρ => match (ρ[i]?).bind ownD with
  | some d => if isLst d = true then mutE1 i mt fa ρ else .bad
  | none => .bad
section
variable {X : Cx} {A0 : Ax} {W : WX} {e : Expr} {es : List Expr} {fa : SA} {apos cpos pos : Pos}
theorem mut_bind {g : Gc} {i : Nat} {mt : PyData → List PyData → Option (PyData × PyData)} {σ : St} {H : Hp} {Q : VK} {S : Addr → Prop} {ρ : List B} (r : Rp g.K g.A0 S H σ ρ) (h : PostE g S H σ ρ (mutE1 i mt fa ρ) Q) {R : List V → Hp → Prop}
    (hR : ∀ S1 H1 vs ys d d' v (a : Addr) o, Ex S H S1 H1 → DrAll g.K S1 H1 vs ys → mt d ys = some (d', v) → σ[i]? = some (some (.ref a)) → H1 a = some o → Ct g.K S1 H1 o d → ¬ S1 a →
      (∀ o' u, Ct g.K S1 (upd H1 a o') o' d' → Dr g.K S1 (upd H1 a o') u v → Q u (upd H1 a o')) → R vs H1) : tA g fa σ H R := by
  refine tA_bind (P := fun z => PostE g S H σ ρ z Q) exE PostE.bad r h fun p S1 H1 vs t1 r1 e1 h => ?_
  cases q : shrs p.2 p.1 with
  | none => rw [q] at h; exact h.elim
  | some pr =>
    obtain ⟨ys, ρ1⟩ := pr
    rw [q] at h
    simp only at h
    obtain ⟨S2, t2, r2, d2, _⟩ := shrs_ok t1 r1 e1 q
    cases eb : ρ1[i]? with
    | none => rw [eb] at h; exact h.elim
    | some b =>
      rw [eb] at h
      simp only at h
      cases eo : ownD b with
      | none => rw [eo] at h; exact h.elim
      | some d =>
        rw [eo] at h
        simp only at h
        cases em : mt d ys with
        | none => rw [em] at h; exact h.elim
        | some dv =>
          obtain ⟨d', v⟩ := dv
          rw [em] at h
          simp only at h
          obtain ⟨a, o, ea, _, hs, ho, c⟩ := own_slot r2 eb eo
          refine hR S2 H1 vs ys d d' v a o (r.ex t2) d2 em ea ho c hs fun o' u c' dv => ?_
          obtain ⟨r3, t3⟩ := r2.updOwn (o' := o') (d' := d') eb eo ea hs ho c c'
          exact h S2 _ u (t2.trans t3) r3 dv
theorem mut_slot {g : Gc} {i : Nat} {mt : PyData → List PyData → Option (PyData × PyData)} {σ : St} {H : Hp} {Q : VK} (h : tE g (mutE i mt fa) σ H Q) :
    ∃ S ρ a xs, Rp g.K g.A0 S H σ ρ ∧ PostE g S H σ ρ (mutE1 i mt fa ρ) Q ∧ σ[i]? = some (some (.ref a)) ∧ H a = some (.lst xs) := by
  obtain ⟨S, ρ, r, h⟩ := h
  unfold mutE at h
  cases e : ρ[i]? with
  | none => rw [e] at h; exact h.elim
  | some b =>
    rw [e, Option.bind_some] at h
    cases eo : ownD b with
    | none => rw [eo] at h; exact h.elim
    | some d =>
      rw [eo] at h
      simp only at h
      split at h
      · rename_i hl
        obtain ⟨a, o, ea, _, hs, ho, c⟩ := own_slot r e eo
        cases d with
        | list ds =>
          cases c with
          | lst _ => exact ⟨S, ρ, a, _, r, h, ea, ho⟩
        | _ => cases hl
      · exact h.elim
def mtApp (d : PyData) (ys : List PyData) : Option (PyData × PyData) := match ys with
  | [y] => (appD d y).map fun d' => (d', PyData.none)
  | _ => none
theorem DrAll.one {K : PySem.W.Frag} {S : Addr → Prop} {H : Hp} {vs : List V} {y : PyData} (h : DrAll K S H vs [y]) : ∃ v, vs = [v] ∧ Dr K S H v y := by
  cases h with
  | cons a b => cases b; exact ⟨_, rfl, a⟩
theorem gappend (i : Nat) {x : Str} {p : Pos} (ha : PA X (e :: es) (tA (gc X A0 W) fa)) (hN : X.N[i]? = some x := by rfl) (hv : Vis X.env.scope x := by first | exact Or.inl rfl | exact Or.inr (Or.inl rfl) | exact Or.inr (Or.inr rfl))
    (hd : (x == ("__debug__" : Str)) = false := by decide) (hcd : (x == ("__classdict__" : Str)) = false := by decide) (hbase : attributeBase (.Name x p) "append" X.env (eval (.Name x p) X.env) = eval (.Name x p) X.env := by rfl)
    (hfew : ((backTo cpos (starEach (e :: es) X.env)).all (fun x => !x.1) && (backToKw cpos (keywordEach [] X.env)).all (fun x => x.1.isSome)
      && decide ((e :: es).length + ([] : List Keyword).length + (if ([] : List Keyword).isEmpty then 0 else 1) < 30)) = true := by rfl)
    (hline : (apos.endLine == cpos.line) = true := by rfl) (hs : starEach (e :: es) X.env = (false, eval e X.env) :: starEach es X.env := by rfl) (hplain : (backTo cpos (starEach es X.env)).any (·.1) = false := by rfl) :
    PE X (.Call (.Attribute (.Name x p) "append" apos) (e :: es) [] cpos) (tE (gc X A0 W) (mutE i mtApp fa)) := by
  refine PE_imp (pe_bm PySem.F.plainAttrs_list PySem.F.slot_list_append PySem.F.type_list_append mt_append (pe_var hN hv hd hcd) ha hbase hfew hline hs hplain) ?_
  intro σ H Q h
  obtain ⟨S, ρ, a, xs, r, h, ea, hx⟩ := mut_slot h
  refine ⟨.ref a, ea, .inl ⟨rfl, xs, .inl (.inl hx)⟩, mut_bind r h fun S1 H1 vs ys d d' v a2 o x dy hm ea2 ho c hs q => ?_⟩
  rw [ea] at ea2; cases ea2
  match ys, hm with
  | [y], hm =>
    obtain ⟨u, rfl, du⟩ := dy.one
    simp only [mtApp, appD] at hm
    cases d with
    | list ds =>
      simp only at hm
      split at hm
      · rename_i hz
        cases hm
        cases c with
        | lst cc =>
          rename_i zs
          refine ⟨a, zs, u, rfl, rfl, ho, by rw [cc.length]; exact hz, q _ .non ?_ .non⟩
          have x2 : Ex S1 H1 S1 (upd H1 a (.lst (zs ++ [u]))) := Ex.upd hs ho (.lst cc)
          exact .lst ((cc.ex x2).append (.cons (du.ex x2) .nil))
      · cases hm
    | _ => cases hm
end
/-! ### xs[k] = e -/
def setD (d k y : PyData) : Option PyData := match d, k with
  | .list ds, .int i => (ixN ds.length i).map fun j => .list (ds.set j y)
  | .dict kvs, k => (keyOf k).bind fun q => if keyed kvs = true ∧ kvs.length < 1000000 then some (.dict (dput kvs q y)) else none
  | _, _ => none
theorem pset_or {X : Cx} {r r' : TSet} (h : PSet X r) (h' : PSet X r') : PSet X (fun o i v H Q => r o i v H Q ∨ r' o i v H Q) := by
  intro pins s σ H o i v ov iv u Q I ro ri rv q
  rcases q with q | q
  · exact h pins s σ H o i v ov iv u Q I ro ri rv q
  · exact h' pins s σ H o i v ov iv u Q I ro ri rv q
def setS (i : Nat) (fk fe : SE) : SS := fun ρ => (fe ρ).bind fun p => match shr p.2 (settle p.1) with
  | some (y, ρ1) => (match (ρ1[i]?).bind ownD with
    | some _ => (fk ρ1).bind fun q => (match peek q.2 q.1 with
      | some k => (match q.2[i]? with
        | some b => (match ownD b with
          | some d => (match setD d k y with
            | some d' => .ok (.nx (q.2.set i (reD b d')))
            | none => .bad)
          | none => .bad)
        | none => .bad)
      | none => .bad)
    | none => .bad)
  | none => .bad
section
variable {X : Cx} {A0 : Ax} {W : WX} {ek e : Expr} {fk fe : SE} {pos tpos : Pos}
theorem gsetitem (hu : X.A.units + 1 < cLine) (i : Nat) {x : Str} {p : Pos} (hk : PE X ek (tE (gc X A0 W) fk)) (he : PE X e (tE (gc X A0 W) fe)) (hN : X.N[i]? = some x := by rfl) (hv : Vis X.env.scope x := by first | exact Or.inl rfl | exact Or.inr (Or.inl rfl) | exact Or.inr (Or.inr rfl))
    (hd : (x == ("__debug__" : Str)) = false := by decide) (hcd : (x == ("__classdict__" : Str)) = false := by decide)
    (ha : ∀ v, assign (.Subscript (.Name x p) ek tpos) X.env v = (do
      let ov ← holding [v] (eval (.Name x p) X.env)
      let iv ← holding [v, ov] (eval ek X.env)
      standAt tpos
      holding [v, ov, iv] (setItem ov iv v)
      release [v, ov, iv] []) := by intro _; rfl)
    (hs : swapsWithSole [.Subscript (.Name x p) ek tpos] e pos.line X.env = pure false := by rfl) (hw : swappedStores [.Subscript (.Name x p) ek tpos] e X.env = pure none := by rfl)
    (h1 : (assignEach [.Subscript (.Name x p) ek tpos] X.env).map (·.2) = [assign (.Subscript (.Name x p) ek tpos) X.env] := by rfl) :
    PS X (.Assign [.Subscript (.Name x p) ek tpos] e pos) (tSt (gc X A0 W) (setS i fk fe)) := by
  refine PS_imp (ps_asg he (pg_sub (pe_var hN hv hd hcd) hk (G.pset_or set_list (set_dict hu)) ha) hs hw h1) ?_
  rintro D σ H ⟨S, ρ, r, h⟩
  refine tE_bind (P := fun z => PostS (gc X A0 W) S H σ ρ z D) exS PostS.bad r h fun p S1 H1 v1 t1 r1 e1 h => ?_
  obtain ⟨S1', t1', r1', e1', _⟩ := settle_ok t1 r1 e1
  cases q : shr p.2 (settle p.1) with
  | none => rw [q] at h; exact h.elim
  | some pr =>
    obtain ⟨y, ρ1⟩ := pr
    rw [q] at h
    obtain ⟨S2, t2, r2, dy, _⟩ := shr_ok t1' r1' e1' q
    simp only at h
    cases e0 : ρ1[i]? with
    | none => rw [e0] at h; exact h.elim
    | some b0 =>
      rw [e0, Option.bind_some] at h
      cases eo0 : ownD b0 with
      | none => rw [eo0] at h; exact h.elim
      | some d0 =>
        rw [eo0] at h
        simp only at h
        obtain ⟨a, _, ea, _⟩ := own_slot r2 e0 eo0
        refine ⟨.ref a, ea, ?_⟩
        refine tE_bind (P := fun z => PostS (gc X A0 W) S2 H1 σ ρ1 z D) exS PostS.bad r2 (PostS.from t2 h) fun q S3 H3 v3 t3 r3 e3 h => ?_
        cases ep : peek q.2 q.1 with
        | none => rw [ep] at h; exact h.elim
        | some k =>
          rw [ep] at h
          simp only at h
          cases eb : q.2[i]? with
          | none => rw [eb] at h; exact h.elim
          | some b =>
            rw [eb] at h
            simp only at h
            cases eo : ownD b with
            | none => rw [eo] at h; exact h.elim
            | some d =>
              rw [eo] at h
              simp only at h
              cases em : setD d k y with
              | none => rw [em] at h; exact h.elim
              | some d' =>
                rw [em] at h
                simp only at h
                obtain ⟨a2, o, ea2, _, hs2, ho, c⟩ := own_slot r3 eb eo
                rw [ea] at ea2; cases ea2
                have dk := peek_ok r3 e3 ep
                have dy3 := dy.ex (r2.ex t3)
                cases d with
                | dict kvs =>
                  have em' : ((keyOf k).bind fun q => if keyed kvs = true ∧ kvs.length < 1000000 then some (PyData.dict (dput kvs q y)) else none) = some d' := by cases k <;> exact em
                  cases hq : keyOf k with
                  | none => rw [hq] at em'; cases em'
                  | some qk =>
                    rw [hq] at em'
                    simp only [Option.bind] at em'
                    split at em'
                    · rename_i hkk
                      cases em'
                      obtain ⟨ks, dd, rfl, cc, rfl⟩ := c.key hkk.1
                      have x2 : Ex S3 H3 S3 (upd H3 a (.dK (putK ks qk v1))) := Ex.upd hs2 ho (.dK cc)
                      obtain ⟨ds', p1, p2⟩ := putK_ok (q := qk) (cc.ex x2) (dy3.ex x2)
                      obtain ⟨r4, t4⟩ := r3.updOwn (o' := .dK (putK ks qk v1)) (d' := .dict (dput ((ks.map fun p => kD p.1).zip dd) qk y)) eb eo ea hs2 ho (.dK cc) (by rw [← p2]; exact .dK p1)
                      have hlen : ks.length < sizeLine := by
                        have h1 := cc.length
                        have h2 := hkk.2
                        simp only [List.length_map, List.length_zip] at h1 h2
                        exact Nat.lt_of_lt_of_le (show ks.length < 1000000 by omega) (by decide)
                      exact .inr ⟨a, _, rfl, by rw [dk.key hq]; exact DPut.k ho hlen, h S3 _ σ (t3.trans t4) r4⟩
                    · cases em'
                | list ds =>
                  cases k with
                  | int j =>
                    simp only [setD] at em
                    cases ej : ixN ds.length j with
                    | none => rw [ej] at em; cases em
                    | some n =>
                      rw [ej] at em; cases em
                      cases c with
                      | lst cc =>
                        rename_i zs
                        have x2 : Ex S3 H3 S3 (upd H3 a (.lst (zs.set n v1))) := Ex.upd hs2 ho (.lst cc)
                        obtain ⟨r4, t4⟩ := r3.updOwn (o' := .lst (zs.set n v1)) (d' := .list (ds.set n y)) eb eo ea hs2 ho (.lst cc) (.lst (DrAll.set (dy3.ex x2) n (cc.ex x2)))
                        exact .inl ⟨a, zs, j, n, rfl, dk.int, ho, by rw [cc.length]; exact ej, h S3 _ σ (t3.trans t4) r4⟩
                  | _ => cases em
                | _ => cases em
end
/-! ### a, b = e1, e2 -/
def resv (ρ : List B) : Ev → Option (Ev × List B)
  | .sl j => (shr ρ (.sl j)).map fun p => (.val p.1, p.2)
  | e => some (e, ρ)
def parS (i j : Nat) (fa fb : SE) : SS := fun ρ => (fa ρ).bind fun p => (fb p.2).bind fun q => match resv q.2 p.1 with
  | some (e1, ρ1) => (match resv ρ1 q.1 with
    | some (e2, ρ2) => (match bindV i e1 ρ2 with
      | .ok ρ3 => (match bindV j e2 ρ3 with
        | .ok ρ4 => .ok (.nx ρ4)
        | _ => .bad)
      | _ => .bad)
    | none => .bad)
  | none => .bad
theorem resv_ok {K : PySem.W.Frag} {A0 : Ax} {S S0 : Addr → Prop} {H H0 HR : Hp} {σ : St} {ρ ρ' : List B} {O0 : Addr → Prop} {v : V} {e e' : Ev}
    (t : Tr S0 H0 O0 S H (Ow σ ρ)) (r : Rp K A0 S H σ ρ) (h : RE K A0 HR S H σ ρ v e) (q : resv ρ e = some (e', ρ')) :
    ∃ S', Tr S0 H0 O0 S' H (Ow σ ρ') ∧ Rp K A0 S' H σ ρ' ∧ RE K A0 HR S' H σ ρ' v e' ∧ (∀ i, e' ≠ .sl i) ∧ Tr S H (Ow σ ρ) S' H (Ow σ ρ') := by
  cases e with
  | val d => cases q; exact ⟨S, t, r, h, nofun, Tr.refl⟩
  | fr d => cases q; exact ⟨S, t, r, h, nofun, Tr.refl⟩
  | sl j =>
    unfold resv at q
    cases e1 : shr ρ (.sl j) with
    | none => simp only [e1, Option.map_none, reduceCtorEq] at q
    | some p =>
      simp only [e1, Option.map_some, Option.some.injEq, Prod.mk.injEq] at q
      obtain ⟨rfl, rfl⟩ := q
      obtain ⟨S', t', r', d', _⟩ := shr_ok t r (show RE1 K S H σ v (.sl j) from h) e1
      obtain ⟨S2, t2, r2, d2, _⟩ := shr_ok (Tr.refl (S := S) (H := H) (O := Ow σ ρ)) r (show RE1 K S H σ v (.sl j) from h) e1
      have tt := t.trans t2
      exact ⟨S2, tt, r2, d2, nofun, t2⟩
theorem RE.setOther {K : PySem.W.Frag} {A0 : Ax} {S : Addr → Prop} {H HR : Hp} {σ σ' : St} {ρ ρ' : List B} {v : V} {e : Ev} (h : RE K A0 HR S H σ ρ v e) (hn : ∀ i, e ≠ .sl i) (ho : ∀ a, v = .ref a → (∃ d, e = .fr d) → ¬ Ow σ' ρ' a) : RE K A0 HR S H σ' ρ' v e := by
  cases e with
  | val d => exact h
  | sl i => exact (hn i rfl).elim
  | fr d => obtain ⟨a, e1, h0, hs, _, hc⟩ := h; exact ⟨a, e1, h0, hs, ho a e1 ⟨d, rfl⟩, hc⟩
section
variable {X : Cx} {A0 : Ax} {W : WX} {a b : Expr} {fa fb : SE} {pos : Pos} {px py pt : Pos} {kt k2 : Nat} {pt2 : Pos}
theorem gs_par (i j : Nat) {x y : Str} (hc : X.calm = true) (hN : X.N.Nodup) (ha : PE X a (tE (gc X A0 W) fa)) (hb : PE X b (tE (gc X A0 W) fb)) (hi : X.N[i]? = some x := by rfl) (hj : X.N[j]? = some y := by rfl) (hij : i ≠ j := by decide)
    (hx : X.env.scope.names.lookup x = some .local := by rfl) (hy : X.env.scope.names.lookup y = some .local := by rfl)
    (hw : swappedStores [.Tuple [.Name x px, .Name y py] kt pt] (.Tuple [a, b] k2 pt2) X.env = pure (some [x, y]) := by rfl)
    (hs : swapsWithSole [.Tuple [.Name x px, .Name y py] kt pt] (.Tuple [a, b] k2 pt2) pos.line X.env = pure false := by rfl)
    (h1 : starEach [a, b] X.env = (false, eval a X.env) :: starEach [b] X.env := by rfl) (h2 : starEach [b] X.env = (false, eval b X.env) :: starEach [] X.env := by rfl) :
    PS X (.Assign [.Tuple [.Name x px, .Name y py] kt pt] (.Tuple [a, b] k2 pt2) pos) (tSt (gc X A0 W) (parS i j fa fb)) := by
  refine PS_imp (ps_par hc hN hi hj hij hx hy (pa_cons ha (pa_cons hb pa_nil h2) h1) hw hs) ?_
  rintro D σ H ⟨S, ρ, r, h⟩
  refine tE_bind (P := fun z => PostS (gc X A0 W) S H σ ρ z D) exS PostS.bad r h fun p S1 H1 v1 t1 r1 e1 h => ?_
  refine tE_bind (P := fun z => PostS (gc X A0 W) S H σ ρ z D) (fun n ρ' h S' H' t r => h S' H' σ (t1.trans t) r) PostS.bad r1 h fun q S2 H2 v2 t2 r2 e2 h => ?_
  show ∃ v w, [v1, v2] = [v, w] ∧ D.nx ((σ.set i (some v)).set j (some w)) H2
  refine ⟨v1, v2, rfl, ?_⟩
  have e1' := e1.mono r1 t2
  cases q1 : resv q.2 p.1 with
  | none => rw [q1] at h; exact h.elim
  | some pr =>
    obtain ⟨f1, ρ1⟩ := pr
    rw [q1] at h
    simp only at h
    obtain ⟨S3, t3, r3, g1, n1, u3⟩ := resv_ok t2 r2 e1' q1
    have e2' := e2.mono r2 u3
    cases q2 : resv ρ1 q.1 with
    | none => rw [q2] at h; exact h.elim
    | some pr =>
      obtain ⟨f2, ρ2⟩ := pr
      rw [q2] at h
      simp only at h
      obtain ⟨S4, t4, r4, g2, n2, u4⟩ := resv_ok t3 r3 e2' q2
      have g1' := g1.mono r3 u4
      cases b1 : bindV i f1 ρ2 with
      | bad => rw [b1] at h; exact h.elim
      | ex n ρ' => rw [b1] at h; exact h.elim
      | ok ρ3 =>
        rw [b1] at h
        simp only at h
        cases b2 : bindV j f2 ρ3 with
        | bad => rw [b2] at h; exact h.elim
        | ex n ρ' => rw [b2] at h; exact h.elim
        | ok ρ4 =>
          rw [b2] at h
          -- the first store
          have st1 : ∃ r5 : Rp X.K A0 S4 H2 (σ.set i (some v1)) ρ3, ∀ c, Ow (σ.set i (some v1)) ρ3 c → Ow σ ρ2 c ∨ (v1 = .ref c ∧ ∃ d, f1 = .fr d) := by
            cases f1 with
            | sl k => exact (n1 k rfl).elim
            | val d => cases b1; obtain ⟨r5, s⟩ := r4.setVal (i := i) g1'; exact ⟨r5, fun c z => .inl (s c z)⟩
            | fr d =>
              cases b1
              obtain ⟨c, rfl, h0, hs, ho, hc⟩ := g1'
              obtain ⟨r5, s⟩ := r4.setOwn (i := i) hs ho h0.2 hc
              exact ⟨r5, fun b z => (s b z).imp id fun z => ⟨by rw [z], d, rfl⟩⟩
          obtain ⟨r5, s5⟩ := st1
          have g2' : RE X.K A0 H1 S4 H2 (σ.set i (some v1)) ρ3 v2 f2 := g2.setOther n2 fun c ec ⟨d, ed⟩ z => by
            subst ed
            obtain ⟨c', e3, h0, _, ho, _⟩ := g2
            rw [ec] at e3; cases e3
            rcases s5 c z with z | ⟨z, d1, z1⟩
            · exact ho z
            · -- the first new object stood when the second was made
              subst z1
              have : ∃ o, H1 c = some o := by
                cases p1 : p.1 with
                | fr dd =>
                  rw [p1] at e1
                  obtain ⟨c2, e5, _, _, _, o, e6, _⟩ := e1
                  rw [z] at e5; cases e5
                  exact ⟨o, e6⟩
                | val dd => rw [p1] at q1; cases q1
                | sl k =>
                  rw [p1] at q1
                  unfold resv at q1
                  cases e7 : shr q.2 (.sl k) with
                  | none => simp only [e7, Option.map_none, reduceCtorEq] at q1
                  | some pp => simp only [e7, Option.map_some, Option.some.injEq, Prod.mk.injEq, reduceCtorEq, false_and] at q1
              obtain ⟨o, e6⟩ := this
              rw [h0.1] at e6; cases e6
          have st2 : ∃ r6 : Rp X.K A0 S4 H2 ((σ.set i (some v1)).set j (some v2)) ρ4, ∀ c, Ow ((σ.set i (some v1)).set j (some v2)) ρ4 c → Ow (σ.set i (some v1)) ρ3 c ∨ (v2 = .ref c ∧ H1 c = none) := by
            cases f2 with
            | sl k => exact (n2 k rfl).elim
            | val d => cases b2; obtain ⟨r6, s⟩ := r5.setVal (i := j) g2'; exact ⟨r6, fun c z => .inl (s c z)⟩
            | fr d =>
              cases b2
              obtain ⟨c, rfl, h0, hs, ho, hc⟩ := g2'
              obtain ⟨r6, s⟩ := r5.setOwn (i := j) hs ho h0.2 hc
              exact ⟨r6, fun b z => (s b z).imp id fun z => ⟨by rw [z], by rw [z]; exact h0.1⟩⟩
          obtain ⟨r6, s6⟩ := st2
          have tt := t1.trans t4
          refine h S4 H2 _ ⟨tt.s, tt.keep, tt.dom, fun c z => ?_, tt.g⟩ r6
          rcases s6 c z with z | ⟨_, z⟩
          · rcases s5 c z with z | ⟨z, d1, z1⟩
            · exact tt.o c z
            · subst z1
              obtain ⟨c2, e5, h0, _⟩ := g1'
              rw [z] at e5; cases e5
              exact .inr h0.1
          · exact .inr (t1.fresh z)
end
end G
namespace G
open PySem PySem.Spec PyProof.Rows L2
def wipeB (ρ : List B) : List Nat → List B
  | [] => ρ
  | v :: vs => (wipeB ρ vs).set v .un
def lcL (t : SG) (c : SB) (fe : SE) (vs : List Nat) : Nat → List PyData → List B → Option (List PyData × List B)
  | _, [], ρ => some ([], ρ)
  | n, d :: ds, ρ => match t d ρ with
    | .ok ρ1 => (match c ρ1 with
      | .ok (true, ρ2) => (match fe ρ2 with
        | .ok (e, ρ3) => (match shr ρ3 (settle e) with
          | some (y, ρ4) => if n < sizeLine then (lcL t c fe vs (n + 1) ds (wipeB ρ4 vs)).map fun p => (y :: p.1, p.2) else none
          | none => none)
        | _ => none)
      | .ok (false, ρ2) => lcL t c fe vs n ds (wipeB ρ2 vs)
      | _ => none)
    | _ => none
def lcE (it : SI) (t : SG) (c : SB) (fe : SE) (vs : List Nat) : SE := fun ρ => (it ρ).bind fun p => match lcL t c fe vs 0 p.1 (wipeB p.2 vs) with
  | some (all, ρe) => .ok (.fr (.list all), wipeB ρe vs)
  | none => .bad
def yesB : SB := fun ρ => .ok (true, ρ)
section
variable {K : PySem.W.Frag} {A0 : Ax} {S S0 : Addr → Prop} {H H0 : Hp} {σ σ' : St} {ρ : List B} {O0 O' : Addr → Prop} {vs : List Nat}
theorem wipeB_len : ∀ {vs : List Nat}, (wipeB ρ vs).length = ρ.length
  | [] => rfl
  | v :: vs => by unfold wipeB; rw [List.length_set, wipeB_len]
theorem wipeB_get {k : Nat} : ∀ {vs : List Nat}, (wipeB ρ vs)[k]? = if k ∈ vs then (ρ[k]?).map fun _ => B.un else ρ[k]?
  | [] => by simp [wipeB]
  | v :: vs => by
    unfold wipeB
    by_cases hk : v = k
    · subst hk
      rw [if_pos (List.mem_cons_self ..)]
      by_cases hl : v < ρ.length
      · rw [List.getElem?_set_self (by rw [wipeB_len]; exact hl), List.getElem?_eq_getElem hl]; rfl
      · rw [List.getElem?_eq_none (by rw [List.length_set, wipeB_len]; omega), List.getElem?_eq_none (by omega)]; rfl
    · rw [List.getElem?_set_ne hk, wipeB_get]
      by_cases hm : k ∈ vs
      · rw [if_pos hm, if_pos (List.mem_cons_of_mem _ hm)]
      · rw [if_neg hm, if_neg]
        intro z
        rcases List.mem_cons.mp z with z | z
        · exact hk z.symm
        · exact hm z
/-- slots forgotten; the frame may be another one that agrees on the rest -/
theorem Rp.wiped (r : Rp K A0 S H σ ρ) (hw : wipe σ' vs = wipe σ vs) : Rp K A0 S H σ' (wipeB ρ vs) ∧ ∀ a, Ow σ' (wipeB ρ vs) a → Ow σ ρ a := by
  have same : ∀ k, k ∉ vs → σ'[k]? = σ[k]? := fun k hk => by
    have := congrArg (fun l : St => l[k]?) hw
    simp only [wipe_get, if_neg hk] at this
    exact this
  have own : ∀ k a, OwI σ' (wipeB ρ vs) k a → OwI σ ρ k a := fun k a ⟨h1, h2⟩ => by
    rw [wipeB_get] at h1
    split at h1
    · cases e : ρ[k]? with
      | none => rw [e] at h1; cases h1
      | some b => rw [e] at h1; cases h1
    · rename_i hk
      exact ⟨h1, by rw [← same k hk]; exact h2⟩
  refine ⟨⟨?_, fun k b hb => ?_, fun i j a h1 h2 => r.dis i j a (own i a h1) (own j a h2), r.al, fun k d a h1 h2 => ?_, r.aa, r.tb⟩, fun a ⟨k, h⟩ => ⟨k, own k a h⟩⟩
  · have := congrArg List.length hw
    rw [wipe_length, wipe_length] at this
    rw [wipeB_len, this]; exact r.len
  · rw [wipeB_get] at hb
    split at hb
    · cases e : ρ[k]? with
      | none => rw [e] at hb; cases hb
      | some b0 => rw [e] at hb; cases hb; trivial
    · rename_i hk
      have q := r.bd k b hb
      have sk := same k hk
      cases b with
      | un => trivial
      | exc n => exact ⟨q.1, by rw [sk]; exact q.2⟩
      | val d => obtain ⟨v, e1, e2⟩ := q; exact ⟨v, by rw [sk]; exact e1, e2⟩
      | own d => obtain ⟨v, e1, e2⟩ := q; exact ⟨v, by rw [sk]; exact e1, e2⟩
      | prm d => obtain ⟨v, e1, e2⟩ := q; exact ⟨v, by rw [sk]; exact e1, e2⟩
  · rw [wipeB_get] at h1
    split at h1
    · cases e : ρ[k]? with
      | none => rw [e] at h1; cases h1
      | some b => rw [e] at h1; cases h1
    · rename_i hk
      exact r.np k d a h1 (by rw [← same k hk]; exact h2)
theorem wipe_wipe : wipe (wipe σ vs) vs = wipe σ vs := by
  apply List.ext_getElem?
  intro k
  rw [wipe_get, wipe_get]
  by_cases hk : k ∈ vs
  · rw [if_pos hk, if_pos hk]
    cases σ[k]? <;> rfl
  · rw [if_neg hk, if_neg hk]
theorem Ex.free {a : Addr} {xs : List V} {o' : HO} (hs : ¬ S a) (e : H a = some (.lst xs)) : Ex S H S (L2.upd H a o') := by
  refine ⟨fun _ h => h, fun b u hb _ h => ?_, fun b ys h => ?_, fun b ob u h => ?_⟩
  · have hne : b ≠ a := fun z => hs (by rw [← z]; exact hb)
    exact h.imp (fun q => by rw [upd_ne hne]; exact q) fun ⟨q, od, z⟩ => ⟨q, od, by rw [upd_ne hne]; exact z⟩
  · have hne : b ≠ a := fun z => by subst z; rw [e] at h; cases h
    rw [upd_ne hne]; exact h
  · have hne : b ≠ a := fun z => by subst z; rw [e] at h; cases h
    rw [upd_ne hne]; exact h
theorem Rp.updFree (r : Rp K A0 S H σ ρ) {a : Addr} {xs : List V} {o' : HO} (hs : ¬ S a) (ho : ¬ Ow σ ρ a) (e : H a = some (.lst xs)) : Rp K A0 S (upd H a o') σ ρ := by
  have x : Ex S H S (upd H a o') := Ex.free hs e
  have keep : ∀ k c, OwI σ ρ k c → ∀ u, H c = some u → (upd H a o') c = some u := fun k c h u hc => by
    have hne : c ≠ a := fun z => ho ⟨k, by rw [← z]; exact h⟩
    rw [upd_ne hne]; exact hc
  have some_ : ∀ c, (∃ u, H c = some u) → ∃ u, (upd H a o') c = some u := fun c ⟨u, hc⟩ => by
    by_cases z : c = a
    · subst z; exact ⟨o', upd_same⟩
    · exact ⟨u, by rw [upd_ne z]; exact hc⟩
  refine ⟨r.len, fun k b hb => ?_, r.dis, fun c h => some_ c (r.al c h), r.np, fun j c h => some_ c (r.aa j c h), tabs_upd r.tb e (fun z => z) (fun _ z => nomatch z)⟩
  have q := r.bd k b hb
  cases b with
  | un => trivial
  | exc _ => exact bd_exc x q
  | val d => obtain ⟨v, e1, e2⟩ := q; exact ⟨v, e1, e2.ex x⟩
  | own d => obtain ⟨c, e1, e2, e3⟩ := q; exact ⟨c, e1, e2, e3.ex x (keep k c ⟨by rw [hb]; rfl, e1⟩)⟩
  | prm d => obtain ⟨c, e1, e0, e2, e3⟩ := q; exact ⟨c, e1, e0, e2, e3.ex x (keep k c ⟨by rw [hb]; rfl, e1⟩)⟩
theorem Tr.updFree (t : Tr S0 H0 O0 S H O') {a : Addr} {o o' : HO} (h0 : H0 a = none) (e : H a = some o) : Tr S0 H0 O0 S (upd H a o') O' := by
  refine ⟨t.s, fun b u h n => ?_, fun b u h => ?_, t.o, t.g⟩
  · have hne : b ≠ a := fun z => by subst z; rw [h0] at h; cases h
    rcases t.keep b u h n with q | ⟨q1, q2, od, q3⟩ | ⟨q1, u', q2, q3⟩
    · exact .inl (by rw [upd_ne hne]; exact q)
    · exact .inr (.inl ⟨q1, q2, od, by rw [upd_ne hne]; exact q3⟩)
    · exact .inr (.inr ⟨q1, u', q2, by rw [upd_ne hne]; exact q3⟩)
  · obtain ⟨u', e'⟩ := t.dom b u h
    by_cases z : b = a
    · subst z; exact ⟨o', upd_same⟩
    · exact ⟨u', by rw [upd_ne z]; exact e'⟩
end
section
variable {X : Cx} {A0 : Ax} {W : WX} {elt tg iter : Expr} {ifs : List Expr} {scope : Scope} {own : List (Str × Nat)} {pos : Pos} {fi : SI} {ft : SG} {fc : SB} {fe : SE}
abbrev W0 : WX := fun _ _ _ _ => False
abbrev gb (K : PySem.W.Frag) (mg : Str → Option Value) (A0 : Ax) : Gc := ⟨K, mg, A0, W0⟩
theorem lc_ok {g : Gc} {vs : List Nat} : ∀ σ H Q, tE g (lcE fi ft fc fe vs) σ H Q → tLc (tI g fi) (tG (gb g.K g.mg g.A0) vs ft) (tT (gb g.K g.mg g.A0) fc) (tE (gb g.K g.mg g.A0) fe) vs σ H Q := by
  rintro σ H Q ⟨S, ρ, r, h⟩
  refine tI_bind (P := fun z => PostE g S H σ ρ z Q) exE PostE.bad r h fun p S1 H1 J t1 r1 ok h1 => ?_
  obtain ⟨ds, ρ1⟩ := p
  simp only at h1
  cases eq : lcL ft fc fe vs 0 ds (wipeB ρ1 vs) with
  | none => rw [eq] at h1; exact h1.elim
  | some pr =>
    obtain ⟨all, ρe⟩ := pr
    rw [eq] at h1
    simp only at h1
    intro D hD
    have hD0 : H D = none := t1.fresh hD
    obtain ⟨rw1, ow1⟩ := r1.wiped (σ' := wipe σ vs) (vs := vs) wipe_wipe
    have noA : ∀ j, g.A0 j ≠ some D := fun j hj => by obtain ⟨o, e⟩ := r1.aa j D hj; rw [hD] at e; cases e
    refine ⟨fun i m H' => ∃ S' ρ' acc accV rest, i + m = ds.length ∧ Rp g.K g.A0 S' H' (wipe σ vs) ρ' ∧ ItOk g.K J S' H' ds ∧ Tr S H (Ow σ ρ) S' H' (Ow (wipe σ vs) ρ') ∧ H' D = some (.lst accV) ∧ DrAll g.K S' H' accV acc ∧ ¬ S' D ∧ ¬ Ow (wipe σ vs) ρ' D ∧
        lcL ft fc fe vs accV.length (ds.drop i) ρ' = some (rest, ρe) ∧ acc ++ rest = all, ⟨ds.length, ?_⟩, ?_⟩
    · have sm : L2.Same H1 (upd H1 D (.lst [])) := same_alloc hD
      have nS : ¬ S1 D := fun z => by obtain ⟨o, e⟩ := r1.al D z; rw [hD] at e; cases e
      refine ⟨S1, wipeB ρ1 vs, [], [], all, by omega, rw1.same sm, ok.mono (Ex.same sm), ?_, upd_same, .nil, nS, fun z => ?_, eq, rfl⟩
      · have tt := t1.same sm
        exact ⟨tt.s, tt.keep, tt.dom, fun a z => tt.o a (ow1 a z), tt.g⟩
      · obtain ⟨o, e⟩ := r1.alive (ow1 D z); rw [hD] at e; cases e
    · rintro i m H' ⟨S', ρ', acc, accV, rest, hm, rp, ok', t', hl, dacc, nS, nO, hL, hall⟩
      cases m with
      | zero =>
        have hi : i = ds.length := by omega
        subst hi
        rw [List.drop_length] at hL
        have hL' : some (([] : List PyData), ρ') = some (rest, ρe) := hL
        cases hL'
        rw [List.append_nil] at hall
        subst hall
        obtain ⟨rf, of⟩ := rp.wiped (σ' := σ) (vs := vs) (by rw [wipe_wipe])
        refine .inl ⟨ok'.end_ S' H' (Ex.same fun _ _ e => e), h1 S' H' (.ref D) ⟨t'.s, t'.keep, t'.dom, fun a z => t'.o a (of a z), t'.g⟩ rf ⟨D, rfl, ⟨hD0, noA⟩, nS, fun z => nO (of D z), _, hl, .lst dacc⟩⟩
      | succ n =>
        have hlt : i < ds.length := by omega
        have e : ds[i]? = some ds[i] := List.getElem?_eq_getElem hlt
        obtain ⟨hgo, hy⟩ := ok'.at_ S' H' i _ (Ex.same fun _ _ e => e) e
        rw [drop_cons e] at hL
        refine .inr ⟨hgo, fun H'' => ∃ S' ρ' acc accV rest, i + 1 + n = ds.length ∧ Rp g.K g.A0 S' H'' (wipe σ vs) ρ' ∧ ItOk g.K J S' H'' ds ∧ Tr S H (Ow σ ρ) S' H'' (Ow (wipe σ vs) ρ') ∧ H'' D = some (.lst accV) ∧ DrAll g.K S' H'' accV acc ∧ ¬ S' D ∧ ¬ Ow (wipe σ vs) ρ' D ∧
          lcL ft fc fe vs accV.length (ds.drop (i + 1)) ρ' = some (rest, ρe) ∧ acc ++ rest = all, fun H'' q => ⟨n, Nat.lt_succ_self n, q⟩, fun x H2 y => ?_⟩
        obtain ⟨sm, dx⟩ := hy x H2 y
        have tg0 : Tr S' H' (Ow (wipe σ vs) ρ') S' H2 (Ow (wipe σ vs) ρ') := Tr.grow sm
        refine ⟨S', ρ', ds[i], rp.same sm, dx, ?_⟩
        unfold lcL at hL
        cases e1 : ft ds[i] ρ' with
        | bad => rw [e1] at hL; cases hL
        | ex k ρ2 => rw [e1] at hL; cases hL
        | ok ρ2 =>
          rw [e1] at hL
          simp only at hL
          intro S2 H3 σ2 t2 r2 w2
          have w2' : wipe σ2 vs = wipe σ vs := by rw [w2, wipe_wipe]
          refine ⟨w2', S2, ρ2, r2, ?_⟩
          have t02 := tg0.trans t2
          cases e2 : fc ρ2 with
          | bad => rw [e2] at hL; cases hL
          | ex k ρ3 => rw [e2] at hL; cases hL
          | ok pb =>
            obtain ⟨b, ρ3⟩ := pb
            rw [e2] at hL
            intro S3 H4 t3 r3
            have t03 := t02.trans t3
            -- the new list is as it was
            have keepD : ∀ {S4 : Addr → Prop} {H5 : Hp} {O5 : Addr → Prop}, Tr S' H' (Ow (wipe σ vs) ρ') S4 H5 O5 → H5 D = some (.lst accV) ∧ ¬ S4 D ∧ ¬ O5 D := fun t => by
              refine ⟨t.keepN hl nO fun z => z, fun z => ?_, fun z => ?_⟩
              · rcases t.g D z with z | z | z
                · exact nS z
                · exact nO z
                · rw [hl] at z; cases z
              · rcases t.o D z with z | z
                · exact nO z
                · rw [hl] at z; cases z
            cases b with
            | false =>
              simp only at hL
              refine iteF ?_
              obtain ⟨r4, o4⟩ := r3.wiped (σ' := wipe σ vs) (vs := vs) (by rw [wipe_wipe, w2'])
              obtain ⟨k1, k2, k3⟩ := keepD t03
              have tt := t'.trans t03
              exact ⟨S3, wipeB ρ3 vs, acc, accV, rest, by omega, r4, ok'.mono (rp.ex t03), ⟨tt.s, tt.keep, tt.dom, fun a z => tt.o a (o4 a z), tt.g⟩, k1, dacc.ex (rp.ex t03), k2, fun z => k3 (o4 D z), hL, hall⟩
            | true =>
              simp only at hL
              refine iteT ⟨S3, ρ3, r3, ?_⟩
              cases e3 : fe ρ3 with
              | bad => rw [e3] at hL; cases hL
              | ex k ρ4 => rw [e3] at hL; cases hL
              | ok pe =>
                obtain ⟨ev, ρ4⟩ := pe
                rw [e3] at hL
                simp only at hL
                intro S4 H5 v t4 r4 re
                obtain ⟨S4', t4', r4', re', x4⟩ := settle_ok t4 r4 re
                cases e4 : shr ρ4 (settle ev) with
                | none => rw [e4] at hL; cases hL
                | some ps =>
                  obtain ⟨yd, ρ5⟩ := ps
                  rw [e4] at hL
                  simp only at hL
                  obtain ⟨S5, t5, r5, dy, x5⟩ := shr_ok t4' r4' re' e4
                  have t05 := t03.trans t5
                  obtain ⟨k1, k2, k3⟩ := keepD t05
                  split at hL
                  rotate_left
                  · cases hL
                  rename_i hz
                  cases e5 : lcL ft fc fe vs (accV.length + 1) (ds.drop (i + 1)) (wipeB ρ5 vs) with
                  | none => rw [e5] at hL; cases hL
                  | some pr =>
                    obtain ⟨rest', ρe'⟩ := pr
                    rw [e5] at hL
                    cases hL
                    obtain ⟨r6, o6⟩ := r5.wiped (σ' := wipe σ vs) (vs := vs) (by rw [wipe_wipe, w2'])
                    have tt := t'.trans t05
                    have tt6 : Tr S H (Ow σ ρ) S5 H5 (Ow (wipe σ vs) (wipeB ρ5 vs)) := ⟨tt.s, tt.keep, tt.dom, fun a z => tt.o a (o6 a z), tt.g⟩
                    have nO6 : ¬ Ow (wipe σ vs) (wipeB ρ5 vs) D := fun z => k3 (o6 D z)
                    have xu : Ex S5 H5 S5 (upd H5 D (.lst (accV ++ [v]))) := Ex.free k2 k1
                    refine ⟨accV, k1, hz, S5, wipeB ρ5 vs, acc ++ [yd], accV ++ [v], rest', by omega, r6.updFree k2 nO6 k1, ok'.mono ((rp.ex t05).trans xu), tt6.updFree hD0 k1, upd_same, ((dacc.ex (rp.ex t05)).ex xu).append (.cons (dy.ex xu) .nil), k2, nO6, ?_, ?_⟩
                    · rw [List.length_append]; exact e5
                    · rw [List.append_assoc]; exact hall
theorem glc (vs : List Nat) (hvs : vs = own.map (·.2)) (hc : X.calm = true) (hN : X.N.Nodup) (hi : PI X tg iter (tI (gc X A0 W) fi)) (ok : BlkOk X.N X.env.scope scope own)
    (hg : ∀ (s : Shared) (H : Hp) (C : Addr) (cl : List (Str × Addr)) (fp : List Addr), PG (X.blk s H scope (compEnvC scope cl C X.env) fp) tg (tG (gb X.K X.mg A0) vs ft)) (ht : ∀ (s : Shared) (H : Hp) (C : Addr) (cl : List (Str × Addr)) (fp : List Addr), PTs (X.blk s H scope (compEnvC scope cl C X.env) fp) ifs (tT (gb X.K X.mg A0) fc))
    (he : ∀ (s : Shared) (H : Hp) (C : Addr) (cl : List (Str × Addr)) (fp : List Addr), PE (X.blk s H scope (compEnvC scope cl C X.env) fp) elt (tE (gb X.K X.mg A0) fe)) (hs : ∀ x, foldedSetIterable iter X.env x = pure x := by intro _; rfl) :
    PE X (.ListComp elt [⟨tg, iter, ifs, 0⟩] scope pos) (tE (gc X A0 W) (lcE fi ft fc fe vs)) := by
  subst hvs
  exact PE_imp (pe_lc hc hN hi ok hg ht he hs) (lc_ok (g := gc X A0 W))
theorem gts_nil {Y : Cx} {g : Gc} : PTs Y [] (tT g yesB) := by
  refine ⟨fun pins s σ H Q I h => pts_nil.run pins s σ H Q I ?_⟩
  obtain ⟨S, ρ, r, h⟩ := h
  exact h S H Tr.refl r
theorem gs_setLc (vs : List Nat) (i : Nat) {y : Str} {py : Pos} {spos : Pos} (hvs : vs = own.map (·.2)) (hc : X.calm = true) (hN : X.N.Nodup)
    (hsw : swapsWith (.ListComp elt [⟨tg, iter, ifs, 0⟩] scope pos) (some (.Name y py)) spos.line X.env = pure true) (hi : PI X tg iter (tI (gc X A0 W) fi)) (ok : BlkOk X.N X.env.scope scope own)
    (hg : ∀ (s : Shared) (H : Hp) (C : Addr) (cl : List (Str × Addr)) (fp : List Addr), PG (X.blk s H scope (compEnvC scope cl C X.env) fp) tg (tG (gb X.K X.mg A0) vs ft)) (ht : ∀ (s : Shared) (H : Hp) (C : Addr) (cl : List (Str × Addr)) (fp : List Addr), PTs (X.blk s H scope (compEnvC scope cl C X.env) fp) ifs (tT (gb X.K X.mg A0) fc))
    (he : ∀ (s : Shared) (H : Hp) (C : Addr) (cl : List (Str × Addr)) (fp : List Addr), PE (X.blk s H scope (compEnvC scope cl C X.env) fp) elt (tE (gb X.K X.mg A0) fe)) (hy : X.N[i]? = some y := by rfl) (hyl : X.env.scope.names.lookup y = some .local := by rfl) (hs : ∀ x, foldedSetIterable iter X.env x = pure x := by intro _; rfl) :
    PS X (.Assign [.Name y py] (.ListComp elt [⟨tg, iter, ifs, 0⟩] scope pos) spos) (tSt (gc X A0 W) (asgS i (lcE fi ft fc fe vs))) := by
  subst hvs
  refine PS_imp (ps_setLc hc hN hy hyl hsw hi ok hg ht he hs) ?_
  rintro D σ H ⟨S, ρ, r, h⟩
  refine lc_ok (g := gc X A0 W) σ H _ ⟨S, ρ, r, ?_⟩
  unfold asgS at h
  cases e : lcE fi ft fc fe (own.map (·.2)) ρ with
  | bad => rw [e] at h; exact h.elim
  | ex n ρ' => rw [e] at h; exact fun S' H' t' r' => h S' H' σ t' r'
  | ok p =>
    rw [e] at h
    intro S1 H1 v1 t1 r1 e1
    show D.nx _ _
    have h : PostS (gc X A0 W) S H σ ρ ((bindV i p.1 p.2).bind fun ρ' => .ok (.nx ρ')) D := h
    cases hb : bindV i p.1 p.2 with
    | bad => rw [hb] at h; exact h.elim
    | ex n ρ' =>
      exfalso
      revert hb
      unfold bindV
      split
      · nofun
      · nofun
      · split <;> nofun
    | ok ρ' =>
      rw [hb] at h
      obtain ⟨S2, t2, r2⟩ := bindV_ok t1 r1 e1 hb
      exact h S2 H1 _ t2 r2
end
end G
namespace G
open PySem PySem.Spec PyProof.Rows L2
theorem dr_ints {K : PySem.W.Frag} {S : Addr → Prop} {H : Hp} : ∀ (ns : List Int), DrAll K S H (ns.map V.int) (ns.map PyData.int)
  | [] => .nil
  | n :: ns => .cons (.int n) (dr_ints ns)
theorem rp_script {K : PySem.W.Frag} {H : Hp} {a : Addr} {ns : List Int} {Γ : Gx} (h : LstR K H a (ns.map V.int)) (tb : LamX.Tabs Γ.T H) :
    Rp K (A0p Γ [V.ref a] [B.val (.list (ns.map PyData.int))]) (fun _ => False) H (pst [V.ref a]) [B.val (.list (ns.map PyData.int))] := by
  have no : ∀ i : Nat, isOw ([B.val (.list (ns.map PyData.int))][i]?) = true → False := fun i h => by
    cases i with
    | zero => cases h
    | succ i => cases h
  refine ⟨rfl, fun i b hb => ?_, fun i j x h1 _ => (no i h1.1).elim, fun _ h => h.elim, fun i d x h1 _ => ?_, fun i x h => ?_, tb⟩
  · match i, hb with
    | 0, hb =>
      cases hb
      exact ⟨V.ref a, rfl, .lstR h (dr_ints ns)⟩
    | i + 1, hb => cases hb
  · match i, h1 with
    | 0, h1 => cases h1
    | i + 1, h1 => cases h1
  · obtain ⟨⟨d, e⟩, _⟩ := A0p_ok h
    match i, e with
    | 0, e => cases e
    | i + 1, e => cases e
/-- the end: a law's contract at the heap behind the top; cs: the code objects that make lambdas, and their tables -/
theorem end_call {P : Program} {w : World} {K : PySem.W.Frag} {mg mb : Str → Option Value} {k : Nat} {fa a : Addr} {fd : FuncData} {x : Str} {F : SE} {s₁ : Shared} {vs : List Value} {ns : List Int} {Γ : Gx} {cs : List (Addr × Addr)}
    (KX : K.In s₁.heap) (hns : s₁.heap.Ns mainGlobals mg) (hb : s₁.heap.Ns builtinsNs mb) (hbb : ∀ x : Str, x ≠ "__name__" → mb x = bootBuiltins x) (hlim : s₁.heap.NoLimit) (hsy : ∃ mm, s₁.heap.Ns sysModules mm) (hg : s₁.gens = #[])
    (hT : ∀ p ∈ cs, s₁.heap.get? p.2 = some { cls := .none, data := .fields #[] }) (nT : ∀ p ∈ cs, K.lookup p.2 = none) (C : ∀ p ∈ cs, PySem.W.CodeHd s₁.heap p.1 p.2)
    (hbm : ∃ (bm : Addr) (ob : Obj), mg "__builtins__" = some (.ref bm) ∧ bm ≠ builtinsNs ∧ s₁.heap.get? bm = some ob ∧ ob.cls = .type "module" ∧ ob.dict = some builtinsNs ∧ ob.data = .plain)
    (hΓ : ∀ q ∈ Γ.T, q.1 ∈ cs.map (·.2))
    (ha : s₁.heap.get? a = some { cls := .type "list", data := .seq vs.toArray }) (hi : IntsAre vs ns) (hl : ns.length ≤ sizeLine) (hr : Room k callerA)
    (hF : ∀ base : Heap, K.In base → base.Ns mainGlobals mg → SysOk base → (∀ p ∈ cs, LamX.TabB base mg p.1 p.2) → FnG P w K mg base Γ k fa fd [x] F) (hbind : ∀ (s : Shared) (u : Value), BindsTo s fd ⟨[u], []⟩ [(x, u)])
    (hlaw : ∃ ρ, F [B.val (.list (ns.map PyData.int))] = .ok (.val (.bool true), ρ)) :
    codeAny (model P w) callerA (.call (.ref fa) ⟨[.ref a], []⟩) (fun r s' => r = .ok (.ret (.bool true)) ∧ OldK s₁.heap s'.heap ∧ s'.os = s₁.os ∧ AllBare s'.gens) s₁ := by
  have rv := vals_ints hi
  have hlen := hi.length
  obtain ⟨ρ, hlaw⟩ := hlaw
  have isT : ∀ b : Addr, b ∈ cs.map (·.2) → s₁.heap.get? b = some { cls := .none, data := .fields #[] } := fun b hb => by
    obtain ⟨p, hp, e⟩ := List.mem_map.mp hb
    rw [← e]
    exact hT p hp
  have aT : a ∉ cs.map (·.2) := fun z => by
    have q := isT a z
    rw [ha] at q
    have z' : Data.seq vs.toArray _ = Data.fields #[] := congrArg Obj.data (Option.some.inj q)
    cases z'
  have memT : ∀ p ∈ cs, p.2 ∈ cs.map (·.2) := fun p hp => List.mem_map.mpr ⟨p, hp, rfl⟩
  -- nothing is told but the tables and, it may be, the script
  have core : ∀ H : Hp, (∀ b ∈ cs.map (·.2), H b = some (.tbl #[])) → (∀ b, H b = none ∨ b ∈ cs.map (·.2) ∨ (b = a ∧ K.lookup a = none ∧ ∃ o xs, H b = some (.frz o (.lst xs)))) → LstR K H a (ns.map V.int) → HOk P w H s₁.heap →
      codeAny (model P w) callerA (.call (.ref fa) ⟨[.ref a], []⟩) (fun r s' => r = .ok (.ret (.bool true)) ∧ OldK s₁.heap s'.heap ∧ s'.os = s₁.os ∧ AllBare s'.gens) s₁ := by
    intro H hH hO hR hok
    have noD : ∀ {b : Addr} {o : Obj}, s₁.heap.get? b = some o → (∀ vs n, o.data ≠ .seq vs n) → o.data ≠ .fields #[] → H b = none := fun {b o} e h1 h2 => by
      rcases hO b with q | q | ⟨rfl, _⟩
      · exact q
      · rw [isT b q] at e
        cases e
        exact (h2 rfl).elim
      · rw [ha] at e
        cases e
        exact (h1 _ _ rfl).elim
    have stay : ∀ {b : Addr} {o : Obj} {es : Array DictEntry} {ep : Nat}, s₁.heap.get? b = some o → o.data = .dict es ep → (hidT s₁.heap H).get? b = some o := fun {b o es ep} e d => hidT_get e (noD e (fun vs n z => by rw [d] at z; cases z) fun z => by rw [d] at z; cases z)
    have nsS : ∀ {b : Addr} {m : Str → Option Value}, s₁.heap.Ns b m → (hidT s₁.heap H).Ns b m := fun ⟨o, es, ep, e, d, r⟩ => ⟨o, es, ep, stay e d, d, r⟩
    have inK : K.In (hidT s₁.heap H) := fun b o e => hidT_get (KX b o e) (by
      rcases hO b with q | q | ⟨rfl, q, _⟩
      · exact q
      · obtain ⟨p, hp, ep⟩ := List.mem_map.mp q
        rw [← ep, nT p hp] at e
        cases e
      · rw [q] at e
        cases e)
    have e0 : Env0 P w K mg (hidT s₁.heap H) callerA [] s₁ H := ⟨rfl, ⟨inK, nsS hns, ⟨mb, nsS hb, hbb⟩, let ⟨mc, h1, h2⟩ := hlim; ⟨mc, nsS h1, h2⟩⟩, fun b o e => of_hidT e, Nat.le_of_eq (hidT_size _ _), trivial, fun b hb => absurd (show b ∈ ([] : List Addr) from hb) (by simp), hok, .of_eq hg⟩
    have sys : SysOk (hidT s₁.heap H) := let ⟨mm, h⟩ := hsy; let ⟨o, es, ep, e, d, _⟩ := nsS h; ⟨o, es, ep, e, d⟩
    have TB : ∀ p ∈ cs, LamX.TabB (hidT s₁.heap H) mg p.1 p.2 := fun p hp => by
      have hTp := hT p hp
      refine ⟨?_, ?_, fun z => ?_⟩
      · obtain ⟨o, us, file, tf, flags, tg, inF, text, tt, e1, r1, r2, r3, r4, r5, r6, r7, r8, hne⟩ := C p hp
        refine ⟨o, us, file, tf, flags, tg, inF, text, tt, hidT_get e1 (noD e1 (fun vs n z => ?_) fun z => ?_), r1, r2, r3, r4, r5, r6, r7, r8, hne⟩
        · rw [r2] at z
          cases z
        · rw [r2] at z
          cases z
          simp at r3
      · obtain ⟨bm, ob, b1, b2, b3, b4, b5, b6⟩ := hbm
        have nG : bm ≠ mainGlobals := fun q => by
          obtain ⟨o, es, ep, e, hd, _⟩ := hns
          rw [q, e] at b3
          cases b3
          rw [hd] at b6
          cases b6
        have nP : bm ≠ p.2 := fun q => by
          rw [q, hTp] at b3
          cases b3
          cases b6
        refine ⟨bm, ob, b1, b2, nG, nP, hidT_get b3 (noD b3 (fun vs n z => ?_) fun z => ?_), b4, b5, b6⟩
        · rw [b6] at z
          cases z
        · rw [b6] at z
          cases z
      · obtain ⟨o, es, ep, e, hd, _⟩ := hns
        rw [z, hTp] at e
        cases e
        cases hd
    have tbs : LamX.Tabs Γ.T H := fun q hq => LamX.TabS.nil (hH _ (hΓ q hq))
    refine codeAny_mono ((hF _ inK (nsS hns) sys TB).run callerA [] s₁ H ⟨[.ref a], []⟩ [.ref a] [.ref a] (fun v _ => v = .bl true) (fun _ _ _ => False) (fun _ => False) [B.val (.list (ns.map PyData.int))] hr rfl e0 (hbind s₁ (.ref a)) (.cons rfl .nil) rfl (fun i d h => ?_) (rp_script hR tbs) ?_) fun r s' h => ?_
    · match i, h with
      | 0, h => cases h
      | i + 1, h => cases h
    · rw [hlaw]
      intro S' H' v t r' re
      have re : Dr K S' H' v (.bool true) := re
      cases re with
      | bl => rfl
      | obj _ _ c => cases c
    · cases r with
      | error e =>
        obtain ⟨_, _, _, _, _, _, _, _, _, _, _, _, q⟩ := (show CX P w [] H s₁ (fun _ _ _ => False) e s' from h)
        exact q.elim
      | ok fl =>
        cases fl with
        | next => exact False.elim h
        | brk => exact False.elim h
        | cont => exact False.elim h
        | ret u =>
          obtain ⟨v, H', os, bare, un, hok', r', q⟩ := h
          have q' : v = .bl true := q
          subst q'
          obtain rfl : u = Value.bool true := r'
          have key : ∀ b o, b ∉ cs.map (·.2) → s₁.heap.get? b = some o → s'.heap.get? b = some o := fun b o nb e => by
            rcases hO b with q | q | ⟨_, _, ob, xs, z⟩
            · exact un.keep b o e q (fun z => absurd (show b ∈ ([] : List Addr) from z) (by simp)) (by simp)
            · exact absurd q nb
            · obtain ⟨e1, _⟩ := hok b _ z
              obtain ⟨e2, _⟩ := hok' b _ (un.frzs b ob _ z)
              rw [e] at e1
              cases e1
              exact e2
          have grown : ∀ p ∈ cs, ∃ more : Array Value, s'.heap.get? p.2 = some { cls := .none, data := .fields more } := fun p hp => by
            obtain ⟨more, z⟩ := un.tbls p.2 #[] (hH _ (memT p hp))
            exact ⟨_, hok' p.2 _ z⟩
          refine ⟨rfl, ⟨fun b o e => ?_, fun b o e => ?_⟩, os, bare⟩
          · by_cases hb : b ∈ cs.map (·.2)
            · obtain ⟨p, hp, ep⟩ := List.mem_map.mp hb
              obtain ⟨more, hm⟩ := grown p hp
              rw [← ep] at e ⊢
              rw [hT p hp] at e
              cases e
              exact .inr (.inl ⟨((C p hp).tab (hT p hp)).isCodeTable, rfl, #[], more, rfl, by rw [Array.empty_append]; exact hm⟩)
            · exact .inl (key b o hb e)
          · by_cases hb : b ∈ cs.map (·.2)
            · obtain ⟨p, hp, ep⟩ := List.mem_map.mp hb
              obtain ⟨more, hm⟩ := grown p hp
              rw [← ep]
              exact ⟨_, hm⟩
            · exact ⟨o, key b o hb e⟩
  cases hk : K.lookup a with
  | some o =>
    have e := KX a o hk
    rw [ha] at e
    cases e
    refine core (fun b => if b ∈ cs.map (·.2) then some (.tbl #[]) else none) (fun b hb => if_pos hb) (fun b => ?_) (.inr ⟨vs, _, hk, by omega, rv⟩) fun b u z => ?_
    · by_cases hb : b ∈ cs.map (·.2)
      · exact .inr (.inl hb)
      · exact .inl (if_neg hb)
    · by_cases hb : b ∈ cs.map (·.2)
      · have z' := (if_pos hb).symm.trans z
        cases z'
        exact isT b hb
      · have z' := (if_neg hb).symm.trans z
        cases z'
  | none =>
    refine core (fun b => if b = a then some (.frz { cls := .type "list", data := .seq vs.toArray } (.lst (ns.map V.int))) else if b ∈ cs.map (·.2) then some (.tbl #[]) else none) (fun b hb => (if_neg (show ¬ b = a from fun z => aT (by rw [← z]; exact hb))).trans (if_pos hb)) (fun b => ?_) (.inl ⟨{ cls := .type "list", data := .seq vs.toArray }, if_pos rfl⟩) fun b u z => ?_
    · by_cases hb : b = a
      · exact .inr (.inr ⟨hb, hk, _, _, if_pos hb⟩)
      · by_cases hb2 : b ∈ cs.map (·.2)
        · exact .inr (.inl hb2)
        · exact .inl ((if_neg hb).trans (if_neg hb2))
    · by_cases hb : b = a
      · have z' := (if_pos hb).symm.trans z
        cases z'
        subst hb
        exact ⟨ha, by rw [List.length_map]; exact hl, vs, _, rv, ha⟩
      · have z1 := (if_neg hb).symm.trans z
        by_cases hb2 : b ∈ cs.map (·.2)
        · have z' := (if_pos hb2).symm.trans z1
          cases z'
          exact isT b hb2
        · have z' := (if_neg hb2).symm.trans z1
          cases z'
/-- from k_head's goal to the mirror -/
theorem end_walk {l : PySem.W.OpenLaw} {n k : Nat} {q : Program} {loose : List Str} {XP : (Str → Option Value) → Heap → Prop} {YP : World → Heap → Prop} {d : DefRec} {K : Params → PySem.W.Frag} {x : Str} {F : Params → SE}
    (hn : l.most = some n) (hn2 : n ≤ sizeLine) (hdf : d.params.defaults = []) (hr : Room k callerA) (him : importsNone q = true)
    (hY : ∀ (w : World) (h : Heap), YP w h → (K w.params).In h)
    (hF : ∀ (w : World) (mg : Str → Option Value) (fa : Addr) (h : Heap), YP w h → (K w.params).In h → h.Ns mainGlobals mg → mg d.name = some (.ref fa) →
      ∃ (fd : FuncData) (cs : List (Addr × Addr)) (Γ : Gx), ((∀ p ∈ cs, h.get? p.2 = some { cls := .none, data := .fields #[] }) ∧ (∀ p ∈ cs, (K w.params).lookup p.2 = none) ∧ (∀ p ∈ cs, PySem.W.CodeHd h p.1 p.2) ∧ ∀ q ∈ Γ.T, q.1 ∈ cs.map (·.2)) ∧ (∀ (s : Shared) (u : Value), BindsTo s fd ⟨[u], []⟩ [(x, u)]) ∧
        ∀ base : Heap, (K w.params).In base → base.Ns mainGlobals mg → SysOk base → (∀ p ∈ cs, LamX.TabB base mg p.1 p.2) → FnG l.prog w (K w.params) mg base Γ k fa fd [x] (F w.params))
    (hlaw : ∀ (p : Params) (ns : List Int), ns.length ≤ n → ∃ ρ, F p [B.val (.list (ns.map PyData.int))] = .ok (.val (.bool true), ρ)) :
    PySem.W.WalkO q loose XP YP l.row.toRowW d [] (fun f vs => PySem.call f vs) := by
  refine Att.attach_call hn hdf fun w s₀ s₁ mg mb fa o pm cd doc a vs ns G Y ho hd hcd hmg hobj hints hlen hg => ?_
  have KX := hY w _ Y
  obtain ⟨fd, cs, Γ, ⟨hT, nT, C, hΓ⟩, hb, hF⟩ := hF w mg fa _ Y KX G.T.g hmg
  obtain ⟨mm, hs, _⟩ := (G.T.seer him).mods
  exact end_call KX G.T.g G.T.b G.T.builtins G.T.nolimit ⟨mm, hs⟩ hg hT nT C G.T.bmain hΓ hobj hints (Nat.le_trans hlen hn2) hr hF hb (hlaw w.params ns hlen)
/-- no lambda is made -/
theorem noTabs {K : PySem.W.Frag} {h : Heap} {es : List (Str × Addr)} : (∀ p ∈ ([] : List (Addr × Addr)), h.get? p.2 = some { cls := .none, data := .fields #[] }) ∧ (∀ p ∈ ([] : List (Addr × Addr)), K.lookup p.2 = none) ∧ (∀ p ∈ ([] : List (Addr × Addr)), PySem.W.CodeHd h p.1 p.2) ∧ ∀ q ∈ ({ T := [], es := es } : Gx).T, q.1 ∈ ([] : List (Addr × Addr)).map (·.2) :=
  ⟨fun _ h => (nomatch h), fun _ h => (nomatch h), fun _ h => (nomatch h), fun _ h => (nomatch h)⟩
end G
namespace G
open PySem PySem.Spec PyProof.Rows L2
/-! ### the defs of the text -/
/-- a def of the module's top -/
structure FnK (K : PySem.W.Frag) (mg : Str → Option Value) (dV : Value) (x : Str) (st : Stmt) (ps : List Str) (f : Addr) (fd : FuncData) : Prop where
  at_ : mg x = some (.ref f)
  kp : PySem.W.keepIn K (.ref f) = true
  ex : FnEx K dV x x st f fd
structure CalledG (P : Program) (w : World) (K : PySem.W.Frag) (mg : Str → Option Value) (base : Heap) (Γ : Gx) (k : Nat) (x : Str) (ps : List Str) (F : SE) (dbs : List B) : Prop where
  ex : ∃ (f : Addr) (fd : FuncData) (dvs : List V) (ds : List Value), mg x = some (.ref f) ∧ PySem.W.keepIn K (.ref f) = true ∧ FnG P w K mg base Γ k f fd ps F ∧ Binds K fd ps ds ∧ Vals dvs ds ∧ Dfl K dvs dbs
section
variable {P : Program} {w : World} {K : PySem.W.Frag} {mg : Str → Option Value} {base : Heap} {Γ : Gx} {k : Nat} {dV : Value} {x : Str} {ps : List Str} {F : SE} {st : Stmt} {f : Addr} {fd : FuncData}
theorem fnK_mk {h : Heap} {oc : Value} {od an : Option Addr} {osl : Array (Option Value)} {kV doc pm cdv ct : Value} (X : K.In h) (G : h.Ns mainGlobals mg) (a : PySem.W.nsIn K mainGlobals x = some (some (.ref f)))
    (l : K.lookup f = some ⟨oc, od, .func (PySem.W.fnOf x x (defArgs st) (defBody st) (defScope st) dV kV doc pm an cdv ct), osl⟩) (c : PySem.W.codeIn K cdv x = true) (kp : PySem.W.keepIn K (.ref f) = true) :
    FnK K mg dV x st ps f (PySem.W.fnOf x x (defArgs st) (defBody st) (defScope st) dV kV doc pm an cdv ct) := ⟨PySem.W.mg_of X G a, kp, ⟨oc, od, kV, doc, pm, an, cdv, ct, osl, rfl, l, c⟩⟩
theorem called_of (h : FnK K mg dV x st ps f fd) (b : Binds K fd ps []) (g : FnG P w K mg base Γ k f fd ps F) : CalledG P w K mg base Γ k x ps F [] := ⟨⟨f, fd, [], [], h.at_, h.kp, g, b, .nil, .nil⟩⟩
/-- every parameter is given -/
theorem FnK.binds (h : FnK K mg dV x st ps f fd) (hb : ∀ (kV doc pm : Value) (an : Option Addr) (cdv ct : Value) (us : List Value), us.length = ps.length → bindArgs (PySem.W.fnOf x x (defArgs st) (defBody st) (defScope st) dV kV doc pm an cdv ct) ⟨us, []⟩ = pure (ps.zip us)) : Binds K fd ps [] := by
  obtain ⟨oc, od, kV, doc, pm, an, cdv, ct, osl, rfl, _⟩ := h.ex
  exact .all (hb kV doc pm an cdv ct)
end
section
variable {X : Cx} {A0 : Ax} {W : WX} {k j : Nat} {ps : List Str} {F : SE} {dbs : List B} {x : Str} {p pos : Pos} {e : Expr} {es : List Expr} {fa : SA}
theorem gcallC (ms : List Bool) (c : CalledG X.prog X.w X.K X.mg X.base A0.g k x ps F dbs) (hr : Room j X.A) (gx : GX X) (tk : Takes X W) (ha : PA X (e :: es) (tA (gc X A0 W) fa)) (hj : k ≤ j := by decide) (hn : (ms.length + dbs.length == ps.length) = true := by rfl) (hg : Gl X x := by rfl)
    (hdb : (x == ("__debug__" : Str)) = false := by decide) (he : starEach (e :: es) X.env = (false, eval e X.env) :: starEach es X.env := by rfl) (hpl : (backTo pos (starEach es X.env)).any (·.1) = false := by rfl) :
    PE X (.Call (.Name x p) (e :: es) [] pos) (tE (gc X A0 W) (callF ms F dbs fa)) := by
  obtain ⟨f, fd, dvs, ds, hm, hk, gg, hb, hd, hdf⟩ := c.ex
  exact gcallf ms gg (hr.mono hj) gx tk hm hk hb hd hdf ha (by rw [hdf.len]; exact hn) hg hdb he hpl
end
/-! ### raise X('..'), X an own class -/
structure ExcK (K : PySem.W.Frag) (mg : Str → Option Value) (x : Str) (C : Addr) (newId : String) (bm : List Value) : Prop where
  at_ : mg x = some (.ref C)
  exc : PySem.W.excIn K C bm newId = true
  kp : PySem.W.keepIn K (.ref C) = true
  sub : PySem.W.subIn K (.ref C) (.type "BaseException") = some true
  ty : PySem.W.typeIn K (.ref C) = some (.type "type")
theorem excK_mk {K : PySem.W.Frag} {mg : Str → Option Value} {h : Heap} {x : Str} {C : Addr} {newId : String} {bm : List Value} (X : K.In h) (G : h.Ns mainGlobals mg) (a : PySem.W.nsIn K mainGlobals x = some (some (.ref C))) (q : PySem.W.excIn K C bm newId = true) (kp : PySem.W.keepIn K (.ref C) = true)
    (sub : PySem.W.subIn K (.ref C) (.type "BaseException") = some true) (ty : PySem.W.typeIn K (.ref C) = some (.type "type")) : ExcK K mg x C newId bm := ⟨PySem.W.mg_of X G a, q, kp, sub, ty⟩
def exS_ (x : Str) : SS := fun ρ => .ex x ρ
theorem gs_raise {X : Cx} {A0 : Ax} {W : WX} {C : Addr} {bm : List Value} {B_ newId initId : String} {x m : Str} {j : Nat} {p p2 pos pos' : Pos} (F : ExcBaseFacts B_ newId initId bm) (q : ExcK X.K X.mg x C newId bm) (hc : X.calm = true) (tk : Takes X W) (hg : Gl X x := by rfl)
    (hdb : (x == ("__debug__" : Str)) = false := by decide) : PS X (.Raise (some (.Call (.Name x p) [.Constant (.str m) j p2] [] pos)) none pos') (tSt (gc X A0 W) (exS_ x)) :=
  PS_imp (ps_raise hc tk (pmk_own F q.exc q.at_ q.kp (raises_own q.sub q.ty) hg hdb)) fun D σ H ⟨S, ρ, r, h⟩ => h S H σ Tr.refl r C q.at_
/-! ### e[lo:hi] -/
abbrev SP := Option SE
def ptP : SP → List B → Rs (Option Int × List B)
  | none => fun ρ => .ok (none, ρ)
  | some f => fun ρ => (f ρ).bind fun p => match peek p.2 p.1 with
    | some (.int i) => .ok (some i, p.2)
    | _ => .bad
def tOp_ (g : Gc) : SP → TO
  | none => tNoPart
  | some f => tPart (tE g f)
theorem gpn {X : Cx} {A0 : Ax} {W : WX} : PO X none (tOp_ (gc X A0 W) none) := po_none
theorem gps {X : Cx} {A0 : Ax} {W : WX} {e : Expr} {f : SE} (h : PE X e (tE (gc X A0 W) f)) : PO X (some e) (tOp_ (gc X A0 W) (some f)) := po_some h
def cutL {α : Type} (xs : List α) (lo hi : Option Int) : List α := (xs.drop (HT.sIx xs.length 0 lo)).take (HT.sIx xs.length xs.length hi - HT.sIx xs.length 0 lo)
def cutD (d : PyData) (lo hi : Option Int) : Option Ev := match d with
  | .list ds => some (.fr (.list (cutL ds lo hi)))
  | .tuple ds => some (.val (.tuple (cutL ds lo hi)))
  | .str z => if z.length ≤ sizeLine then some (.val (.str (cutS z lo hi))) else none
  | _ => none
def slE (fe : SE) (pl ph : SP) : SE := fun ρ => (fe ρ).bind fun p => (ptP pl p.2).bind fun l => (ptP ph l.2).bind fun u => resE u.2 ((peek u.2 p.1).bind fun d => cutD d l.1 u.1)
theorem tO_bind {g : Gc} {S : Addr → Prop} {H : Hp} {σ : St} {ρ : List B} {pl : SP} {R : Option Int → Hp → Prop} {α : Type} {k : Option Int × List B → Rs α} {P : Rs α → Prop} (hex : ∀ n ρ', P (.ex n ρ') → ∀ S' H', Tr S H (Ow σ ρ) S' H' (Ow σ ρ') → Rp g.K g.A0 S' H' σ ρ' → g.wx n σ H') (hbad : ¬ P .bad)
    (r : Rp g.K g.A0 S H σ ρ) (h : P ((ptP pl ρ).bind k)) (hk : ∀ p S' H', Tr S H (Ow σ ρ) S' H' (Ow σ p.2) → Rp g.K g.A0 S' H' σ p.2 → P (k p) → R p.1 H') : tOp_ g pl σ H R := by
  cases pl with
  | none => exact hk (none, ρ) S H Tr.refl r h
  | some f =>
    unfold ptP at h
    have h2 : P ((f ρ).bind fun p => (match peek p.2 p.1 with
      | some (.int i) => Rs.ok (some i, p.2)
      | _ => .bad : Rs (Option Int × List B)).bind k) := by
      cases e : f ρ with
      | ok p => simp only [e] at h; exact h
      | ex n ρ' => simp only [e] at h; exact h
      | bad => simp only [e] at h; exact h
    refine tE_bind (R := fun x H1 => ∃ i, x = .int i ∧ R (some i) H1) hex hbad r h2 fun p S' H' v t r' e1 q => ?_
    cases pk : peek p.2 p.1 with
    | none => rw [pk] at q; exact (hbad q).elim
    | some d =>
      rw [pk] at q
      cases d with
      | int i => exact ⟨i, (peek_ok r' e1 pk).int, hk (some i, p.2) S' H' t r' q⟩
      | _ => exact (hbad q).elim
def rSlG (K : PySem.W.Frag) : V → Option Int → Option Int → Hp → VK → Prop := fun x lo hi H Q => (rSlL K x lo hi H Q ∨ rSlA K x lo hi H Q) ∨ rSlS x lo hi H Q
theorem cutL_dr {K : PySem.W.Frag} {S : Addr → Prop} {H : Hp} {xs : List V} {ds : List PyData} (r : DrAll K S H xs ds) (lo hi : Option Int) : DrAll K S H (cutV xs lo hi) (cutL ds lo hi) := by
  unfold cutV cutL
  rw [r.length]
  exact (r.drop _).take _
theorem cutL_all {α : Type} (xs : List α) {lo hi : Option Int} (h : HT.sIx xs.length 0 lo = 0 ∧ HT.sIx xs.length xs.length hi = xs.length) : cutL xs lo hi = xs := by
  unfold cutL
  rw [h.1, h.2]
  simp
theorem cutD_ok {K : PySem.W.Frag} {S : Addr → Prop} {H : Hp} {x : V} {d : PyData} {lo hi : Option Int} {e : Ev} {Q : VK} (h1 : Dw K S H x d) (he : cutD d lo hi = some e) (out : Out K S H e Q) : rSlG K x lo hi H Q := by
  cases d <;> simp only [cutD, reduceCtorEq] at he
  · split at he
    · rename_i z hz
      cases he
      exact .inr ⟨z, h1.str, hz, outStr out⟩
    · cases he
  · cases he
    obtain ⟨a, xs, rfl, q, r⟩ := h1.lst
    exact .inl (.inl ⟨a, xs, rfl, q.sq, outLst (cutL_dr r lo hi) out⟩)
  · cases he
    obtain ⟨a, xs, rfl, q, r⟩ := h1.tup
    refine .inl (.inr ⟨a, xs, rfl, q, fun z => out _ H (fun _ _ e => e) (.tup q ?_), fun _ => outTup (cutL_dr r lo hi) out⟩)
    rw [r.length] at z
    rw [cutL_all _ z]
    exact r
theorem gslice {X : Cx} {A0 : Ax} {W : WX} {e : Expr} {lo hi : Option Expr} {fe : SE} {pl ph : SP} {p2 pos : Pos} (he : PE X e (tE (gc X A0 W) fe)) (hl : PO X lo (tOp_ (gc X A0 W) pl)) (hu : PO X hi (tOp_ (gc X A0 W) ph)) :
    PE X (.Subscript e (.Slice lo hi none p2) pos) (tE (gc X A0 W) (slE fe pl ph)) := by
  refine PE_imp (pe_slice (r := rSlG X.K) ((sl_list.or sl_tupA).or sl_str) he hl hu) ?_
  rintro σ H Q ⟨S, ρ, rp, h⟩
  refine tE_bind (P := fun z => PostE (gc X A0 W) S H σ ρ z Q) exE PostE.bad rp h fun p S1 H1 v1 t1 r1 e1 h => ?_
  refine tO_bind (P := fun z => PostE (gc X A0 W) S1 H1 σ p.2 z Q) exE PostE.bad r1 (h.from t1) fun l S2 H2 t2 r2 h => ?_
  refine tO_bind (P := fun z => PostE (gc X A0 W) S2 H2 σ l.2 z Q) exE PostE.bad r2 (h.from t2) fun u S3 H3 t3 r3 h => ?_
  obtain ⟨ev, hev, out⟩ := resE_out t3 r3 h
  have e3 := (e1.mono r1 t2).mono r2 t3
  cases pk : peek u.2 p.1 with
  | none => rw [pk] at hev; cases hev
  | some d =>
    rw [pk] at hev
    exact cutD_ok (peek_ok r3 e3 pk) hev out
/-! ### small words for the walk -/
theorem hu1 {k : Nat} {A : Around} (hr : Room k A) : A.units + 1 < cLine := by have := hr.un; omega
theorem hu64 {k : Nat} {A : Around} (hr : Room k A) : A.units + 64 < cLine := by have := hr.un; omega
/-- a constant of the module -/
structure ConK (K : PySem.W.Frag) (mg : Str → Option Value) (x : Str) (d : PyData) : Prop where
  ex : ∃ u, mg x = some u ∧ KD K u d
section
variable {X : Cx} {A0 : Ax} {W : WX}
theorem gcon {x : Str} {d : PyData} {pos : Pos} (c : ConK X.K X.mg x d) (hg : Gl X x := by rfl) (hd : (x == ("__debug__" : Str)) = false := by decide) : PE X (.Name x pos) (tE (gc X A0 W) (fC d)) := by
  obtain ⟨u, h1, h2⟩ := c.ex
  exact gglob h1 h2 hg hd
def negD : PyData → Option Ev
  | .int i => some (.val (.int (-i)))
  | _ => none
theorem gx_blk (s : Shared) (H : Hp) (scope : Scope) (cenv : Env) (fp : List Addr) (gx : GX X) : GX (X.blk s H scope cenv fp) := ⟨gx.gd, gx.sys, gx.un⟩
theorem takes0 {Y : Cx} : Takes Y W0 := fun u s' ⟨a, B, sI, pins, σ, H, cls, d, e, I, nb, up, sky, na, os, ag, w⟩ => w.elim
end
/-! ### constants of the module -/
section
variable {K : PySem.W.Frag} {mg : Str → Option Value} {h : Heap} {x : Str}
theorem kd_int {i : Int} {t : Nat} : KD K (.int i t) (.int i) := ⟨.int i, ⟨t, rfl⟩, fun _ _ => .int i⟩
theorem kdAll_ok {us : List Value} {ds : List PyData} (h : Paired (KD K) us ds) : ∃ vs, Vals vs us ∧ ∀ S H, DrAll K S H vs ds := by
  induction h with
  | nil => exact ⟨[], .nil, fun _ _ => .nil⟩
  | cons a _ ih =>
    obtain ⟨v, r, q⟩ := a
    obtain ⟨vs, rs, qs⟩ := ih
    exact ⟨v :: vs, .cons r rs, fun S H => .cons (q S H) (qs S H)⟩
theorem kd_tup {a : Addr} {oc : Option Addr} {its : Array Value} {n : Nat} {sl : Array (Option Value)} {ds : List PyData} (l : K.lookup a = some ⟨.type "tuple", oc, .seq its n, sl⟩) (hz : its.size ≤ sizeLine) (hs : Paired (KD K) its.toList ds) : KD K (.ref a) (.tuple ds) := by
  obtain ⟨vs, rs, qs⟩ := kdAll_ok hs
  exact ⟨.ref a, rfl, fun S H => .tup (.inr ⟨_, its, n, l, rfl, rfl, hz, rs⟩) (qs S H)⟩
theorem conK_mk {u : Value} {d : PyData} (X : K.In h) (G : h.Ns mainGlobals mg) (a : PySem.W.nsIn K mainGlobals x = some (some u)) (k : KD K u d) : ConK K mg x d := ⟨⟨u, PySem.W.mg_of X G a, k⟩⟩
end
/-- the law's def, called with the script -/
theorem binds_at {K : PySem.W.Frag} {mg : Str → Option Value} {dV : Value} {x y : Str} {st : Stmt} {f : Addr} {fd : FuncData} (h : FnK K mg dV x st [y] f fd)
    (hb : ∀ (kV doc pm : Value) (an : Option Addr) (cdv ct u : Value), bindArgs (PySem.W.fnOf x x (defArgs st) (defBody st) (defScope st) dV kV doc pm an cdv ct) ⟨[u], []⟩ = pure [(y, u)]) (s : Shared) (u : Value) : BindsTo s fd ⟨[u], []⟩ [(y, u)] := by
  obtain ⟨oc, od, kV, doc, pm, an, cdv, ct, osl, rfl, _⟩ := h.ex
  exact .of_eq (hb kV doc pm an cdv ct u)
/-! ### defaults -/
/-- the tuple of a def's defaults, data of the module -/
def DflK (K : PySem.W.Frag) (T : Addr) (ds : List PyData) : Prop := ∃ (o : Obj) (its : List Value) (n : Nat), K.lookup T = some o ∧ o.data = .seq its.toArray n ∧ Paired (KD K) its ds
theorem dflK_mk {K : PySem.W.Frag} {mg : Str → Option Value} {T : Addr} {x : Str} {st : Stmt} {ps : List Str} {f : Addr} {fd : FuncData} (h : FnK K mg (.ref T) x st ps f fd) {c : Value} {od : Option Addr} {its : Array Value} {n : Nat} {sl : Array (Option Value)} {ds : List PyData}
    (l : K.lookup T = some ⟨c, od, .seq its n, sl⟩) (hs : Paired (KD K) its.toList ds) : DflK K T ds := ⟨_, its.toList, n, l, by simp, hs⟩
theorem paired_drop {α β : Type} {r : α → β → Prop} : ∀ (j : Nat) {xs : List α} {ys : List β}, Paired r xs ys → Paired r (xs.drop j) (ys.drop j)
  | 0, _, _, h => h
  | _ + 1, _, _, .nil => .nil
  | j + 1, _, _, .cons _ t => paired_drop j t
theorem kdAll_dfl {K : PySem.W.Frag} {us : List Value} {ds : List PyData} (h : Paired (KD K) us ds) : ∃ vs, Vals vs us ∧ Dfl K vs (ds.map B.val) := by
  induction h with
  | nil => exact ⟨[], .nil, .nil⟩
  | cons a _ ih =>
    obtain ⟨v, r, q⟩ := a
    obtain ⟨vs, rs, qs⟩ := ih
    exact ⟨v :: vs, .cons r rs, .cons ⟨_, rfl, q⟩ qs⟩
theorem binds_dfl {K : PySem.W.Frag} {mg : Str → Option Value} {T : Addr} {x : Str} {st : Stmt} {ps : List Str} {f : Addr} {fd : FuncData} {ds : List PyData} (h : FnK K mg (.ref T) x st ps f fd) (e : DflK K T ds) (j : Nat) {n : Nat} (hn : n + (ds.length - j) = ps.length)
    (hb : ∀ (kV doc pm : Value) (an : Option Addr) (cdv ct : Value) (us its : List Value), us.length = n → its.length = ds.length →
      ∃ k, bindArgs (PySem.W.fnOf x x (defArgs st) (defBody st) (defScope st) (.ref T) kV doc pm an cdv ct) ⟨us, []⟩ = seqItems? (.ref T) >>= k ∧ k (some its.toArray) = pure (ps.zip (us ++ its.drop j))) :
    ∃ us vs, Binds K fd ps us ∧ Vals vs us ∧ Dfl K vs ((ds.drop j).map B.val) := by
  obtain ⟨oc, od, kV, doc, pm, an, cdv, ct, osl, rfl, _⟩ := h.ex
  obtain ⟨o, its, m, l, hd, hs⟩ := e
  obtain ⟨vs, rv, dv⟩ := kdAll_dfl (paired_drop j hs)
  refine ⟨its.drop j, vs, fun s us KX hl => ?_, rv, dv⟩
  have hi : its.length = ds.length := hs.length
  have hu : us.length = n := by rw [List.length_append, List.length_drop, hi] at hl; omega
  obtain ⟨k, e1, e2⟩ := hb kV doc pm an cdv ct us its hu hi
  refine BindsTo.of_looks fun M => ?_
  rw [e1]
  exact looks_items KX l hd (PySem.W.Looks.of_pure e2)
theorem called_d {P : Program} {w : World} {K : PySem.W.Frag} {mg : Str → Option Value} {base : Heap} {Γ : Gx} {k : Nat} {dV : Value} {x : Str} {ps : List Str} {F : SE} {st : Stmt} {f : Addr} {fd : FuncData} {dbs : List B} (h : FnK K mg dV x st ps f fd)
    (b : ∃ us vs, Binds K fd ps us ∧ Vals vs us ∧ Dfl K vs dbs) (g : FnG P w K mg base Γ k f fd ps F) : CalledG P w K mg base Γ k x ps F dbs := by
  obtain ⟨us, vs, h1, h2, h3⟩ := b
  exact ⟨⟨f, fd, vs, us, h.at_, h.kp, g, h1, h2, h3⟩⟩
end G
namespace G
open PySem PySem.Spec PyProof.Rows L2
/-! ### t.index(x), data of any depth -/
end G
namespace G
open PySem PySem.Spec PyProof.Rows L2
/-! ### f(k = v, ..): every parameter by its name, in the parameters' order -/
theorem takes_gx {Y : Cx} (_ : GX Y) : Takes Y W0 := G.takes0
/-! ### a, b, c = x, y, z: plain local names, values that are shared -/
def par3S (i j l : Nat) (fs : SA) : SS := fun ρ => (fs ρ).bind fun p => match shrs p.2 p.1 with
  | some ([d1, d2, d3], ρ1) => .ok (.nx (((ρ1.set i (.val d1)).set j (.val d2)).set l (.val d3)))
  | _ => .bad
end G
namespace G
open PySem PySem.Spec PyProof.Rows L2
/-! ### f(k = v, ..): every parameter by its name, in any order: parameter i has the keyword at place π i -/
def permL {α : Type} (π : List Nat) (xs : List α) : List α := π.filterMap (xs[·]?)
def permK (n : Nat) (π : List Nat) : List Ev × List B → Rs (List Ev × List B) := fun p => if p.1.length = n then .ok (permL π p.1, p.2) else .bad
def permA (n : Nat) (π : List Nat) (fa : SA) : SA := fun ρ => (fa ρ).bind (permK n π)
theorem r_permA {n : Nat} {π : List Nat} {fa : SA} {ρ : List B} : permA n π fa ρ = Rs.bind (fa ρ) (permK n π) := id rfl
theorem k_perm1 {e1 : Ev} {ρ : List B} : permK 1 [0] ([e1], ρ) = .ok ([e1], ρ) := id rfl
theorem k_perm2 {e1 e2 : Ev} {ρ : List B} : permK 2 [1, 0] ([e1, e2], ρ) = .ok ([e2, e1], ρ) := id rfl
theorem k_perm3a {e1 e2 e3 : Ev} {ρ : List B} : permK 3 [0, 2, 1] ([e1, e2, e3], ρ) = .ok ([e1, e3, e2], ρ) := id rfl
theorem k_perm3b {e1 e2 e3 : Ev} {ρ : List B} : permK 3 [1, 0, 2] ([e1, e2, e3], ρ) = .ok ([e2, e1, e3], ρ) := id rfl
theorem k_perm3c {e1 e2 e3 : Ev} {ρ : List B} : permK 3 [1, 2, 0] ([e1, e2, e3], ρ) = .ok ([e2, e3, e1], ρ) := id rfl
theorem k_perm3d {e1 e2 e3 : Ev} {ρ : List B} : permK 3 [2, 0, 1] ([e1, e2, e3], ρ) = .ok ([e3, e1, e2], ρ) := id rfl
theorem k_perm3e {e1 e2 e3 : Ev} {ρ : List B} : permK 3 [2, 1, 0] ([e1, e2, e3], ρ) = .ok ([e3, e2, e1], ρ) := id rfl
end G
namespace G
open PySem PySem.Spec PyProof.Rows L2
/-! ### isinstance(e, T), e a caught exception -/
/-! ### xs.count(d), xs.index(d) of a list of data -/
end G
set_option maxHeartbeats 2000000
namespace G
open PySem PySem.Spec PyProof.Rows L2
/-! ### a lambda is made: the tables grow, all else stays -/
def GrowT (H H' : Hp) : Prop := ∀ b o, H b = some o → H' b = some o ∨ (isTb o ∧ ∃ o', isTb o' ∧ H' b = some o')
theorem GrowT.keep {H H' : Hp} (g : GrowT H H') {b : Addr} {o : HO} (h : H b = some o) (n : ¬ isTb o) : H' b = some o := by
  rcases g b o h with q | ⟨q, _⟩
  · exact q
  · exact (n q).elim
theorem GrowT.some {H H' : Hp} (g : GrowT H H') {b : Addr} (h : ∃ o, H b = some o) : ∃ o, H' b = some o := by
  obtain ⟨o, h⟩ := h
  rcases g b o h with q | ⟨_, o', _, q⟩
  · exact ⟨o, q⟩
  · exact ⟨o', q⟩
end G
set_option maxHeartbeats 2000000
namespace G
open PySem PySem.Spec PyProof.Rows L2
/-! ### the lambda is called, by the def that was handed it: the maker's slots are read -/
/-! ### defs that are called while an exception is handled -/
section
variable {P : Program} {w : World} {K : PySem.W.Frag} {mg : Str → Option Value} {base : Heap} {Γ : Gx}
/-- what the frames of an except suite know besides -/
def Gx.hot (Γ : Gx) (a C : Addr) : Gx := { Γ with pa := a, pc := C }
end
end G
set_option maxHeartbeats 2000000
namespace G
open PySem PySem.Spec PyProof.Rows L2
/-! ### said(lambda: e): repr of e, or what the except suite makes of the exception's name -/
def saidH (HS : SS) (n : Str) (ρ1 : List B) : Rs (Ev × List B) := match HS [.un, .exc n, .un] with
  | .ok (.rt (.val (.str m)) _) => .ok (.val (.str m), ρ1)
  | _ => .bad
def saidK (ns : List Str) (HS : SS) : Rs (Ev × List B) → Rs (Ev × List B)
  | .ok (ev, ρ1) => resE ρ1 ((peek ρ1 ev).bind fun d => reprD [d])
  | .ex n ρ1 => if ns.contains n = true then saidH HS n ρ1 else .bad
  | .bad => .bad
def saidE (ns : List Str) (HS : SS) (fe : SE) : SE := fun ρ => saidK ns HS (fe ρ)
/-- what must be known of the def that is handed the lambda -/
structure SaidDef (P : Program) (w : World) (K : PySem.W.Frag) (mg : Str → Option Value) (base : Heap) (Γ : Gx) (k : Nat) (x : Str) (HS : SS) : Prop where
  ex : ∃ (g CG : Addr) (pg : Arguments) (bg : List Stmt) (sg : Scope) (dV kV doc pm cdv ct oc : Value) (an od : Option Addr) (osl : Array (Option Value)) (b0 : Stmt) (suite : List Stmt) (N : List Str) (p1 p2 p3 p4 p5 p6 p7 p8 : Pos),
    mg x = some (.ref g) ∧ PySem.W.keepIn K (.ref g) = true ∧ K.lookup g = some ⟨oc, od, .func (PySem.W.fnOf x x pg bg sg dV kV doc pm an cdv ct), osl⟩ ∧ PySem.W.codeIn K cdv x = true ∧ Binds K (PySem.W.fnOf x x pg bg sg dV kV doc pm an cdv ct) ["_law_call"] [] ∧
    FnScope N ["_law_call"] sg ∧ N = (["_law_call", "_law_error", "_law_name"] : List Str) ∧ Vis sg "_law_call" ∧ sg.names.lookup ("_law_error" : Str) = some NameKind.local ∧ sg.names.lookup ("GridsymError" : Str) = some NameKind.globalImplicit ∧ sg.names.lookup ("repr" : Str) = some NameKind.globalImplicit ∧
    bg = [.Try [.Return (some (.Call (.Name "repr" p1) [.Call (.Name "_law_call" p2) [] [] p3] [] p4)) p5] [.ExceptHandler (some (.Name "GridsymError" p6)) (some "_law_error") (b0 :: suite) p7] [] [] p8] ∧
    mg "GridsymError" = some (.ref CG) ∧ mg "repr" = none ∧ (∀ q ∈ Γ.es, PySem.W.exmOne K (.ref q.2) (.ref CG) = some true) ∧
    ∀ (A : Around) (outer : List Env) (s : Shared) (H : Hp) (a C : Addr) (oe : Obj) (pn : List (Addr × Obj)), Room k (cxOf C8.CX0 P w K mg base N x sg g cdv A outer s H C8.E0).A → GX (cxOf C8.CX0 P w K mg base N x sg g cdv A outer s H C8.E0) → Zc (.ref C) none oe → (∃ vs, oe.data = .fields vs) →
      PSs ((cxOf C8.CX0 P w K mg base N x sg g cdv A outer s H C8.E0).suite a ((a, oe) :: pn)) (b0 :: suite) (tSt ⟨K, mg, ⟨fun _ => none, Γ.hot a C⟩, W0⟩ HS)
/-- what must be known of the def that makes lambdas -/
structure Maker (K : PySem.W.Frag) (mg : Str → Option Value) (base : Heap) (Γ : Gx) (f : Addr) (q : Str) : Prop where
  ex : ∃ (c P : Addr), CodeAt K f (.ref c) ∧ LamX.TabB base mg c P ∧ (P, q) ∈ Γ.T ∧ ∀ p ∈ Γ.T, p.1 = P → p.2 = q
theorem Maker.code {K : PySem.W.Frag} {mg : Str → Option Value} {base : Heap} {Γ : Gx} {f : Addr} {q : Str} {cdv : Value} (m : Maker K mg base Γ f q) (h : CodeAt K f cdv) : ∃ (c P : Addr), cdv = .ref c ∧ LamX.TabB base mg c P ∧ (P, q) ∈ Γ.T ∧ ∀ p ∈ Γ.T, p.1 = P → p.2 = q := by
  obtain ⟨c, P, ⟨oc, od, fd, osl, e1, e2⟩, r⟩ := m.ex
  obtain ⟨oc', od', fd', osl', e3, e4⟩ := h
  rw [e1] at e3
  cases e3
  exact ⟨c, P, by rw [← e4, e2], r⟩
end G
set_option maxHeartbeats 2000000
namespace G
open PySem PySem.Spec PyProof.Rows L2
theorem SaidDef.mono {P : Program} {w : World} {K : PySem.W.Frag} {mg : Str → Option Value} {base : Heap} {Γ : Gx} {j k : Nat} {x : Str} {HS : SS} (d : SaidDef P w K mg base Γ j x HS) (h : j ≤ k) : SaidDef P w K mg base Γ k x HS := by
  obtain ⟨g, CG, pg, bg, sg, dV, kV, doc, pm, cg, ct, oc, an, od, osl, b0, suite, N, p1, p2, p3, p4, p5, p6, p7, p8, q1, q2, q3, q4, q5, q6, q7, q8, q9, q10, q11, q12, q13, q14, q15, q16⟩ := d.ex
  exact ⟨g, CG, pg, bg, sg, dV, kV, doc, pm, cg, ct, oc, an, od, osl, b0, suite, N, p1, p2, p3, p4, p5, p6, p7, p8, q1, q2, q3, q4, q5, q6, q7, q8, q9, q10, q11, q12, q13, q14, q15, fun A outer s H a C oe pn hr => q16 A outer s H a C oe pn (hr.mono h)⟩
/-! ### the end: tables, classes -/
end G
/-! a, b, .. = x, y, ..: new lists and dicts stay the frame's own -/
namespace G
open PySem PySem.Spec PyProof.Rows L2
def evN : List SE → List B → Rs (List Ev × List B)
  | [], ρ => .ok ([], ρ)
  | f :: fs, ρ => (f ρ).bind fun p => (evN fs p.2).bind fun q => .ok (p.1 :: q.1, q.2)
def resN : List B → List Ev → Option (List Ev × List B)
  | ρ, [] => some ([], ρ)
  | ρ, e :: es => (resv ρ e).bind fun p => (resN p.2 es).map fun q => (p.1 :: q.1, q.2)
def bindN : List Nat → List Ev → List B → Rs (List B)
  | [], [], ρ => .ok ρ
  | i :: is, e :: es, ρ => (bindV i e ρ).bind fun ρ' => bindN is es ρ'
  | _, _, _ => .bad
def setN : List Nat → List V → St → St
  | i :: is, v :: vs, σ => setN is vs (σ.set i (some v))
  | _, _, σ => σ
def parN (is : List Nat) (fs : List SE) : SS := fun ρ => (evN fs ρ).bind fun p => match resN p.2 p.1 with
  | some (es, ρ1) => (bindN is es ρ1).bind fun ρ' => .ok (.nx ρ')
  | none => .bad
def isFr : Ev → Prop := fun e => ∃ d, e = .fr d
def DisF : List V → List Ev → Prop
  | v :: vs, e :: es => (isFr e → ∀ (i : Nat) (e' : Ev), vs[i]? = some v → es[i]? = some e' → ¬ isFr e') ∧ DisF vs es
  | _, _ => True
def hA (g : Gc) : List SE → TA
  | [] => tNil
  | f :: fs => tCons (tE g f) (hA g fs)
section
variable {g : Gc} {K : PySem.W.Frag} {A0 : Ax}
theorem Paired.get2 {α β : Type} {R : α → β → Prop} : ∀ {xs : List α} {ys : List β} {i : Nat} {x : α} {y : β}, Paired R xs ys → xs[i]? = some x → ys[i]? = some y → R x y
  | _, _, i, _, _, .nil, h, _ => by simp at h
  | _, _, 0, _, _, .cons a t, h, h' => by simp at h h'; subst h; subst h'; exact a
  | _, _, i + 1, _, _, .cons a t, h, h' => Paired.get2 (i := i) t (by simpa using h) (by simpa using h')
theorem hA_run : ∀ {fs : List SE} {S : Addr → Prop} {H : Hp} {σ : St} {ρ : List B} {R : List V → Hp → Prop} {α : Type} {k : List Ev × List B → Rs α} {P : Rs α → Prop},
    (∀ n ρ', P (.ex n ρ') → ∀ S' H', Tr S H (Ow σ ρ) S' H' (Ow σ ρ') → Rp g.K g.A0 S' H' σ ρ' → g.wx n σ H') → ¬ P .bad →
    Rp g.K g.A0 S H σ ρ → P ((evN fs ρ).bind k) →
    (∀ p S' H' vs, Tr S H (Ow σ ρ) S' H' (Ow σ p.2) → Rp g.K g.A0 S' H' σ p.2 → Paired (RE g.K g.A0 H S' H' σ p.2) vs p.1 → DisF vs p.1 → P (k p) → R vs H') → hA g fs σ H R
  | [], S, H, σ, ρ, R, α, k, P, hex, hbad, r, h, hk => hk ([], ρ) S H [] Tr.refl r .nil trivial h
  | f :: fs, S, H, σ, ρ, R, α, k, P, hex, hbad, r, h, hk => by
    show (tE g f) σ H fun v H1 => (hA g fs) σ H1 fun vs H2 => R (v :: vs) H2
    have h' : P ((f ρ).bind fun p => (evN fs p.2).bind fun q => k (p.1 :: q.1, q.2)) := by
      have : ((evN (f :: fs) ρ).bind k) = ((f ρ).bind fun p => (evN fs p.2).bind fun q => k (p.1 :: q.1, q.2)) := by
        show (((f ρ).bind fun p => (evN fs p.2).bind fun q => .ok (p.1 :: q.1, q.2)).bind k) = _
        cases f ρ with
        | ok p => show (((evN fs p.2).bind fun q => .ok (p.1 :: q.1, q.2)).bind k) = ((evN fs p.2).bind fun q => k (p.1 :: q.1, q.2)); cases evN fs p.2 <;> rfl
        | ex n ρ' => rfl
        | bad => rfl
      rw [← this]
      exact h
    refine tE_bind (P := P) hex hbad r h' fun p S1 H1 v1 t1 r1 e1 h1 => ?_
    refine hA_run (P := P) (k := fun q => k (p.1 :: q.1, q.2)) (fun n ρ' z S' H' t r' => hex n ρ' z S' H' (t1.trans t) r') hbad r1 h1 fun q S2 H2 vs t2 r2 e2 d2 h2 => ?_
    have e1' := e1.mono r1 t2
    refine hk (p.1 :: q.1, q.2) S2 H2 (v1 :: vs) (t1.trans t2) r2 (.cons e1' (Paired.mapP e2 fun v e z => z.back fun a q => t1.fresh q)) ⟨?_, d2⟩ h2
    rintro ⟨d, ed⟩ i e' hi he ⟨d', rfl⟩
    rw [ed] at e1
    obtain ⟨a, rfl, _, _, _, o, ha, _⟩ := e1
    obtain ⟨a', e3, h0, _⟩ := Paired.get2 e2 hi he
    cases e3
    rw [h0.1] at ha
    cases ha
theorem resN_ok {S0 : Addr → Prop} {H0 HR : Hp} {σ : St} {O0 : Addr → Prop} : ∀ {vs : List V} {es es' : List Ev} {S : Addr → Prop} {H : Hp} {ρ ρ' : List B}, Tr S0 H0 O0 S H (Ow σ ρ) → Rp K A0 S H σ ρ → Paired (RE K A0 HR S H σ ρ) vs es → DisF vs es → resN ρ es = some (es', ρ') →
    ∃ S', Tr S0 H0 O0 S' H (Ow σ ρ') ∧ Rp K A0 S' H σ ρ' ∧ Paired (RE K A0 HR S' H σ ρ') vs es' ∧ DisF vs es' ∧ (∀ e ∈ es', ∀ i, e ≠ .sl i) ∧ Tr S H (Ow σ ρ) S' H (Ow σ ρ') ∧ (∀ (i : Nat) (e' : Ev), es'[i]? = some e' → isFr e' → es[i]? = some e')
  | _, _, es', S, H, ρ, ρ', t, r, .nil, d, q => by
    cases q
    exact ⟨S, t, r, .nil, trivial, (fun e he => by cases he), Tr.refl, fun i e' h => by simp at h⟩
  | _, _, es', S, H, ρ, ρ', t, r, .cons (a := v) (b := e) (l₁ := vs) (l₂ := es) h1 hs, d, q => by
    unfold resN at q
    cases q1 : resv ρ e with
    | none => rw [q1] at q; cases q
    | some p =>
      obtain ⟨e1, ρ1⟩ := p
      rw [q1] at q
      cases q2 : resN ρ1 es with
      | none => simp only [Option.bind, q2, Option.map_none, reduceCtorEq] at q
      | some p2 =>
        obtain ⟨es1, ρ2⟩ := p2
        simp only [Option.bind, q2, Option.map_some, Option.some.injEq, Prod.mk.injEq] at q
        obtain ⟨rfl, rfl⟩ := q
        obtain ⟨S1, t1, r1, g1, n1, u1⟩ := resv_ok t r h1 q1
        obtain ⟨S2, t2, r2, g2, d2, n2, u2, w2⟩ := resN_ok t1 r1 (Paired.mapP hs fun v e z => z.mono r u1) d.2 q2
        refine ⟨S2, t2, r2, .cons (g1.mono r1 u2) g2, ⟨fun hf i e' hv he hf' => ?_, d2⟩, fun e he => ?_, u1.trans u2, fun i e' h hf => ?_⟩
        · have : isFr e := by
            obtain ⟨dd, rfl⟩ := hf
            cases e with
            | fr d3 => exact ⟨d3, rfl⟩
            | val d3 => cases q1
            | sl k =>
              unfold resv at q1
              cases e7 : shr ρ (.sl k) with
              | none => simp only [e7, Option.map_none, reduceCtorEq] at q1
              | some pp => simp only [e7, Option.map_some, Option.some.injEq, Prod.mk.injEq, reduceCtorEq, false_and] at q1
          exact d.1 this i e' hv (w2 i e' he hf') hf'
        · rcases List.mem_cons.mp he with rfl | he
          · exact n1
          · exact n2 e he
        · cases i with
          | zero =>
            simp at h
            subst h
            obtain ⟨dd, rfl⟩ := hf
            have : e = .fr dd := by
              cases e with
              | fr d3 => cases q1; rfl
              | val d3 => cases q1
              | sl k =>
                unfold resv at q1
                cases e7 : shr ρ (.sl k) with
                | none => simp only [e7, Option.map_none, reduceCtorEq] at q1
                | some pp => simp only [e7, Option.map_some, Option.some.injEq, Prod.mk.injEq, reduceCtorEq, false_and] at q1
            subst this
            rfl
          | succ i => simpa using w2 i e' (by simpa using h) hf
theorem setAll {S : Addr → Prop} {H HR : Hp} : ∀ {is : List Nat} {vs : List V} {es : List Ev} {σ : St} {ρ ρ' : List B}, Rp K A0 S H σ ρ → Paired (RE K A0 HR S H σ ρ) vs es → DisF vs es → (∀ e ∈ es, ∀ i, e ≠ .sl i) → bindN is es ρ = .ok ρ' →
    Rp K A0 S H (setN is vs σ) ρ' ∧ is.length = vs.length ∧ ∀ c, Ow (setN is vs σ) ρ' c → Ow σ ρ c ∨ HR c = none
  | [], _, _, σ, ρ, ρ', r, .nil, d, n, q => by cases q; exact ⟨r, rfl, fun c h => .inl h⟩
  | _ :: _, _, _, σ, ρ, ρ', r, .nil, d, n, q => by cases q
  | [], _, _, σ, ρ, ρ', r, .cons _ _, d, n, q => by cases q
  | i :: is, _, _, σ, ρ, ρ', r, .cons (a := v) (b := e) (l₁ := vs) (l₂ := es) h1 hs, d, n, q => by
    have key : ∃ ρ1, bindV i e ρ = .ok ρ1 ∧ bindN is es ρ1 = .ok ρ' := by
      unfold bindN at q
      cases hb : bindV i e ρ with
      | ok ρ1 => rw [hb] at q; exact ⟨ρ1, rfl, q⟩
      | ex n r => rw [hb] at q; cases q
      | bad => rw [hb] at q; cases q
    obtain ⟨ρ1, b1, q'⟩ := key
    have st : Rp K A0 S H (σ.set i (some v)) ρ1 ∧ ∀ c, Ow (σ.set i (some v)) ρ1 c → Ow σ ρ c ∨ (isFr e ∧ v = .ref c ∧ HR c = none) := by
      cases e with
      | sl k => exact (n _ (List.mem_cons_self ..) k rfl).elim
      | val dd =>
        cases b1
        obtain ⟨r5, s⟩ := r.setVal (i := i) h1
        exact ⟨r5, fun c z => .inl (s c z)⟩
      | fr dd =>
        cases b1
        obtain ⟨c, rfl, h0, hs', ho, hc⟩ := h1
        obtain ⟨r5, s⟩ := r.setOwn (i := i) hs' ho h0.2 hc
        refine ⟨r5, fun b z => ?_⟩
        rcases s b z with z | rfl
        · exact .inl z
        · exact .inr ⟨⟨dd, rfl⟩, rfl, h0.1⟩
    obtain ⟨r1, s1⟩ := st
    have hs1 : Paired (RE K A0 HR S H (σ.set i (some v)) ρ1) vs es := by
      have : ∀ (j : Nat) (u : V) (e' : Ev), vs[j]? = some u → es[j]? = some e' → RE K A0 HR S H σ ρ u e' → RE K A0 HR S H (σ.set i (some v)) ρ1 u e' := by
        intro j u e' hu he h
        refine h.setOther (n e' (List.mem_cons_of_mem _ (List.mem_of_getElem? he))) fun a ea ⟨dd, ed⟩ z => ?_
        subst ed
        subst ea
        obtain ⟨c', e3, h0, _, ho, _⟩ := h
        cases e3
        rcases s1 _ z with z | ⟨hf, z, _⟩
        · exact ho z
        · subst z
          exact d.1 hf j _ hu he ⟨dd, rfl⟩
      have aux : ∀ {vs : List V} {es : List Ev}, Paired (RE K A0 HR S H σ ρ) vs es → (∀ (j : Nat) (u : V) (e' : Ev), vs[j]? = some u → es[j]? = some e' → RE K A0 HR S H σ ρ u e' → RE K A0 HR S H (σ.set i (some v)) ρ1 u e') → Paired (RE K A0 HR S H (σ.set i (some v)) ρ1) vs es := by
        intro vs es h
        induction h with
        | nil => intro _; exact .nil
        | cons a t ih => intro w; exact .cons (w 0 _ _ rfl rfl a) (ih fun j u e' hu he => w (j + 1) u e' (by simpa using hu) (by simpa using he))
      exact aux hs this
    obtain ⟨r2, hl, s2⟩ := setAll r1 hs1 d.2 (fun e he => n e (List.mem_cons_of_mem _ he)) q'
    refine ⟨r2, by simp [hl], fun c z => ?_⟩
    rcases s2 c z with z | z
    · rcases s1 c z with z | ⟨_, _, z⟩
      · exact .inl z
      · exact .inr z
    · exact .inr z
/-- the whole: values, then the stores -/
theorem par_core {is : List Nat} {fs : List SE} {D : Ends} {σ : St} {H : Hp} (h : tSt g (parN is fs) D σ H) : hA g fs σ H fun vs H1 => is.length = vs.length ∧ ∀ H2, L2.Same H1 H2 → D.nx (setN is vs σ) H2 := by
  obtain ⟨S, ρ, r, h⟩ := h
  refine hA_run (P := fun z => PostS g S H σ ρ z D) exS PostS.bad r h fun p S1 H1 vs t1 r1 e1 d1 h => ?_
  cases q : resN p.2 p.1 with
  | none => rw [q] at h; exact h.elim
  | some pr =>
    obtain ⟨es, ρ1⟩ := pr
    rw [q] at h
    simp only at h
    obtain ⟨S2, t2, r2, e2, d2, n2, u2, _⟩ := resN_ok t1 r1 e1 d1 q
    cases hb : bindN is es ρ1 with
    | bad => rw [hb] at h; exact h.elim
    | ex n ρ' => rw [hb] at h; exact (by
        have : ∀ (is : List Nat) (es : List Ev) (ρ : List B), bindN is es ρ ≠ .ex n ρ' := by
          intro is
          induction is with
          | nil => intro es ρ; cases es <;> exact nofun
          | cons i is ih =>
            intro es ρ
            cases es with
            | nil => exact nofun
            | cons e es =>
              unfold bindN
              cases e with
              | val d => exact ih _ _
              | fr d => exact ih _ _
              | sl j =>
                unfold bindV
                dsimp only
                cases shr ρ (.sl j) with
                | none => exact nofun
                | some p => exact ih _ _
        exact (this _ _ _ hb).elim)
    | ok ρ2 =>
      rw [hb] at h
      obtain ⟨r3, hl, s3⟩ := setAll r2 e2 d2 n2 hb
      refine ⟨hl, fun H2 s => ?_⟩
      refine h S2 H2 _ ((⟨t2.s, t2.keep, t2.dom, fun c z => ?_, t2.g⟩ : Tr S H (Ow σ ρ) S2 H1 (Ow (setN is vs σ) ρ2)).same s) (r3.same s)
      rcases s3 c z with z | z
      · exact t2.o c z
      · exact .inr z
end
section
variable {X : Cx} {A0 : Ax} {W : WX}
def gNames : List Nat → TGs
  | [] => gNil
  | i :: is => gCons (gName i) (gNames is)
theorem gNames_ok {is : List Nat} : ∀ {vs : List V} {σ : St} {H : Hp} {Q : St → Hp → Prop}, is.length = vs.length → Q (setN is vs σ) H → gNames is vs σ H Q := by
  induction is with
  | nil => intro vs σ H Q hl h; cases vs with
    | nil => exact ⟨rfl, h⟩
    | cons v vs => cases hl
  | cons i is ih => intro vs σ H Q hl h; cases vs with
    | nil => cases hl
    | cons v vs => exact ⟨v, vs, rfl, ih (by simpa using hl) h⟩
/-- the tuple is built, then taken apart -/
theorem gs_parT {is : List Nat} {fs : List SE} {ts es : List Expr} {kt k2 : Nat} {pt pt2 pos : Pos} (n : Nat) (hc : X.calm = true) (hp : PA X es (hA (gc X A0 W) fs)) (ht : PGs X ts (gNames is)) (hn1 : is.length = n := by rfl)
    (hn : (assignEach ts X.env).length = n := by rfl) (hst : (assignEach ts X.env).findIdx? (·.1) = none := by rfl)
    (hs : swapsWithSole [.Tuple ts kt pt] (.Tuple es k2 pt2) pos.line X.env = pure false := by rfl) (hw : swappedStores [.Tuple ts kt pt] (.Tuple es k2 pt2) X.env = pure none := by rfl)
    (h1 : (assignEach [.Tuple ts kt pt] X.env).map (·.2) = [assign (.Tuple ts kt pt) X.env] := by rfl) (hz : n ≤ 1000 := by decide) : PS X (.Assign [.Tuple ts kt pt] (.Tuple es k2 pt2) pos) (tSt (gc X A0 W) (parN is fs)) := by
  refine PS_imp (ps_asg (pe_tup hp) (pg_tup hc ht hn hst) hs hw h1) ?_
  intro D σ H h
  have h := par_core h
  have mono : ∀ {fs : List SE} {σ : St} {H : Hp} {R R' : List V → Hp → Prop}, (∀ vs H, R vs H → R' vs H) → hA (gc X A0 W) fs σ H R → hA (gc X A0 W) fs σ H R' := by
    intro fs
    induction fs with
    | nil => intro σ H R R' w h; exact w _ _ h
    | cons f fs ih =>
      intro σ H R R' w h
      obtain ⟨S, ρ, r, h⟩ := (show (tE (gc X A0 W) f) σ H fun v H1 => (hA (gc X A0 W) fs) σ H1 fun vs H2 => R (v :: vs) H2 from h)
      refine ⟨S, ρ, r, ?_⟩
      cases e : f ρ with
      | ok p => rw [e] at h; exact fun S' H' v t r' q => ih (fun vs H => w _ _) (h S' H' v t r' q)
      | ex n ρ' => rw [e] at h; exact h
      | bad => rw [e] at h; exact h
  refine mono ?_ h
  intro vs H1 ⟨hl, q⟩
  refine ⟨Nat.le_trans (show vs.length ≤ 1000 by omega) (by decide), fun p hp => ⟨p, vs, rfl, .inl (.inl (by unfold upd; simp)), by omega, gNames_ok hl (q _ fun a o ha => ?_)⟩⟩
  unfold upd
  split
  · rename_i e
    subst e
    rw [hp] at ha
    cases ha
  · exact ha
/-- one name of such a target -/
theorem gn_nil : PGs X [] (gNames []) := pgs_nil
theorem gn_cons (i : Nat) {is : List Nat} {x : Str} {es : List Expr} {pos : Pos} (hN : X.N.Nodup) (h2 : PGs X es (gNames is)) (hi : X.N[i]? = some x := by rfl) (hx : Loc X.env.scope x := by first | exact Or.inl rfl | exact Or.inr rfl)
    (hf : X.fn x = true ∨ X.env.scope.names.lookup x = some .local := by first | exact .inl rfl | exact .inr rfl | assumption)
    (hs : (assignEach (.Name x pos :: es) X.env).map (·.2) = assign (.Name x pos) X.env :: (assignEach es X.env).map (·.2) := by rfl) : PGs X (.Name x pos :: es) (gNames (i :: is)) := pgs_cons (pg_name hN hi hx hf) h2 hs
theorem ga_nil : PA X [] (hA (gc X A0 W) []) := pa_nil
theorem ga_cons {e : Expr} {es : List Expr} {f : SE} {fs : List SE} (h : PE X e (tE (gc X A0 W) f)) (h2 : PA X es (hA (gc X A0 W) fs)) (hs : starEach (e :: es) X.env = (false, eval e X.env) :: starEach es X.env := by rfl) : PA X (e :: es) (hA (gc X A0 W) (f :: fs)) := pa_cons h h2 hs
end
/-! ### [..] * k, of a new list -/
def repR (ρ : List B) : Ev → Option PyData → Rs (Ev × List B)
  | .fr (.list ds), some (.int k) => if ds.length ≤ 1000 ∧ k < 10000 ∧ -10000 < k then .ok (.fr (.list (List.replicate k.toNat ds).flatten), ρ) else .bad
  | _, _ => .bad
def repE (fa fb : SE) : SE := fun ρ => (fa ρ).bind fun p => (fb p.2).bind fun q => repR q.2 p.1 (peek q.2 q.1)
/-! ### a list or a tuple walked -/
def iAny (K : PySem.W.Frag) (tl : TE) : TI := fun σ H R => tl σ H fun v H1 => ∃ a, v = .ref a ∧ (((∃ xs, SqL K H1 a xs) ∧ R (Itl K a) H1) ∨ ((∃ xs, SqT K H1 a xs) ∧ R (Itt K a) H1))
theorem pi_any {X : Cx} {tg l : Expr} {tl : TE} (hl : PE X l tl) : PI X tg l (iAny X.K tl) := by
  refine ⟨fun pins s σ H R I h => ?_⟩
  refine thn (hl.run pins s σ H _ I h) fun v s1 ⟨x, H1, I1, r1, q1⟩ => ?_
  obtain ⟨a, e, q⟩ := q1
  subst e
  cases r1
  rcases q with ⟨⟨xs, hq⟩, q⟩ | ⟨⟨xs, hq⟩, q⟩
  · obtain ⟨its, rv, p, hz⟩ := I1.list hq
    refine wpAny_pyIter_list p.isList ?_
    refine ⟨s1.heap.objs.size, [s1.heap.objs.size], _, _, H1, rfl, I1.kept (t' := s1.toks) fun b o e => Heap.get?_push_of_some _ e, turn_list a _, ⟨_, Heap.get?_push_size _ rfl, rfl, rfl⟩, fun b hb => ?_, q⟩
    have e : b = s1.heap.objs.size := by simpa using hb
    subst e
    exact I1.fpOk (Nat.le_refl _) (I1.hok.fresh (Nat.le_refl _))
  · obtain ⟨its, rv, p, hz⟩ := I1.tuple hq
    refine wpAny_pyIter_tuple (show s1.heap.IsTuple a its.toArray from p) ?_
    refine ⟨s1.heap.objs.size, [s1.heap.objs.size], _, _, H1, rfl, I1.kept (t' := s1.toks) fun b o e => Heap.get?_push_of_some _ e, turn_tuple a _, ⟨_, Heap.get?_push_size _ rfl, rfl, rfl⟩, fun b hb => ?_, q⟩
    have e : b = s1.heap.objs.size := by simpa using hb
    subst e
    exact I1.fpOk (Nat.le_refl _) (I1.hok.fresh (Nat.le_refl _))
def bothK : PyData → Option (List PyData)
  | .list ds => some ds
  | .tuple ds => some ds
  | _ => none
theorem gi_any {X : Cx} {A0 : Ax} {W : WX} {tg l : Expr} {fe : SE} (hl : PE X l (tE (gc X A0 W) fe)) : PI X tg l (tI (gc X A0 W) (seqI bothK fe)) := PI_imp (pi_any hl) fun σ H R h => seqI_bind h fun S' H' v d ds hd hk q => by
  cases d with
  | list ds' => cases hk; obtain ⟨a, rfl, hx, ok⟩ := itl_ok hd; exact ⟨a, rfl, .inl ⟨hx, q _ ok⟩⟩
  | tuple ds' => cases hk; obtain ⟨a, rfl, hx, ok⟩ := itt_ok hd; exact ⟨a, rfl, .inr ⟨hx, q _ ok⟩⟩
  | _ => cases hk
end G
/-! dicts: in, display, stores, walks -/
namespace G
open PySem PySem.Spec PyProof.Rows L2
/-! ### in -/
def inG : PyData → PyData → Option Ev := fun x y => match y with
  | .dict kvs => (keyOf x).bind fun q => if keyed kvs = true then some (.val (.bool (dget kvs q).isSome)) else none
  | _ => inD x y
def ninG : PyData → PyData → Option Ev := fun x y => match y with
  | .dict kvs => (keyOf x).bind fun q => if keyed kvs = true then some (.val (.bool (!(dget kvs q).isSome))) else none
  | _ => ninD x y
/-! ### the walks: values, items; the dict is locked from then on -/
def valsK : PyData → Option (List PyData)
  | .dict kvs => if keyed kvs = true then some (kvs.map (·.2)) else none
  | _ => none
def itemsK : PyData → Option (List PyData)
  | .dict kvs => if keyed kvs = true then some (kvs.map fun p => .tuple [p.1, p.2]) else none
  | _ => none
/-! ### {k: v, ..} -/
def flatA : List (SE × SE) → SA
  | [] => aNil
  | (k, v) :: r => aCons k (aCons v (flatA r))
def pairsD : List PyData → Option (List (Key × PyData))
  | [] => some []
  | k :: v :: r => (keyOf k).bind fun q => (pairsD r).map fun m => (q, v) :: m
  | _ => none
def mergeD : List (PyData × PyData) → List (Key × PyData) → List (PyData × PyData)
  | acc, [] => acc
  | acc, (q, d) :: r => mergeD (dput acc q d) r
def dicE (prs : List (SE × SE)) : SE := fun ρ => (flatA prs ρ).bind fun p => match shrs p.2 p.1 with
  | some (ds, ρ') => (match pairsD ds with
    | some m => if m.length ≤ 15 then .ok (.fr (.dict (mergeD [] m)), ρ') else .bad
    | none => .bad)
  | none => .bad
section
variable {X : Cx} {A0 : Ax} {W : WX}
/-- {} -/
def dic0E : SE := fun ρ => .ok (.fr (.dict []), ρ)
end
end G
/-! sorted: tuples of ints of one length, any number of them -/
namespace G
open PySem PySem.Spec PyProof.Rows L2
/-! ### the one sorted list -/
/-! ### the rule -/
/-! ### by data -/
end G
namespace G
open PySem PySem.Spec PyProof.Rows L2
/-! ### enumerate(list), enumerate(tuple) -/
set_option maxHeartbeats 1000000 in
theorem meets_enumB {v : Value} {o : Obj} {H : Heap → Prop} (B : Begins v o H) :
    Meets (Builtin.«enumerate.__new__» ⟨[.type "enumerate", v], []⟩) (fun _ R s => H s.heap ∧
      R (.ok (.ret (.ref (s.heap.push o).objs.size))) { s with heap := (s.heap.push o).push { cls := .type "enumerate", data := .fields #[.none, .bool false, .ref s.heap.objs.size, rawInt 0, .none, .none] } }) :=
  .of_wp fun prog w A R s h => by
    obtain ⟨hp, g, d, tk, os⟩ := s; obtain ⟨h1, h⟩ := h
    have hsub := sub_enumerate
    have q1 : ∀ {A' : Around} {E : Value → Shared → Prop} {Q : Value → Shared → Prop}, Q (.ref hp.objs.size) ⟨hp.push o, g, d, tk, os⟩ → wpAny (model prog w) A' (pyIter v) Q E ⟨hp, g, d, tk, os⟩ :=
      fun q => B.iter prog w _ _ ⟨hp, g, d, tk, os⟩ _ h1 q
    wp_walk using q1
    refine wpAny_stack_any fun st => wpAny_pure ?_
    split
    · rename_i c _ _ _ _ _
      cases (c == Value.type "enumerate")
      · wp_walk using q1
        exact ⟨_, rfl, h⟩
      · wp_walk using q1
        exact ⟨_, rfl, h⟩
    · wp_walk using q1
      exact ⟨_, rfl, h⟩
theorem call_enumB {prog : Program} {w : World} {A : Around} {E : Value → Shared → Prop} {s : Shared} {v : Value} {o : Obj} {H : Heap → Prop} {Q : Value → Shared → Prop} (B : Begins v o H) (h1 : H s.heap)
    (h : ∀ h', IsEnum h' (s.heap.objs.size + 1) s.heap.objs.size 0 .none → h'.get? s.heap.objs.size = some o → h'.objs.size = s.heap.objs.size + 2 →
      (∀ b o, s.heap.get? b = some o → h'.get? b = some o) → Q (.ref (s.heap.objs.size + 1)) { s with heap := h' }) :
    wpAny (model prog w) A (call (.type "enumerate") [v]) Q E s := by
  refine callType_new F.called_enumerate (by decide) (F.typeCall_enumerate_1 _) (F.newCall_enumerate_1 _) (fun obj => F.args_object_init_2 obj _) F.entry_enumerate_new
    (meets_enumB B) ⟨h1, ?_⟩
  have hz : (s.heap.push o).objs.size = s.heap.objs.size + 1 := Heap.size_push ..
  show _ ∧ _
  rw [hz]
  have he : IsEnum ((s.heap.push o).push { cls := .type "enumerate", data := .fields #[.none, .bool false, .ref s.heap.objs.size, rawInt 0, .none, .none] }) (s.heap.objs.size + 1) s.heap.objs.size 0 .none := by
    have := Heap.get?_push_size (s.heap.push o) (o := { cls := .type "enumerate", data := .fields #[.none, .bool false, .ref s.heap.objs.size, rawInt 0, .none, .none] }) rfl
    rw [hz] at this; exact this
  refine ⟨⟨_, he, rfl⟩, h _ he (Heap.get?_push_of_some _ (Heap.get?_push_size _ B.free)) (by rw [Heap.size_push, hz]) fun b o x => Heap.get?_push_of_some _ (Heap.get?_push_of_some _ x)⟩
/-- the tuple at a, each item in a new pair -/
def Iten (K : PySem.W.Frag) (a : Addr) : It :=
  ⟨fun i H => ∃ (xs : List V) (x : V), SqT K H a xs ∧ xs[i]? = some x, fun i H v H' => ∃ T x, v = .ref T ∧ H T = none ∧ H' = upd H T (.tup [.int (i : Nat), x]) ∧ ∀ xs, SqT K H a xs → xs[i]? = some x, fun i H => ∃ xs : List V, SqT K H a xs ∧ xs.length ≤ i⟩
theorem turn_enumT {P : Program} {w : World} {K : PySem.W.Frag} {elts : List Expr} {kk : Nat} {tpos : Pos} (a e it : Addr) :
    Turn P w K (.Tuple elts kk tpos) (Iten K a) [e, it] e (fun i h => (∃ old, IsEnum h e it ((i : Nat) : Int) old) ∧ h.IsTupleIter it a i ∧ e ≠ it) where
  mem := by simp
  obj := fun i h st b hb => by
    obtain ⟨⟨old, he⟩, ⟨o, ho, hc, hd⟩, _⟩ := st
    have e' : b = e ∨ b = it := by simpa using hb
    rcases e' with z | z
    · rw [z]; exact ⟨_, he, fun v q => nomatch q⟩
    · rw [z]; exact ⟨o, ho, fun v q => by rw [hd] at q; cases q⟩
  keep := fun i h h' st k => let ⟨⟨old, he⟩, hi, hne⟩ := st; ⟨⟨old, k e (by simp) _ he⟩, hi.at fun o q => k it (by simp) o q, hne⟩
  item := by
    intro X hP hw hK hc i pins s σ H E I hf st hg
    subst hP hw hK
    obtain ⟨⟨old, he⟩, hit, hne⟩ := st
    obtain ⟨xs, x, hq, hx⟩ := hg
    obtain ⟨its, rv, p, hz⟩ := I.tuple hq
    obtain ⟨u, hu, ru⟩ := rv.get hx
    have hel : e < s.heap.objs.size := Heap.lt_size he
    have hil : it < s.heap.objs.size := by obtain ⟨_, q, _⟩ := hit; exact Heap.lt_size q
    have pt : s.heap.IsTuple a its.toArray := p
    have hai : a ≠ it := fun z => by
      subst z
      obtain ⟨o1, q1, c1, _⟩ := pt
      obtain ⟨o2, q2, c2, _⟩ := hit
      rw [q1] at q2; cases q2; rw [c1] at c2; simp at c2
    have hea : e ≠ a := fun z => by
      subst z
      obtain ⟨o1, q1, c1, _⟩ := pt
      have he' := he
      unfold IsEnum at he'
      rw [q1] at he'; cases he'; simp at c1
    have D := Draws.tuple (prog := X.prog) (w := X.w) (A := X.A.in1) (show X.A.in1.handled = none from I.ok.hd hc) it a hai its.toArray
    have hlt : i < its.toArray.size := by
      have := (List.getElem?_eq_some_iff.mp hu).1
      simpa using this
    refine wpAny_pyNext_enum_itemD D he ⟨hit, pt⟩ hlt hne (by simp [hne, hea]) fun x' h' tk hPx ho hit' hT hsz hk => ?_
    obtain rfl : x' = u := by simpa [hu] using hPx.symm
    refine ⟨_, rfl, wpAny_letOwnedTupleGo_enum (s := { s with heap := h', toks := tk + 1 }) ho fun h'' he' sb => ?_⟩
    have hT2 : h''.get? s.heap.objs.size = some { cls := .type "tuple", data := .seq #[.int i tk, x'] } := (sb.2 _ (Nat.ne_of_gt hel)).trans hT
    have new : ObjOk X.prog X.w (upd H s.heap.objs.size (.tup [.int (i : Nat), x])) h'' s.heap.objs.size (.tup [.int (i : Nat), x]) :=
      ⟨by show 2 ≤ sizeLine; decide, [.int i tk, x'], .cons ⟨_, rfl⟩ (.cons ru .nil), ⟨_, hT2, rfl, _, rfl⟩⟩
    have I1 : Inv X pins σ (upd H s.heap.objs.size (.tup [.int (i : Nat), x])) { s with heap := h'', toks := tk + 1 } :=
      I.turnedNew (ch := [e, it]) (fun b ob hb q => (sb.2 b (fun z => hb (by simp [z]))).trans (hk b ob (fun z => hb (by simp [z])) (fun z => hb (by simp [z])) q)) hf (Nat.le_refl _) new
    refine ⟨.ref s.heap.objs.size, _, I1, rfl, ⟨_, x, rfl, I.hok.fresh (Nat.le_refl _), rfl, fun ys hy => by rw [I.tuple_inj hy hq]; exact hx⟩, ⟨⟨x', ?_⟩, hit'.1.at fun o q => (sb.2 it (Ne.symm hne)).trans q, hne⟩, fun b hb => ?_⟩
    · have e1 : ((i + 1 : Nat) : Int) = (i : Int) + 1 := by omega
      rw [e1]; exact he'
    · have hb' : b < s.heap.objs.size := by
        have e' : b = e ∨ b = it := by simpa using hb
        rcases e' with z | z
        · rw [z]; exact hel
        · rw [z]; exact hil
      rw [upd_ne (Nat.ne_of_lt hb')]
      exact (hf b hb).1
  done := by
    intro X hP hw hK hc i pins s σ H E I hf st hg
    subst hP hw hK
    obtain ⟨⟨old, he⟩, hit, hne⟩ := st
    obtain ⟨xs, hq, hx⟩ := hg
    obtain ⟨its, rv, p, hz⟩ := I.tuple hq
    obtain ⟨f0, f1, f2, f3, f4, f5⟩ := hf it (by simp)
    have hl := rv.length
    have pt : s.heap.IsTuple a its.toArray := p
    have D : Draws X.prog X.w X.A.in1 it [it, a] i (fun _ _ => True) (fun j h => j = i ∧ h.IsTupleIter it a i ∧ h.IsTuple a its.toArray) :=
      ⟨fun _ _ st => let ⟨o, ho, _⟩ := st.2.1; ⟨o, ho⟩, fun _ _ _ st hk => ⟨st.1, st.2.1.at fun o e => hk it (by simp) o e, st.2.2.at fun o e => hk a (by simp) o e⟩,
        fun j s Q E hj st => absurd st.1 (by omega), fun s Q E st hE => wpAny_nextOf_tuple_end (show X.A.in1.handled = none from I.ok.hd hc) st.2.1 st.2.2 (by simp; omega) hE⟩
    exact wpAny_pyNext_enum_endD D he ⟨rfl, hit, pt⟩ fun h' eb => ⟨rfl, I.turned (t' := s.toks) (fun b o hb q => eb b o hb q) f0 f1 f3 f4 f5⟩
  self := fun A i s Q E st h => let ⟨⟨_, he⟩, _⟩ := st; wpAny_pyIter_enum he h
/-- a list or a tuple counted -/
def iEnA (K : PySem.W.Frag) (ta : TA) : TI := fun σ H R => ta σ H fun vs H1 => ∃ a, vs = [.ref a] ∧ (((∃ xs, SqL K H1 a xs) ∧ R (Ite K a) H1) ∨ ((∃ xs, SqT K H1 a xs) ∧ R (Iten K a) H1))
theorem pi_enA {X : Cx} {e : Expr} {ta : TA} {p pos tpos : Pos} {elts : List Expr} {kk : Nat} (hg : Gl X "enumerate") (hm : X.mg "enumerate" = none) (ha : PA X [e] ta) (hs : starEach [e] X.env = [(false, eval e X.env)] := by rfl) :
    PI X (.Tuple elts kk tpos) (.Call (.Name "enumerate" p) [e] [] pos) (iEnA X.K ta) := by
  refine ⟨fun pins s σ H R I h => ?_⟩
  refine Call_ (ld_blt I hg hm boot_enumerate (PyProof.Rows.callWith_type1 (thn (ha.run pos pins s σ H _ I h) fun us s1 ⟨vs, H1, I1, r1, q1⟩ => ?_) hs rfl))
  obtain ⟨a, ex, q⟩ := q1
  subst ex
  cases r1 with
  | cons r rr =>
    cases rr
    cases r
    have fresh : ∀ b ∈ [s1.heap.objs.size + 1, s1.heap.objs.size], s1.heap.objs.size ≤ b := fun b hb => by
      have e' : b = s1.heap.objs.size + 1 ∨ b = s1.heap.objs.size := by simpa using hb
      rcases e' with z | z
      · rw [z]; exact Nat.le_add_right _ _
      · rw [z]; exact Nat.le_refl _
    rcases q with ⟨⟨xs, hq⟩, q⟩ | ⟨⟨xs, hq⟩, q⟩
    · obtain ⟨its, rv, p', hz⟩ := I1.list hq
      refine call_enumerate_list p'.isList fun h' he hit hsz hk => wpAny_pyIter_enum he ?_
      have I2 : Inv X pins σ H1 { s1 with heap := h' } := I1.kept (t' := s1.toks) hk
      exact ⟨s1.heap.objs.size + 1, [s1.heap.objs.size + 1, s1.heap.objs.size], _, _, H1, rfl, I2, turn_enum a (s1.heap.objs.size + 1) s1.heap.objs.size, ⟨⟨.none, he⟩, hit, Nat.succ_ne_self _⟩, fun b hb => I1.fpOk (fresh b hb) (I1.hok.fresh (fresh b hb)), q⟩
    · obtain ⟨its, rv, p', hz⟩ := I1.tuple hq
      refine call_enumB (begins_tuple a its.toArray) (show s1.heap.IsTuple a its.toArray from p') fun h' he hit hsz hk => wpAny_pyIter_enum he ?_
      have I2 : Inv X pins σ H1 { s1 with heap := h' } := I1.kept (t' := s1.toks) hk
      exact ⟨s1.heap.objs.size + 1, [s1.heap.objs.size + 1, s1.heap.objs.size], _, _, H1, rfl, I2, turn_enumT a (s1.heap.objs.size + 1) s1.heap.objs.size, ⟨⟨.none, he⟩, ⟨_, hit, rfl, rfl⟩, Nat.succ_ne_self _⟩, fun b hb => I1.fpOk (fresh b hb) (I1.hok.fresh (fresh b hb)), q⟩
def enD (ds : List PyData) : List PyData := ds.zipIdx.map fun p => .tuple [.int p.2, p.1]
def enumK : PyData → Option (List PyData)
  | .list ds => some (enD ds)
  | .tuple ds => some (enD ds)
  | _ => none
theorem enD_get {ds : List PyData} {i : Nat} {d : PyData} (h : (enD ds)[i]? = some d) : ∃ d', ds[i]? = some d' ∧ d = .tuple [.int i, d'] := by
  unfold enD at h
  rw [List.getElem?_map, List.getElem?_zipIdx] at h
  cases e : ds[i]? with
  | none => rw [e] at h; cases h
  | some d' => rw [e] at h; cases h; exact ⟨d', rfl, by simp⟩
theorem enD_len {ds : List PyData} : (enD ds).length = ds.length := by simp [enD]
theorem ite_ok {K : PySem.W.Frag} {S : Addr → Prop} {H : Hp} {v : V} {ds : List PyData} (h : Dr K S H v (.list ds)) : ∃ a, v = .ref a ∧ (∃ xs, SqL K H a xs) ∧ ItOk K (Ite K a) S H (enD ds) := by
  obtain ⟨a, xs0, rfl, q0, _⟩ := h.w.lst
  have key : ∀ S2 H2, Ex S H S2 H2 → ∃ xs, SqL K H2 a xs ∧ DrAll K S2 H2 xs ds := fun S2 H2 x => by
    obtain ⟨a', xs, e, q1, q2⟩ := (h.ex x).w.lst
    cases e
    exact ⟨xs, q1.sq, q2⟩
  refine ⟨a, rfl, ⟨xs0, q0.sq⟩, fun S2 H2 i d x e => ?_, fun S2 H2 x => ?_⟩
  · obtain ⟨xs, q1, q2⟩ := key S2 H2 x
    obtain ⟨d', hd, rfl⟩ := enD_get e
    obtain ⟨u, e1, e2⟩ := q2.get hd
    refine ⟨⟨xs, u, q1, e1⟩, fun y H' hy => ?_⟩
    obtain ⟨T, x', rfl, hT, rfl, hx⟩ := hy
    have := hx xs q1
    rw [e1] at this; cases this
    have sm := same_alloc (o := .tup [.int (i : Nat), u]) hT
    exact ⟨sm, .tup (.inl (.inl upd_same)) (.cons (.int i) (.cons (e2.ex (Ex.same sm)) .nil))⟩
  · obtain ⟨xs, q1, q2⟩ := key S2 H2 x
    exact ⟨xs, q1, by rw [q2.length, enD_len]; exact Nat.le_refl _⟩
theorem iten_ok {K : PySem.W.Frag} {S : Addr → Prop} {H : Hp} {v : V} {ds : List PyData} (h : Dr K S H v (.tuple ds)) : ∃ a, v = .ref a ∧ (∃ xs, SqT K H a xs) ∧ ItOk K (Iten K a) S H (enD ds) := by
  obtain ⟨a, xs0, rfl, q0, _⟩ := h.w.tup
  have key : ∀ S2 H2, Ex S H S2 H2 → ∃ xs, SqT K H2 a xs ∧ DrAll K S2 H2 xs ds := fun S2 H2 x => by
    obtain ⟨a', xs, e, q1, q2⟩ := (h.ex x).w.tup
    cases e
    exact ⟨xs, q1, q2⟩
  refine ⟨a, rfl, ⟨xs0, q0⟩, fun S2 H2 i d x e => ?_, fun S2 H2 x => ?_⟩
  · obtain ⟨xs, q1, q2⟩ := key S2 H2 x
    obtain ⟨d', hd, rfl⟩ := enD_get e
    obtain ⟨u, e1, e2⟩ := q2.get hd
    refine ⟨⟨xs, u, q1, e1⟩, fun y H' hy => ?_⟩
    obtain ⟨T, x', rfl, hT, rfl, hx⟩ := hy
    have := hx xs q1
    rw [e1] at this; cases this
    have sm := same_alloc (o := .tup [.int (i : Nat), u]) hT
    exact ⟨sm, .tup (.inl (.inl upd_same)) (.cons (.int i) (.cons (e2.ex (Ex.same sm)) .nil))⟩
  · obtain ⟨xs, q1, q2⟩ := key S2 H2 x
    exact ⟨xs, q1, by rw [q2.length, enD_len]; exact Nat.le_refl _⟩
theorem gi_enum {X : Cx} {A0 : Ax} {W : WX} {elts : List Expr} {kk : Nat} {tpos p pos : Pos} {e : Expr} {fe : SE} (hm : X.mg "enumerate" = none) (he : PE X e (tE (gc X A0 W) fe)) (hg : Gl X "enumerate" := by rfl) (hs : starEach [e] X.env = [(false, eval e X.env)] := by rfl) :
    PI X (.Tuple elts kk tpos) (.Call (.Name "enumerate" p) [e] [] pos) (tI (gc X A0 W) (seqI enumK fe)) := PI_imp (pi_enA hg hm (pa_cons he pa_nil hs) hs) fun σ H R h => by
  show tE (gc X A0 W) fe σ H _
  refine seqI_bind h fun S' H' v d ds hd hk q => ?_
  cases d with
  | list ds' => cases hk; obtain ⟨a, rfl, hx, ok⟩ := ite_ok hd; exact ⟨a, rfl, .inl ⟨hx, q _ ok⟩⟩
  | tuple ds' => cases hk; obtain ⟨a, rfl, hx, ok⟩ := iten_ok hd; exact ⟨a, rfl, .inr ⟨hx, q _ ok⟩⟩
  | _ => cases hk
end G
/-! pop, extend, int, str, sum, list(d), list(d.items()) -/
namespace G
open PySem PySem.Spec PyProof.Rows L2
def mtPop (d : PyData) (ys : List PyData) : Option (PyData × PyData) := match d, ys with
  | .list ds, [] => (ds.getLast?).map fun y => (.list ds.dropLast, y)
  | _, _ => none
def mtPopA (d : PyData) (ys : List PyData) : Option (PyData × PyData) := match d, ys with
  | .list (y :: r), [.int 0] => some (.list r, y)
  | _, _ => none
/-! ### xs.extend([..]) of a new list -/
def extG (i : Nat) (ρ : List B) : Ev → Rs (Ev × List B)
  | .fr (.list es) => (match (ρ[i]?) with
    | some b => (match ownD b with
      | some (.list ds) => if ds.length + es.length ≤ 1000000 then .ok (.val .none, ρ.set i (reD b (.list (ds ++ es)))) else .bad
      | _ => .bad)
    | none => .bad)
  | _ => .bad
def extE1 (i : Nat) (fe : SE) : SE := fun ρ => (fe ρ).bind fun p => extG i p.2 p.1
def extE (i : Nat) (fe : SE) : SE := fun ρ => match (ρ[i]?).bind ownD with
  | some d => if isLst d = true then extE1 i fe ρ else .bad
  | none => .bad
/-! ### int, str, sum -/
def toIntD : List PyData → Option Ev
  | [.int i] => some (.val (.int i))
  | [.bool b] => some (.val (.int (if b = true then 1 else 0)))
  | _ => none
def toStrD : List PyData → Option Ev
  | [.int i] => if i.natAbs.log2 < 1920 then some (.val (.str (toString i))) else none
  | _ => none
end G
namespace G
open PySem PySem.Spec PyProof.Rows L2
/-! ### list(x.items()) of a slot's own dict -/
def itemsJ (ρ : List B) : Option PyData → Rs (Ev × List B)
  | some (.dict kvs) => if keyed kvs = true then .ok (.fr (.list (kvs.map fun p => .tuple [p.1, p.2])), ρ) else .bad
  | _ => .bad
def itemsE (i : Nat) : SE := fun ρ => itemsJ ρ ((ρ[i]?).bind ownD)
end G
namespace G
open PySem PySem.Spec PyProof.Rows L2
/-! ### xs[k] as one of several targets -/
def subH (i : Nat) (y : PyData) (p : Ev × List B) : Rs (List B) := match peek p.2 p.1 with
  | some k => (match p.2[i]? with
    | some b => (match ownD b with
      | some d => (match setD d k y with
        | some d' => .ok (p.2.set i (reD b d'))
        | none => .bad)
      | none => .bad)
    | none => .bad)
  | none => .bad
def subG (i : Nat) (fk : SE) : SG := fun y ρ => match (ρ[i]?).bind ownD with
  | some _ => (fk ρ).bind (subH i y)
  | none => .bad
end G
/-! sorted(set(xs)), xs a list of ints -/
namespace G
open PySem PySem.Spec PyProof.Rows L2
/-! ### the data: ints in order, each once -/
/-! ### set(xs) -/
end G
/-! sorted(set(xs)): tuples of ints of one length, fewer than 64 -/
namespace G
open PySem PySem.Spec PyProof.Rows L2
/-! ### the data: no row twice -/
end G
/-! xs[::-1] of a list or a tuple -/
namespace G
open PySem PySem.Spec PyProof.Rows L2
section
variable {X : Cx}
def revD : PyData → Option Ev
  | .list ds => some (.fr (.list ds.reverse))
  | .tuple ds => some (.val (.tuple ds.reverse))
  | _ => none
end
end G
/-! ### a mirror run by simp -/
namespace G
open PySem PySem.Spec PyProof.Rows L2
section
variable {α β : Type} {a : α} {f : α → Rs β} {p : Prop} [Decidable p] {x y : Rs α} {n : Str} {ρ ρ' : List B} {f1 f2 : SS} {fe fa fb fc fk : SE} {fs : SA} {c ca cb : SB} {e e1 e2 : Ev} {es : List Ev} {d d1 d2 d3 : PyData} {ds : List PyData} {i j l m : Nat} {b b0 b1 b2 b3 b4 b5 b6 b7 : B} {bo : Bool} {fl : Fl} {r : Rs Fl} {it : SI} {t : SG}
theorem rb_ok : Rs.bind (.ok a) f = f a := id rfl
theorem rb_ex : Rs.bind (.ex n ρ) f = .ex n ρ := id rfl
theorem rb_bad : Rs.bind .bad f = .bad := id rfl
theorem rb_ite : Rs.bind (if p then x else y) f = if p then Rs.bind x f else Rs.bind y f := by split <;> rfl
theorem lz : (a :: (l' : List α))[0]? = some a := id rfl
theorem ls {l' : List α} : (a :: l')[i + 1]? = l'[i]? := id rfl
theorem sz {a' : α} {l' : List α} : (a :: l').set 0 a' = a' :: l' := id rfl
theorem ss {a' : α} {l' : List α} : (a :: l').set (i + 1) a' = a :: l'.set i a' := id rfl
/-- statements -/
def seqK (f2 : SS) : Fl → Rs Fl
  | .nx ρ => f2 ρ
  | r => .ok r
theorem r_seq : seqS f1 f2 ρ = Rs.bind (f1 ρ) (seqK f2) := by unfold seqS; congr 1
theorem k_seq1 : seqK f2 (.nx ρ) = f2 ρ := id rfl
theorem k_seq2 : seqK f2 (.rt e ρ) = .ok (.rt e ρ) := id rfl
theorem k_seq3 : seqK f2 (.bk ρ) = .ok (.bk ρ) := id rfl
theorem k_seq4 : seqK f2 (.ct ρ) = .ok (.ct ρ) := id rfl
theorem r_nx : nxS ρ = .ok (.nx ρ) := id rfl
theorem r_bk : bkS ρ = .ok (.bk ρ) := id rfl
theorem r_ct : ctS ρ = .ok (.ct ρ) := id rfl
theorem r_retN : retNS ρ = .ok (.rt (.val .none) ρ) := id rfl
def retK : Ev × List B → Rs Fl := fun p => .ok (.rt p.1 p.2)
theorem r_ret : retS fe ρ = Rs.bind (fe ρ) retK := id rfl
theorem k_ret : retK (e, ρ) = .ok (.rt e ρ) := id rfl
def dropK : Ev × List B → Rs Fl := fun p => .ok (.nx p.2)
theorem r_drop : dropS fe ρ = Rs.bind (fe ρ) dropK := id rfl
theorem k_drop : dropK (e, ρ) = .ok (.nx ρ) := id rfl
def ifK {γ : Type} (f1 f2 : List B → Rs γ) : Bool × List B → Rs γ := fun p => if p.1 = true then f1 p.2 else f2 p.2
theorem r_if : ifS c f1 f2 ρ = Rs.bind (c ρ) (ifK f1 f2) := id rfl
theorem r_ife : ifE c fa fb ρ = Rs.bind (c ρ) (ifK fa fb) := id rfl
theorem k_if {γ : Type} {f1 f2 : List B → Rs γ} : ifK f1 f2 (bo, ρ) = if bo = true then f1 ρ else f2 ρ := id rfl
def asgK (i : Nat) : Ev × List B → Rs Fl := fun p => Rs.bind (bindV i p.1 p.2) fun ρ' => .ok (.nx ρ')
theorem r_asg : asgS i fe ρ = Rs.bind (fe ρ) (asgK i) := id rfl
theorem k_asg1 : asgK i (.val d, ρ) = .ok (.nx (ρ.set i (.val d))) := id rfl
theorem k_asg2 : asgK i (.fr d, ρ) = .ok (.nx (ρ.set i (.own d))) := id rfl
def slK (i j : Nat) (ρ : List B) : Option B → Rs Fl
  | some (.own d) => .ok (.nx ((ρ.set j (.val d)).set i (.val d)))
  | some (.val d) => .ok (.nx (ρ.set i (.val d)))
  | _ => .bad
theorem k_asg3 : asgK i (.sl j, ρ) = slK i j ρ ρ[j]? := by
  unfold asgK bindV slK shr
  dsimp only
  cases ρ[j]? with
  | none => rfl
  | some b => cases b <;> rfl
theorem k_sl1 : slK i j ρ (some (.own d)) = .ok (.nx ((ρ.set j (.val d)).set i (.val d))) := id rfl
theorem k_sl2 : slK i j ρ (some (.val d)) = .ok (.nx (ρ.set i (.val d))) := id rfl
/-- what an expression's value is when it is shared -/
def shK {γ : Type} (k : PyData → List B → Rs γ) (ρ : List B) (e : Ev) : Rs γ := match shr ρ (settle e) with
  | some (d, ρ1) => k d ρ1
  | none => .bad
def shJ {γ : Type} (k : PyData → List B → Rs γ) (ρ : List B) (j : Nat) : Option B → Rs γ
  | some (.own d) => k d (ρ.set j (.val d))
  | some (.val d) => k d ρ
  | _ => .bad
theorem k_sh1 {γ : Type} {k : PyData → List B → Rs γ} : shK k ρ (.val d) = k d ρ := id rfl
theorem k_sh2 {γ : Type} {k : PyData → List B → Rs γ} : shK k ρ (.fr d) = k d ρ := id rfl
theorem k_sh3 {γ : Type} {k : PyData → List B → Rs γ} : shK k ρ (.sl j) = shJ k ρ j ρ[j]? := by
  unfold shK settle shr shJ
  dsimp only
  cases ρ[j]? with
  | none => rfl
  | some b => cases b <;> rfl
theorem k_sh4 {γ : Type} {k : PyData → List B → Rs γ} : shJ k ρ j (some (.own d)) = k d (ρ.set j (.val d)) := id rfl
theorem k_sh5 {γ : Type} {k : PyData → List B → Rs γ} : shJ k ρ j (some (.val d)) = k d ρ := id rfl
def asgGK (t : SG) (p : Ev × List B) : Rs Fl := shK (fun d ρ1 => match t d ρ1 with
    | .ok ρ' => .ok (.nx ρ')
    | _ => .bad) p.2 p.1
theorem r_asgG : asgG t fe ρ = Rs.bind (fe ρ) (asgGK t) := id rfl
def tgK : Rs (List B) → Rs Fl
  | .ok ρ' => .ok (.nx ρ')
  | _ => .bad
def asgGL (t : SG) (d : PyData) (ρ1 : List B) : Rs Fl := tgK (t d ρ1)
theorem k_asgG : asgGK t (e, ρ) = shK (asgGL t) ρ e := by
  unfold asgGK
  rfl
theorem k_asgL : asgGL t d ρ = tgK (t d ρ) := id rfl
theorem k_tg : tgK (.ok ρ) = .ok (.nx ρ) := id rfl
theorem r_nm : nmG i d ρ = .ok (ρ.set i (.val d)) := id rfl
theorem r_tup {u : List PyData → List B → Rs (List B)} : tupG 2 u (.tuple [d1, d2]) ρ = u [d1, d2] ρ := id rfl
theorem r_tup1 {u : List PyData → List B → Rs (List B)} : tupG 1 u (.tuple [d1]) ρ = u [d1] ρ := id rfl
theorem r_tup3 {u : List PyData → List B → Rs (List B)} : tupG 3 u (.tuple [d1, d2, d3]) ρ = u [d1, d2, d3] ρ := id rfl
theorem r_tup4 {u : List PyData → List B → Rs (List B)} {d4 : PyData} : tupG 4 u (.tuple [d1, d2, d3, d4]) ρ = u [d1, d2, d3, d4] ρ := id rfl
theorem r_nil : nilG [] ρ = .ok ρ := id rfl
theorem r_cons {u : List PyData → List B → Rs (List B)} : consG t u (d :: ds) ρ = Rs.bind (t d ρ) (u ds) := by
  unfold consG
  rfl
/-- expressions -/
def vK (i : Nat) (ρ : List B) : Option B → Rs (Ev × List B)
  | some (.val d) => .ok (.val d, ρ)
  | some (.own _) => .ok (.sl i, ρ)
  | some (.prm _) => .ok (.sl i, ρ)
  | some (.exc _) => .ok (.sl i, ρ)
  | _ => .bad
theorem r_V : fV i ρ = vK i ρ ρ[i]? := by
  unfold fV vK
  cases ρ[i]? with
  | none => rfl
  | some b => cases b <;> rfl
theorem k_V1 : vK i ρ (some (.val d)) = .ok (.val d, ρ) := id rfl
theorem k_V2 : vK i ρ (some (.own d)) = .ok (.sl i, ρ) := id rfl
theorem k_V4 {n : Str} : vK i ρ (some (.exc n)) = .ok (.sl i, ρ) := id rfl
theorem k_V3 : vK i ρ (some (.prm d)) = .ok (.sl i, ρ) := id rfl
theorem r_C : fC d ρ = .ok (.val d, ρ) := id rfl
theorem p_val : peek ρ (.val d) = some d := id rfl
theorem p_fr : peek ρ (.fr d) = some d := id rfl
theorem p_sl : peek ρ (.sl i) = Option.bind ρ[i]? peekB := id rfl
theorem pb_1 : peekB (B.val d) = some d := id rfl
theorem pb_2 : peekB (B.own d) = some d := id rfl
theorem pb_3 : peekB (B.prm d) = some d := id rfl
theorem od_1 : ownD (B.own d) = some d := id rfl
theorem od_2 : ownD (B.prm d) = some d := id rfl
theorem p_1 : Option.bind (some (B.val d)) peekB = some d := id rfl
theorem p_2 : Option.bind (some (B.own d)) peekB = some d := id rfl
theorem p_3 : Option.bind (some (B.prm d)) peekB = some d := id rfl
theorem q_1 : Option.bind (some (B.val d)) ownD = none := id rfl
theorem q_2 : Option.bind (some (B.own d)) ownD = some d := id rfl
theorem q_3 : Option.bind (some (B.prm d)) ownD = some d := id rfl
theorem re_1 : resE ρ (some (.val d)) = .ok (.val d, ρ) := id rfl
theorem re_2 : resE ρ (some (.fr d)) = .ok (.fr d, ρ) := id rfl
theorem re_ite {u v : Option Ev} : resE ρ (if p then u else v) = if p then resE ρ u else resE ρ v := by split <;> rfl
theorem st_1 : G.settle (.val d) = .val d := id rfl
theorem st_2 : G.settle (.fr d) = .val d := id rfl
theorem st_3 : G.settle (.sl i) = .sl i := id rfl
def o2K2 (bd : PyData → PyData → Option Ev) (e : Ev) (q : Ev × List B) : Rs (Ev × List B) := resE q.2 ((peek q.2 e).bind fun d1 => (peek q.2 q.1).bind fun d2 => bd d1 d2)
def o2K (bd : PyData → PyData → Option Ev) (fb : SE) (p : Ev × List B) : Rs (Ev × List B) := Rs.bind (fb p.2) (o2K2 bd p.1)
def o2L2 (bd : PyData → PyData → Option Ev) : Option PyData → Option PyData → Option Ev
  | some d1, some d2 => bd d1 d2
  | _, _ => none
theorem r_op2 {bd : PyData → PyData → Option Ev} : op2 bd fa fb ρ = Rs.bind (fa ρ) (o2K bd fb) := id rfl
theorem k_op2a {bd : PyData → PyData → Option Ev} : o2K bd fb (e, ρ) = Rs.bind (fb ρ) (o2K2 bd e) := id rfl
theorem k_op2b {bd : PyData → PyData → Option Ev} : o2K2 bd e (e1, ρ) = resE ρ (o2L2 bd (peek ρ e) (peek ρ e1)) := by
  unfold o2K2 o2L2
  dsimp only
  cases peek ρ e with
  | none => cases peek ρ e1 <;> rfl
  | some d => cases peek ρ e1 <;> rfl
theorem k_op2c {bd : PyData → PyData → Option Ev} : o2L2 bd (some d1) (some d2) = bd d1 d2 := id rfl
def o1K (bd : PyData → Option Ev) (p : Ev × List B) : Rs (Ev × List B) := resE p.2 ((peek p.2 p.1).bind bd)
theorem r_op1 {bd : PyData → Option Ev} : op1 bd fa ρ = Rs.bind (fa ρ) (o1K bd) := id rfl
theorem k_op1 {bd : PyData → Option Ev} : o1K bd (e, ρ) = resE ρ ((peek ρ e).bind bd) := id rfl
theorem ob_some {u : α → Option β} : Option.bind (some a) u = u a := id rfl
def oNK (bd : List PyData → Option Ev) (p : List Ev × List B) : Rs (Ev × List B) := resE p.2 ((peeks p.2 p.1).bind bd)
theorem r_said {ns : List Str} {HS : SS} : saidE ns HS fe ρ = saidK ns HS (fe ρ) := id rfl
theorem k_said1 {ns : List Str} {HS : SS} : saidK ns HS (.ok (e, ρ)) = resE ρ ((peek ρ e).bind fun d => reprD [d]) := id rfl
theorem r_opN {bd : List PyData → Option Ev} : opN bd fs ρ = Rs.bind (fs ρ) (oNK bd) := id rfl
theorem k_opN {bd : List PyData → Option Ev} : oNK bd (es, ρ) = resE ρ ((peeks ρ es).bind bd) := id rfl
theorem r_pk0 : peeks ρ [] = some [] := id rfl
def pkK : Option PyData → Option (List PyData) → Option (List PyData)
  | some d, some ds => some (d :: ds)
  | _, _ => none
theorem r_pk1 : peeks ρ (e :: es) = pkK (peek ρ e) (peeks ρ es) := by
  show ((peek ρ e).bind fun d => (peeks ρ es).map (d :: ·)) = _
  cases peek ρ e with
  | none => rfl
  | some d => cases peeks ρ es <;> rfl
theorem k_pk : pkK (some d) (some ds) = some (d :: ds) := id rfl
theorem r_anil : aNil ρ = .ok ([], ρ) := id rfl
def aK (fs : SA) (p : Ev × List B) : Rs (List Ev × List B) := Rs.bind (fs p.2) fun q => .ok (G.settle p.1 :: q.1, q.2)
def aK2 (e : Ev) (q : List Ev × List B) : Rs (List Ev × List B) := .ok (G.settle e :: q.1, q.2)
theorem r_acons : aCons fe fs ρ = Rs.bind (fe ρ) (aK fs) := id rfl
theorem k_acons : aK fs (e, ρ) = Rs.bind (fs ρ) (aK2 e) := id rfl
theorem k_acons2 : aK2 e (es, ρ) = .ok (G.settle e :: es, ρ) := id rfl
theorem shs_v0 : shrs ρ [] = some ([], ρ) := id rfl
theorem shs_v1 : shrs ρ (.val d :: es) = (shrs ρ es).map fun q => (d :: q.1, q.2) := id rfl
def shS (ρ : List B) (j : Nat) (es : List Ev) : Option B → Option (List PyData × List B)
  | some (.own d) => (shrs (ρ.set j (.val d)) es).map fun q => (d :: q.1, q.2)
  | some (.val d) => (shrs ρ es).map fun q => (d :: q.1, q.2)
  | _ => none
theorem shs_v2 : shrs ρ (.sl j :: es) = shS ρ j es ρ[j]? := by
  show ((shr ρ (.sl j)).bind fun p => (shrs p.2 es).map fun q => (p.1 :: q.1, q.2)) = _
  unfold shr shS
  dsimp only
  cases ρ[j]? with
  | none => rfl
  | some b => cases b <;> rfl
theorem shs_v3 : shS ρ j es (some (.own d)) = (shrs (ρ.set j (.val d)) es).map fun q => (d :: q.1, q.2) := id rfl
theorem shs_v4 : shS ρ j es (some (.val d)) = (shrs ρ es).map fun q => (d :: q.1, q.2) := id rfl
theorem om_some {γ : Type} {u : α → γ} : Option.map u (some a) = some (u a) := id rfl
def dK1 (mk : List PyData → Ev) : Option (List PyData × List B) → Rs (Ev × List B)
  | some (ds, ρ') => if ds.length ≤ sizeLine then resE ρ' (some (mk ds)) else .bad
  | none => .bad
theorem r_disp {mk : List PyData → Ev} : dispE mk fs ρ = Rs.bind (fs ρ) fun p => dK1 mk (shrs p.2 p.1) := by
  unfold dispE dK1
  congr 1
def dtK (p : List Ev × List B) : Rs (Ev × List B) := dK1 (fun ds => .val (.tuple ds)) (shrs p.2 p.1)
def dlK (p : List Ev × List B) : Rs (Ev × List B) := dK1 (fun ds => .fr (.list ds)) (shrs p.2 p.1)
theorem r_tupT : tupE fs ρ = Rs.bind (fs ρ) dtK := r_disp
theorem r_lstT : lstE fs ρ = Rs.bind (fs ρ) dlK := r_disp
def smallLen {α : Type} : List α → Nat → Bool
  | [], _ => true
  | _ :: _, 0 => false
  | _ :: l, n + 1 => smallLen l n
theorem sl_nil {n : Nat} : smallLen ([] : List α) n = true := by cases n <;> rfl
theorem sl_cons {n : Nat} {l' : List α} : smallLen (a :: l') (n + 1) = smallLen l' n := id rfl
theorem smallLen_ok {l' : List α} : ∀ {n : Nat}, smallLen l' n = true → l'.length ≤ n := by
  induction l' with
  | nil => intro n _; simp
  | cons a l' ih =>
    intro n h
    cases n with
    | zero => cases h
    | succ n => simp only [List.length_cons]; have := ih (n := n) h; omega
theorem len_ok {l' : List α} (h : smallLen l' 100 = true) : l'.length ≤ sizeLine := Nat.le_trans (smallLen_ok h) (by decide)
theorem k_dt : dtK (es, ρ) = dK1 (fun ds => .val (.tuple ds)) (shrs ρ es) := id rfl
theorem k_dl : dlK (es, ρ) = dK1 (fun ds => .fr (.list ds)) (shrs ρ es) := id rfl
theorem k_d1 (h : ds.length ≤ sizeLine) : dK1 (fun ds => .val (.tuple ds)) (some (ds, ρ)) = .ok (.val (.tuple ds), ρ) := if_pos h
theorem k_d2 (h : ds.length ≤ sizeLine) : dK1 (fun ds => .fr (.list ds)) (some (ds, ρ)) = .ok (.fr (.list ds), ρ) := if_pos h
/-- tests -/
def fBK (p : Ev × List B) : Rs (Bool × List B) := match peek p.2 p.1 with
  | some (.bool k) => .ok (k, p.2)
  | _ => .bad
theorem r_fB : fB fe ρ = Rs.bind (fe ρ) fBK := id rfl
theorem k_fB : fBK (.val (.bool bo), ρ) = .ok (bo, ρ) := id rfl
theorem r_and : andB ca cb ρ = Rs.bind (ca ρ) (ifK cb fun ρ => .ok (false, ρ)) := id rfl
theorem r_or : orB ca cb ρ = Rs.bind (ca ρ) (ifK (fun ρ => .ok (true, ρ)) cb) := id rfl
theorem r_andV : andV fa fb ρ = Rs.bind (fB fa ρ) (ifK fb fun ρ => .ok (.val (.bool false), ρ)) := id rfl
theorem r_orV : orV fa fb ρ = Rs.bind (fB fa ρ) (ifK (fun ρ => .ok (.val (.bool true), ρ)) fb) := id rfl
def notK (p : Bool × List B) : Rs (Bool × List B) := .ok (!p.1, p.2)
def notVK (p : Bool × List B) : Rs (Ev × List B) := .ok (.val (.bool (!p.1)), p.2)
theorem r_not : notB ca ρ = Rs.bind (ca ρ) notK := id rfl
theorem r_notV : notV fa ρ = Rs.bind (fB fa ρ) notVK := id rfl
theorem k_not : notK (bo, ρ) = .ok (!bo, ρ) := id rfl
theorem k_notV : notVK (bo, ρ) = .ok (.val (.bool (!bo)), ρ) := id rfl
theorem r_yes : yesB ρ = .ok (true, ρ) := id rfl
/-- x op y op z -/
def chK3 (b2 : PyData → PyData → Option Ev) (e : Ev) (r : Ev × List B) : Rs (Ev × List B) := resE r.2 (o2L2 b2 (peek r.2 e) (peek r.2 r.1))
def chB (b2 : PyData → PyData → Option Ev) (fc : SE) (e : Ev) (ρ : List B) : Option Bool → Rs (Ev × List B)
  | some false => .ok (.val (.bool false), ρ)
  | some true => Rs.bind (fc ρ) (chK3 b2 e)
  | none => .bad
def chK2 (b1 b2 : PyData → PyData → Option Ev) (fc : SE) (e : Ev) (q : Ev × List B) : Rs (Ev × List B) := chB b2 fc q.1 q.2 (boolD (o2L2 b1 (peek q.2 e) (peek q.2 q.1)))
def chK (b1 b2 : PyData → PyData → Option Ev) (fb fc : SE) (p : Ev × List B) : Rs (Ev × List B) := Rs.bind (fb p.2) (chK2 b1 b2 fc p.1)
theorem o2L2_eq {bd : PyData → PyData → Option Ev} {u v : Option PyData} : (u.bind fun d1 => v.bind fun d2 => bd d1 d2) = o2L2 bd u v := by
  cases u with
  | none => cases v <;> rfl
  | some d => cases v <;> rfl
theorem r_ch {b1 b2 : PyData → PyData → Option Ev} : ch3 b1 b2 fa fb fc ρ = Rs.bind (fa ρ) (chK b1 b2 fb fc) := by
  unfold ch3 chK
  congr 1
  funext p
  congr 1
  funext q
  unfold chK2 chB
  rw [o2L2_eq]
  cases boolD (o2L2 b1 (peek q.2 p.1) (peek q.2 q.1)) with
  | none => rfl
  | some k =>
    cases k with
    | false => rfl
    | true =>
      simp only []
      congr 1
      funext r
      unfold chK3
      rw [o2L2_eq]
theorem k_ch1 {b1 b2 : PyData → PyData → Option Ev} : chK b1 b2 fb fc (e, ρ) = Rs.bind (fb ρ) (chK2 b1 b2 fc e) := id rfl
theorem k_ch2 {b1 b2 : PyData → PyData → Option Ev} : chK2 b1 b2 fc e (e1, ρ) = chB b2 fc e1 ρ (boolD (o2L2 b1 (peek ρ e) (peek ρ e1))) := id rfl
theorem k_ch3 {b2 : PyData → PyData → Option Ev} : chB b2 fc e ρ (some bo) = if bo = true then Rs.bind (fc ρ) (chK3 b2 e) else .ok (.val (.bool false), ρ) := by cases bo <;> rfl
theorem k_ch4 {b2 : PyData → PyData → Option Ev} : chK3 b2 e (e1, ρ) = resE ρ (o2L2 b2 (peek ρ e) (peek ρ e1)) := id rfl
theorem k_ch5 : boolD (some (.val (.bool bo))) = some bo := id rfl
/-- calls -/
def caK (ms : List Bool) (F : SE) (dbs : List B) (p : List Ev × List B) : Rs (Ev × List B) := match cv1 ms p.1 p.2 with
  | some (es, ρ1) => (match cv2 ρ1 es with
    | some (bs, ls) => callR F (bs ++ dbs) (ls ++ dbs.map fun _ => none) ρ1
    | none => .bad)
  | none => .bad
theorem r_call {ms : List Bool} {F : SE} {dbs : List B} : callF ms F dbs fs ρ = Rs.bind (fs ρ) (caK ms F dbs) := id rfl
theorem c1_nil : cv1 [] [] ρ = some ([], ρ) := id rfl
theorem c1_t {ms : List Bool} : cv1 (true :: ms) (e :: es) ρ = (cv1 ms es ρ).map fun q => (e :: q.1, q.2) := id rfl
theorem c1_f {ms : List Bool} : cv1 (false :: ms) (.val d :: es) ρ = (cv1 ms es ρ).map fun q => (.val d :: q.1, q.2) := id rfl
def c1S (ρ : List B) (j : Nat) (ms : List Bool) (es : List Ev) : Option B → Option (List Ev × List B)
  | some (.own d) => (cv1 ms es (ρ.set j (.val d))).map fun q => (.val d :: q.1, q.2)
  | some (.val d) => (cv1 ms es ρ).map fun q => (.val d :: q.1, q.2)
  | _ => none
theorem c1_s {ms : List Bool} : cv1 (false :: ms) (.sl j :: es) ρ = c1S ρ j ms es ρ[j]? := by
  show ((shr ρ (.sl j)).bind fun p => (cv1 ms es p.2).map fun q => (Ev.val p.1 :: q.1, q.2)) = _
  unfold shr c1S
  dsimp only
  cases ρ[j]? with
  | none => rfl
  | some b => cases b <;> rfl
theorem c1_s1 {ms : List Bool} : c1S ρ j ms es (some (.own d)) = (cv1 ms es (ρ.set j (.val d))).map fun q => (.val d :: q.1, q.2) := id rfl
theorem c1_s2 {ms : List Bool} : c1S ρ j ms es (some (.val d)) = (cv1 ms es ρ).map fun q => (.val d :: q.1, q.2) := id rfl
def cc1 (F : SE) (dbs : List B) : Option (List Ev × List B) → Rs (Ev × List B)
  | some (es, ρ1) => (match cv2 ρ1 es with
    | some (bs, ls) => callR F (bs ++ dbs) (ls ++ dbs.map fun _ => none) ρ1
    | none => .bad)
  | none => .bad
def cc2 (F : SE) (dbs : List B) (ρ1 : List B) : Option (List B × List (Option Nat)) → Rs (Ev × List B)
  | some (bs, ls) => callR F (bs ++ dbs) (ls ++ dbs.map fun _ => none) ρ1
  | none => .bad
theorem k_ca {ms : List Bool} {F : SE} {dbs : List B} : caK ms F dbs (es, ρ) = cc1 F dbs (cv1 ms es ρ) := id rfl
theorem k_c1 {F : SE} {dbs : List B} : cc1 F dbs (some (es, ρ)) = cc2 F dbs ρ (cv2 ρ es) := id rfl
theorem k_c2 {F : SE} {dbs bs : List B} {ls' : List (Option Nat)} : cc2 F dbs ρ (some (bs, ls')) = callR F (bs ++ dbs) (ls' ++ dbs.map fun _ => none) ρ := id rfl
theorem c2_nil : cv2 ρ [] = some ([], []) := id rfl
theorem c2_v : cv2 ρ (.val d :: es) = (cv2 ρ es).map fun q => (.val d :: q.1, none :: q.2) := id rfl
def c2S (ρ : List B) (j : Nat) (es : List Ev) : Option B → Option (List B × List (Option Nat))
  | some (.own d) => (cv2 ρ es).map fun q => (.prm d :: q.1, some j :: q.2)
  | some (.prm d) => (cv2 ρ es).map fun q => (.prm d :: q.1, some j :: q.2)
  | some (.exc n) => (cv2 ρ es).map fun q => (.exc n :: q.1, none :: q.2)
  | _ => none
theorem c2_s : cv2 ρ (.sl j :: es) = c2S ρ j es ρ[j]? := by
  show ((cvB ρ (.sl j)).bind fun b => (cv2 ρ es).map fun q => (b.1 :: q.1, b.2 :: q.2)) = _
  unfold cvB c2S
  dsimp only
  cases ρ[j]? with
  | none => rfl
  | some b => cases b <;> rfl
theorem c2_s1 : c2S ρ j es (some (.own d)) = (cv2 ρ es).map fun q => (.prm d :: q.1, some j :: q.2) := id rfl
theorem c2_s3 {n : Str} : c2S ρ j es (some (.exc n)) = (cv2 ρ es).map fun q => (.exc n :: q.1, none :: q.2) := id rfl
theorem c2_s2 : c2S ρ j es (some (.prm d)) = (cv2 ρ es).map fun q => (.prm d :: q.1, some j :: q.2) := id rfl
def caW (ls : List (Option Nat)) (ρ : List B) : Rs (Ev × List B) → Rs (Ev × List B)
  | .ok (.val d, outs) => .ok (.val d, wb ls outs ρ)
  | .ok (.fr d, outs) => .ok (.fr d, wb ls outs ρ)
  | .ok (.sl _, _) => .bad
  | .ex n _ => .ex n (wbx ls ρ)
  | .bad => .bad
theorem k_call {F : SE} {bs : List B} {ls' : List (Option Nat)} : callR F bs ls' ρ = if dstL ls' = true then caW ls' ρ (F bs) else .bad := by
  unfold callR caW
  rfl
theorem k_w1 {ls' : List (Option Nat)} {outs : List B} : caW ls' ρ (.ok (.val d, outs)) = .ok (.val d, wb ls' outs ρ) := id rfl
theorem k_w2 {ls' : List (Option Nat)} {outs : List B} : caW ls' ρ (.ok (.fr d, outs)) = .ok (.fr d, wb ls' outs ρ) := id rfl
theorem k_w3 {ls' : List (Option Nat)} : caW ls' ρ (.ex n ρ') = .ex n (wbx ls' ρ) := id rfl
theorem k_wite {ls' : List (Option Nat)} {x y : Rs (Ev × List B)} : caW ls' ρ (if p then x else y) = if p then caW ls' ρ x else caW ls' ρ y := by split <;> rfl
theorem wb_nil {outs : List B} : wb [] outs ρ = ρ := by unfold wb; rfl
theorem wb_none {ls' : List (Option Nat)} {outs : List B} : wb (none :: ls') (b :: outs) ρ = wb ls' outs ρ := id rfl
def wbK (j : Nat) (ls : List (Option Nat)) (o : B) (outs : List B) (ρ : List B) : Option B → List B
  | some b => wb ls outs (ρ.set j (reB b o))
  | none => wb ls outs (ρ.set j .un)
theorem wb_some {ls' : List (Option Nat)} {outs : List B} : wb (some j :: ls') (b :: outs) ρ = wbK j ls' b outs ρ ρ[j]? := by
  unfold wbK
  show wb ls' outs _ = _
  cases ρ[j]? <;> rfl
theorem k_wb1 {ls' : List (Option Nat)} {outs : List B} {o : PyData} : wbK j ls' (.prm o) outs ρ (some (.own d)) = wb ls' outs (ρ.set j (.own o)) := id rfl
theorem k_wb2 {ls' : List (Option Nat)} {outs : List B} {o : PyData} : wbK j ls' (.prm o) outs ρ (some (.prm d)) = wb ls' outs (ρ.set j (.prm o)) := id rfl
theorem wbx_nil : wbx [] ρ = ρ := id rfl
theorem wbx_none {ls' : List (Option Nat)} : wbx (none :: ls') ρ = wbx ls' ρ := id rfl
theorem ap_nil {l' : List α} : l' ++ [] = l' := List.append_nil l'
theorem ap_nil2 {l' : List α} : [] ++ l' = l' := id rfl
theorem ap_cons {l' l2 : List α} : (a :: l') ++ l2 = a :: (l' ++ l2) := id rfl
theorem ma_nil {u : α → β} : List.map u [] = [] := id rfl
theorem ma_cons {u : α → β} {l' : List α} : List.map u (a :: l') = u a :: List.map u l' := id rfl
theorem ds_nil : dstL [] = true := id rfl
theorem ds_none {ls' : List (Option Nat)} : dstL (none :: ls') = dstL ls' := id rfl
theorem ds_some {ls' : List (Option Nat)} : dstL (some j :: ls') = (!memL j ls' && dstL ls') := id rfl
theorem me_nil : memL j [] = false := id rfl
theorem me_none {ls' : List (Option Nat)} : memL j (none :: ls') = memL j ls' := id rfl
theorem me_some {ls' : List (Option Nat)} : memL j (some i :: ls') = ((i == j) || memL j ls') := id rfl
/-- the end of a def -/
def outs : Nat → List B → List B := fun n ρ => (ρ.take n).map outB
theorem ou_0 : outs 0 ρ = [] := by unfold outs; rfl
theorem ou_s : outs (i + 1) (b :: ρ) = outB b :: outs i ρ := id rfl
theorem ob_val : outB (.val d) = .un := id rfl
theorem ob_own : outB (.own d) = .un := id rfl
theorem ob_un : outB .un = .un := id rfl
theorem ob_exc {n : Str} : outB (.exc n) = .un := id rfl
theorem ob_prm : outB (.prm d) = .prm d := id rfl
def retSl (outs : List B) : Option B → Rs (Ev × List B)
  | some (.val d) => .ok (.val d, outs)
  | some (.own d) => .ok (.fr d, outs)
  | _ => .bad
def leL : Nat → List B → Bool
  | 0, _ => true
  | _ + 1, [] => false
  | n + 1, _ :: l => leL n l
theorem leL_ok : ∀ {n : Nat} {ρ : List B}, leL n ρ = true → n ≤ ρ.length
  | 0, _, _ => Nat.zero_le _
  | n + 1, [], h => by cases h
  | n + 1, b :: l, h => Nat.succ_le_succ (leL_ok (n := n) (ρ := l) h)
theorem leL_of : ∀ {n : Nat} {ρ : List B}, n ≤ ρ.length → leL n ρ = true
  | 0, _, _ => by unfold leL; rfl
  | n + 1, [], h => by cases h
  | n + 1, b :: l, h => leL_of (n := n) (ρ := l) (Nat.le_of_succ_le_succ h)
theorem le_0 : leL 0 ρ = true := by unfold leL; rfl
theorem le_s : leL (i + 1) (b :: ρ) = leL i ρ := id rfl
theorem k_rf1 : retF m (.rt (.val d) ρ) = if leL m ρ = true then .ok (.val d, outs m ρ) else .bad := by
  by_cases h : leL m ρ = true
  · rw [if_pos h]; exact if_pos (leL_ok h)
  · rw [if_neg h]; exact if_neg fun q => h (leL_of q)
theorem k_rf2 : retF m (.rt (.fr d) ρ) = if leL m ρ = true then .ok (.fr d, outs m ρ) else .bad := by
  by_cases h : leL m ρ = true
  · rw [if_pos h]; exact if_pos (leL_ok h)
  · rw [if_neg h]; exact if_neg fun q => h (leL_of q)
theorem k_rf3 : retF m (.rt (.sl i) ρ) = if leL m ρ = true then retSl (outs m ρ) ρ[i]? else .bad := by
  by_cases h : leL m ρ = true
  case neg => rw [if_neg h]; exact if_neg fun q => h (leL_of q)
  rw [if_pos h]
  refine (if_pos (leL_ok h)).trans ?_
  show retF0 _ (.rt (.sl i) ρ) = _
  unfold retF0 retSl
  dsimp only
  cases ρ[i]? with
  | none => rfl
  | some b => cases b <;> rfl
theorem k_rf4 : retF m (.nx ρ) = if leL m ρ = true then .ok (.val .none, outs m ρ) else .bad := by
  by_cases h : leL m ρ = true
  · rw [if_pos h]; exact if_pos (leL_ok h)
  · rw [if_neg h]; exact if_neg fun q => h (leL_of q)
theorem k_rs1 {outs : List B} : retSl outs (some (.val d)) = .ok (.val d, outs) := id rfl
theorem k_rs2 {outs : List B} : retSl outs (some (.own d)) = .ok (.fr d, outs) := id rfl
/-- stores -/
def setG (i : Nat) (y k : PyData) (ρ : List B) : Option B → Rs Fl
  | some b => (match ownD b with
    | some d => (match setD d k y with
      | some d' => .ok (.nx (ρ.set i (reD b d')))
      | none => .bad)
    | none => .bad)
  | none => .bad
def setH (i : Nat) (y : PyData) (ρ : List B) : Option PyData → Rs Fl
  | some k => setG i y k ρ ρ[i]?
  | none => .bad
def setJ (i : Nat) (y : PyData) (q : Ev × List B) : Rs Fl := setH i y q.2 (peek q.2 q.1)
def setK (i : Nat) (fk : SE) (y : PyData) (ρ1 : List B) : Rs Fl := match (ρ1[i]?).bind ownD with
  | some _ => Rs.bind (fk ρ1) (setJ i y)
  | none => .bad
def setL (i : Nat) (fk : SE) (p : Ev × List B) : Rs Fl := shK (setK i fk) p.2 p.1
theorem r_set : setS i fk fe ρ = Rs.bind (fe ρ) (setL i fk) := by
  unfold setS setL shK
  congr 1
theorem k_set1 : setL i fk (e, ρ) = shK (setK i fk) ρ e := id rfl
def setM (fk : SE) (i : Nat) (y : PyData) (ρ1 : List B) : Option PyData → Rs Fl
  | some _ => Rs.bind (fk ρ1) (setJ i y)
  | none => .bad
theorem k_set2 {y : PyData} : setK i fk y ρ = setM fk i y ρ ((ρ[i]?).bind ownD) := by
  unfold setK setM
  rfl
theorem k_set3 {y : PyData} : setM fk i y ρ (some d) = Rs.bind (fk ρ) (setJ i y) := id rfl
theorem k_set4 {y : PyData} : setJ i y (e, ρ) = setH i y ρ (peek ρ e) := id rfl
theorem k_set5 {y k : PyData} : setH i y ρ (some k) = setG i y k ρ ρ[i]? := id rfl
def setO (i : Nat) (b : B) (ρ : List B) : Option PyData → Rs Fl
  | some d' => .ok (.nx (ρ.set i (reD b d')))
  | none => .bad
theorem k_set6 {y k : PyData} : setG i y k ρ (some (.own d)) = setO i (.own d) ρ (setD d k y) := by
  unfold setG setO
  rfl
theorem k_set7 {y k : PyData} : setG i y k ρ (some (.prm d)) = setO i (.prm d) ρ (setD d k y) := by
  unfold setG setO
  rfl
theorem k_set8 {d' : PyData} : setO i (.own d) ρ (some d') = .ok (.nx (ρ.set i (.own d'))) := id rfl
theorem k_set9 {d' : PyData} : setO i (.prm d) ρ (some d') = .ok (.nx (ρ.set i (.prm d'))) := id rfl
/-- a method that writes a list -/
def muA (i : Nat) (mt : PyData → List PyData → Option (PyData × PyData)) (ys : List PyData) (ρ1 : List B) : Option B → Rs (Ev × List B)
  | some b => (match ownD b with
      | some d => (match mt d ys with
        | some (d', v) => .ok (.val v, ρ1.set i (reD b d'))
        | none => .bad)
      | none => .bad)
  | none => .bad
def muB (i : Nat) (mt : PyData → List PyData → Option (PyData × PyData)) : Option (List PyData × List B) → Rs (Ev × List B)
  | some (ys, ρ1) => muA i mt ys ρ1 ρ1[i]?
  | none => .bad
def muC (i : Nat) (mt : PyData → List PyData → Option (PyData × PyData)) (p : List Ev × List B) : Rs (Ev × List B) := muB i mt (shrs p.2 p.1)
def muD (i : Nat) (mt : PyData → List PyData → Option (PyData × PyData)) (fa : SA) (ρ : List B) : Option PyData → Rs (Ev × List B)
  | some d => if isLst d = true then Rs.bind (fa ρ) (muC i mt) else .bad
  | none => .bad
theorem r_mut {mt : PyData → List PyData → Option (PyData × PyData)} : mutE i mt fs ρ = muD i mt fs ρ ((ρ[i]?).bind ownD) := by
  unfold mutE muD
  cases (ρ[i]?).bind ownD <;> rfl
theorem k_mu1 {mt : PyData → List PyData → Option (PyData × PyData)} : muD i mt fs ρ (some (.list ds)) = Rs.bind (fs ρ) (muC i mt) := id rfl
theorem k_mu2 {mt : PyData → List PyData → Option (PyData × PyData)} : muC i mt (es, ρ) = muB i mt (shrs ρ es) := id rfl
theorem k_mu3 {mt : PyData → List PyData → Option (PyData × PyData)} : muB i mt (some (ds, ρ)) = muA i mt ds ρ ρ[i]? := id rfl
def muE (i : Nat) (b : B) (ρ : List B) : Option (PyData × PyData) → Rs (Ev × List B)
  | some (d', v) => .ok (.val v, ρ.set i (reD b d'))
  | none => .bad
theorem k_mu4 {mt : PyData → List PyData → Option (PyData × PyData)} : muA i mt ds ρ (some (.own d)) = muE i (.own d) ρ (mt d ds) := by
  unfold muA muE
  rfl
theorem k_mu5 {mt : PyData → List PyData → Option (PyData × PyData)} : muA i mt ds ρ (some (.prm d)) = muE i (.prm d) ρ (mt d ds) := by
  unfold muA muE
  rfl
theorem k_mu6 {d' v : PyData} : muE i (.own d) ρ (some (d', v)) = .ok (.val v, ρ.set i (.own d')) := id rfl
theorem k_mu7 {d' v : PyData} : muE i (.prm d) ρ (some (d', v)) = .ok (.val v, ρ.set i (.prm d')) := id rfl
theorem k_app {y : PyData} (h : ds.length < sizeLine) : mtApp (.list ds) [y] = some (.list (ds ++ [y]), .none) := by
  unfold mtApp appD
  simp only [if_pos h, Option.map]
theorem k_apps {y : PyData} (h : smallLen ds 100 = true) : mtApp (.list ds) [y] = some (.list (ds ++ [y]), .none) := k_app (Nat.lt_of_le_of_lt (smallLen_ok h) (by decide))
theorem lt_line {n : Nat} (h : n ≤ 1000000) : n < sizeLine := Nat.lt_of_le_of_lt h (by decide)
/-- two names at once -/
def paK2 (i j : Nat) (e1 : Ev) (q : Ev × List B) : Rs Fl := match resv q.2 e1 with
  | some (e1, ρ1) => (match resv ρ1 q.1 with
    | some (e2, ρ2) => (match bindV i e1 ρ2 with
      | .ok ρ3 => (match bindV j e2 ρ3 with
        | .ok ρ4 => .ok (.nx ρ4)
        | _ => .bad)
      | _ => .bad)
    | none => .bad)
  | none => .bad
def paK (i j : Nat) (fb : SE) (p : Ev × List B) : Rs Fl := Rs.bind (fb p.2) (paK2 i j p.1)
theorem r_par : parS i j fa fb ρ = Rs.bind (fa ρ) (paK i j fb) := id rfl
theorem k_par1 : paK i j fb (e, ρ) = Rs.bind (fb ρ) (paK2 i j e) := id rfl
theorem k_par2 : paK2 i j (.val d1) (.val d2, ρ) = .ok (.nx ((ρ.set i (.val d1)).set j (.val d2))) := id rfl
theorem k_par3 : paK2 i j (.val d1) (.fr d2, ρ) = .ok (.nx ((ρ.set i (.val d1)).set j (.own d2))) := id rfl
theorem k_par4 : paK2 i j (.fr d1) (.val d2, ρ) = .ok (.nx ((ρ.set i (.own d1)).set j (.val d2))) := id rfl
theorem k_par5 : paK2 i j (.fr d1) (.fr d2, ρ) = .ok (.nx ((ρ.set i (.own d1)).set j (.own d2))) := id rfl
def p3K (i j l : Nat) : Option (List PyData × List B) → Rs Fl
  | some ([d1, d2, d3], ρ1) => .ok (.nx (((ρ1.set i (.val d1)).set j (.val d2)).set l (.val d3)))
  | _ => .bad
def p3L (i j l : Nat) (p : List Ev × List B) : Rs Fl := p3K i j l (shrs p.2 p.1)
theorem r_par3 : par3S i j l fs ρ = Rs.bind (fs ρ) (p3L i j l) := by
  unfold par3S p3L p3K
  congr 1
theorem k_p3a : p3L i j l (es, ρ) = p3K i j l (shrs ρ es) := id rfl
theorem k_p3b : p3K i j l (some ([d1, d2, d3], ρ)) = .ok (.nx (((ρ.set i (.val d1)).set j (.val d2)).set l (.val d3))) := id rfl
/-- several names at once -/
def pnL (is : List Nat) : Option (List Ev × List B) → Rs Fl
  | some (es, ρ1) => Rs.bind (bindN is es ρ1) fun ρ' => .ok (.nx ρ')
  | none => .bad
def pnK (is : List Nat) (p : List Ev × List B) : Rs Fl := pnL is (resN p.2 p.1)
theorem r_parN {is : List Nat} {fs : List SE} : parN is fs ρ = Rs.bind (evN fs ρ) (pnK is) := by
  unfold parN pnK pnL
  congr 1
theorem k_pn1 {is : List Nat} : pnK is (es, ρ) = pnL is (resN ρ es) := id rfl
def nxK (ρ : List B) : Rs Fl := .ok (.nx ρ)
theorem k_pn2 {is : List Nat} : pnL is (some (es, ρ)) = Rs.bind (bindN is es ρ) nxK := id rfl
theorem k_nx : nxK ρ = .ok (.nx ρ) := id rfl
def evK2 (e : Ev) (q : List Ev × List B) : Rs (List Ev × List B) := .ok (e :: q.1, q.2)
def evK (fs : List SE) (p : Ev × List B) : Rs (List Ev × List B) := Rs.bind (evN fs p.2) (evK2 p.1)
theorem ev_nil : evN [] ρ = .ok ([], ρ) := id rfl
theorem ev_cons {fs : List SE} : evN (fe :: fs) ρ = Rs.bind (fe ρ) (evK fs) := id rfl
theorem k_ev1 {fs : List SE} : evK fs (e, ρ) = Rs.bind (evN fs ρ) (evK2 e) := id rfl
theorem k_ev2 : evK2 e (es, ρ) = .ok (e :: es, ρ) := id rfl
theorem rs_nil : resN ρ [] = some ([], ρ) := id rfl
theorem rs_val : resN ρ (.val d :: es) = (resN ρ es).map fun q => (.val d :: q.1, q.2) := id rfl
theorem rs_fr : resN ρ (.fr d :: es) = (resN ρ es).map fun q => (.fr d :: q.1, q.2) := id rfl
def rsS (ρ : List B) (j : Nat) (es : List Ev) : Option B → Option (List Ev × List B)
  | some (.own d) => (resN (ρ.set j (.val d)) es).map fun q => (.val d :: q.1, q.2)
  | some (.val d) => (resN ρ es).map fun q => (.val d :: q.1, q.2)
  | _ => none
theorem rs_sl : resN ρ (.sl j :: es) = rsS ρ j es ρ[j]? := by
  show ((resv ρ (.sl j)).bind fun p => (resN p.2 es).map fun q => (p.1 :: q.1, q.2)) = _
  unfold resv shr rsS
  dsimp only
  cases ρ[j]? with
  | none => rfl
  | some b => cases b <;> rfl
theorem k_rsS1 : rsS ρ j es (some (.own d)) = (resN (ρ.set j (.val d)) es).map fun q => (.val d :: q.1, q.2) := id rfl
theorem k_rsS2 : rsS ρ j es (some (.val d)) = (resN ρ es).map fun q => (.val d :: q.1, q.2) := id rfl
theorem bn_nil : bindN [] [] ρ = .ok ρ := id rfl
theorem bn_val {is : List Nat} : bindN (i :: is) (.val d :: es) ρ = bindN is es (ρ.set i (.val d)) := id rfl
theorem bn_fr {is : List Nat} : bindN (i :: is) (.fr d :: es) ρ = bindN is es (ρ.set i (.own d)) := id rfl
/-- [..] * k -/
def rpK2 (e : Ev) (q : Ev × List B) : Rs (Ev × List B) := repR q.2 e (peek q.2 q.1)
def rpK (fb : SE) (p : Ev × List B) : Rs (Ev × List B) := Rs.bind (fb p.2) (rpK2 p.1)
theorem r_rep : repE fa fb ρ = Rs.bind (fa ρ) (rpK fb) := id rfl
theorem k_rp1 : rpK fb (e, ρ) = Rs.bind (fb ρ) (rpK2 e) := id rfl
theorem k_rp2 : rpK2 e (e1, ρ) = repR ρ e (peek ρ e1) := id rfl
theorem k_rp3 {k : Int} (h : ds.length ≤ 1000 ∧ k < 10000 ∧ -10000 < k) : repR ρ (.fr (.list ds)) (some (.int k)) = .ok (.fr (.list (List.replicate k.toNat ds).flatten), ρ) := if_pos h
theorem ixN_last {n : Nat} : ixN (n + 1) (-1) = some n := by
  unfold ixN
  rw [if_neg (by omega)]
  split
  · congr 1
    omega
  · omega
theorem set_last {y z : PyData} : setD (.list (ds ++ [z])) (.int (-1)) y = some (.list (ds ++ [y])) := by
  unfold setD
  dsimp only
  rw [List.length_append, show ds.length + [z].length = ds.length + 1 from rfl, ixN_last]
  simp
theorem ix_last {l' : List α} : atI (l' ++ [a]) (-1 : Int) = some a := by
  unfold atI
  rw [List.length_append, show l'.length + [a].length = l'.length + 1 from rfl, ixN_last]
  simp
/-- loops -/
def foK (t : SG) (b : SS) (p : List PyData × List B) : Rs Fl := forL t b p.1 p.2
theorem r_for {b : SS} : forS it t b ρ = Rs.bind (it ρ) (foK t b) := id rfl
theorem k_for {b : SS} : foK t b (ds, ρ) = forL t b ds ρ := id rfl
theorem fo_nil {b : SS} : forL t b [] ρ = .ok (.nx ρ) := by unfold forL; rfl
def foN (t : SG) (b : SS) (ds : List PyData) : Fl → Rs Fl
  | .nx ρ2 => forL t b ds ρ2
  | .ct ρ2 => forL t b ds ρ2
  | .bk ρ2 => .ok (.nx ρ2)
  | .rt e ρ2 => .ok (.rt e ρ2)
def foT (t : SG) (b : SS) (ds : List PyData) : Rs (List B) → Rs Fl
  | .ok ρ1 => Rs.bind (b ρ1) (foN t b ds)
  | _ => .bad
theorem fo_cons {b : SS} : forL t b (d :: ds) ρ = foT t b ds (t d ρ) := by
  conv => lhs; unfold forL
  unfold foT
  cases t d ρ <;> rfl
theorem k_fo0 {b : SS} : foT t b ds (.ok ρ) = Rs.bind (b ρ) (foN t b ds) := id rfl
theorem k_fo1 {b : SS} : foN t b ds (.nx ρ) = forL t b ds ρ := id rfl
theorem k_fo2 {b : SS} : foN t b ds (.ct ρ) = forL t b ds ρ := id rfl
theorem k_fo3 {b : SS} : foN t b ds (.bk ρ) = .ok (.nx ρ) := id rfl
theorem k_fo4 {b : SS} : foN t b ds (.rt e ρ) = .ok (.rt e ρ) := id rfl
/-- one turn of a loop; continue is as the end of the body -/
def tuK : Fl → Rs Fl
  | .ct ρ => .ok (.nx ρ)
  | r => .ok r
def tuT (b : SS) : Rs (List B) → Rs Fl
  | .ok ρ1 => Rs.bind (b ρ1) tuK
  | _ => .bad
def turn (t : SG) (b : SS) (d : PyData) (ρ : List B) : Rs Fl := tuT b (t d ρ)
theorem r_turn {b : SS} : turn t b d ρ = tuT b (t d ρ) := id rfl
theorem k_tu0 {b : SS} : tuT b (.ok ρ) = Rs.bind (b ρ) tuK := id rfl
theorem k_tu1 : tuK (.nx ρ) = .ok (.nx ρ) := id rfl
theorem k_tu2 : tuK (.ct ρ) = .ok (.nx ρ) := id rfl
theorem k_tu3 : tuK (.bk ρ) = .ok (.bk ρ) := id rfl
theorem k_tu4 : tuK (.rt e ρ) = .ok (.rt e ρ) := id rfl
theorem turn_nx {t : SG} {b : SS} {d : PyData} {ρ ρ' : List B} {ds : List PyData} (h : turn t b d ρ = .ok (.nx ρ')) : forL t b (d :: ds) ρ = forL t b ds ρ' := by
  rw [fo_cons]
  unfold turn at h
  cases ht : t d ρ with
  | ex m r => rw [ht] at h; cases h
  | bad => rw [ht] at h; cases h
  | ok ρ3 =>
    rw [ht, k_tu0] at h
    rw [k_fo0]
    cases hb : b ρ3 with
    | ex m r => rw [hb] at h; cases h
    | bad => rw [hb] at h; cases h
    | ok fl =>
      rw [hb, rb_ok] at h
      rw [rb_ok]
      cases fl with
      | nx ρ4 => rw [k_tu1] at h; cases h; rfl
      | ct ρ4 => rw [k_tu2] at h; cases h; rfl
      | bk ρ4 => rw [k_tu3] at h; cases h
      | rt e ρ4 => rw [k_tu4] at h; cases h
theorem turn_rt {t : SG} {b : SS} {d : PyData} {ρ ρ' : List B} {e : Ev} {ds : List PyData} (h : turn t b d ρ = .ok (.rt e ρ')) : forL t b (d :: ds) ρ = .ok (.rt e ρ') := by
  rw [fo_cons]
  unfold turn at h
  cases ht : t d ρ with
  | ex m r => rw [ht] at h; cases h
  | bad => rw [ht] at h; cases h
  | ok ρ3 =>
    rw [ht, k_tu0] at h
    rw [k_fo0]
    cases hb : b ρ3 with
    | ex m r => rw [hb] at h; cases h
    | bad => rw [hb] at h; cases h
    | ok fl =>
      rw [hb, rb_ok] at h
      rw [rb_ok]
      cases fl with
      | nx ρ4 => rw [k_tu1] at h; cases h
      | ct ρ4 => rw [k_tu2] at h; cases h
      | bk ρ4 => rw [k_tu3] at h; cases h
      | rt e ρ4 => rw [k_tu4] at h; cases h; rfl
/-- loops over mapped lists -/
theorem fo_fold {α σ : Type} {enc : α → PyData} {t : SG} {b : SS} (I : σ → List B → Prop) (step : σ → α → σ) : ∀ {xs : List α} {s : σ} {ρ : List B}, I s ρ → (∀ x ∈ xs, ∀ s ρ, I s ρ → ∃ ρ', turn t b (enc x) ρ = .ok (.nx ρ') ∧ I (step s x) ρ') → ∃ ρ', forL t b (xs.map enc) ρ = .ok (.nx ρ') ∧ I (xs.foldl step s) ρ'
  | [], s, ρ, h, _ => ⟨ρ, fo_nil, h⟩
  | x :: xs, s, ρ, h, st => by
    obtain ⟨ρ1, e1, h1⟩ := st x (List.mem_cons_self ..) s ρ h
    obtain ⟨ρ2, e2, h2⟩ := fo_fold I step h1 fun z hz => st z (List.mem_cons_of_mem _ hz)
    exact ⟨ρ2, by rw [List.map_cons, turn_nx e1]; exact e2, h2⟩
theorem fo_range' {enc : Nat → PyData} {t : SG} {b : SS} (I : Nat → List B → Prop) : ∀ {m s : Nat} {ρ : List B}, I s ρ → (∀ i, s ≤ i → i < s + m → ∀ ρ, I i ρ → ∃ ρ', turn t b (enc i) ρ = .ok (.nx ρ') ∧ I (i + 1) ρ') → ∃ ρ', forL t b ((List.range' s m).map enc) ρ = .ok (.nx ρ') ∧ I (s + m) ρ'
  | 0, s, ρ, h, _ => ⟨ρ, fo_nil, h⟩
  | m + 1, s, ρ, h, st => by
    obtain ⟨ρ1, e1, h1⟩ := st s (Nat.le_refl _) (by omega) ρ h
    obtain ⟨ρ2, e2, h2⟩ := fo_range' I (m := m) (s := s + 1) h1 fun i hi hm => st i (by omega) (by omega)
    refine ⟨ρ2, ?_, by rw [show s + (m + 1) = s + 1 + m by omega]; exact h2⟩
    rw [List.range'_succ, List.map_cons, turn_nx e1]
    exact e2
/-- a loop over a range, with the number of turns so far -/
theorem fo_range {enc : Nat → PyData} {t : SG} {b : SS} (I : Nat → List B → Prop) {m : Nat} {ρ : List B} (h : I 0 ρ) (st : ∀ i, i < m → ∀ ρ, I i ρ → ∃ ρ', turn t b (enc i) ρ = .ok (.nx ρ') ∧ I (i + 1) ρ') : ∃ ρ', forL t b ((List.range m).map enc) ρ = .ok (.nx ρ') ∧ I m ρ' := by
  obtain ⟨ρ', e, h'⟩ := fo_range' (enc := enc) (t := t) (b := b) I (m := m) (s := 0) h fun i _ hi => st i (by omega)
  rw [Nat.zero_add] at h'
  exact ⟨ρ', by rw [List.range_eq_range']; exact e, h'⟩
/-- a loop with an invariant of the turn's place -/
theorem fo_inv {α : Type} {enc : α → PyData} {t : SG} {b : SS} (I : List B → Prop) {xs : List α} {ρ : List B} (h0 : I ρ) (st : ∀ x ∈ xs, ∀ ρ, I ρ → ∃ ρ', turn t b (enc x) ρ = .ok (.nx ρ') ∧ I ρ') : ∃ ρ', forL t b (xs.map enc) ρ = .ok (.nx ρ') ∧ I ρ' :=
  fo_fold (σ := Unit) (fun _ => I) (fun s _ => s) (s := ()) h0 fun x hx _ ρ h => st x hx ρ h
/-- a loop that leaves with v at the first x for which p fails -/
theorem fo_all {α : Type} {enc : α → PyData} {t : SG} {b : SS} (I : List B → Prop) (p : α → Bool) (v : Ev) : ∀ {xs : List α} {ρ : List B}, I ρ → (∀ x ∈ xs, ∀ ρ, I ρ → ∃ ρ', turn t b (enc x) ρ = (if p x = true then .ok (.nx ρ') else .ok (.rt v ρ')) ∧ I ρ') → ∃ ρ', forL t b (xs.map enc) ρ = (if xs.all p = true then .ok (.nx ρ') else .ok (.rt v ρ')) ∧ I ρ'
  | [], ρ, h, _ => ⟨ρ, fo_nil, h⟩
  | x :: xs, ρ, h, st => by
    obtain ⟨ρ1, e1, h1⟩ := st x (List.mem_cons_self ..) ρ h
    rw [List.map_cons, List.all_cons]
    by_cases hp : p x = true
    · rw [if_pos hp] at e1
      obtain ⟨ρ2, e2, h2⟩ := fo_all I p v h1 fun z hz => st z (List.mem_cons_of_mem _ hz)
      exact ⟨ρ2, by rw [turn_nx e1, e2, hp, Bool.true_and], h2⟩
    · rw [if_neg hp] at e1
      refine ⟨ρ1, ?_, h1⟩
      rw [turn_rt e1]
      simp only [Bool.not_eq_true] at hp
      rw [hp, Bool.false_and, if_neg (by simp)]
def seqIK (k : PyData → Option (List PyData)) (d : PyData) (ρ1 : List B) : Rs (List PyData × List B) := match k d with
    | some ds => .ok (ds, ρ1)
    | none => .bad
def seqIL (k : PyData → Option (List PyData)) (p : Ev × List B) : Rs (List PyData × List B) := shK (seqIK k) p.2 p.1
theorem r_seqI {k : PyData → Option (List PyData)} : seqI k fe ρ = Rs.bind (fe ρ) (seqIL k) := by
  unfold seqI seqIL shK seqIK
  congr 1
theorem k_seqI {k : PyData → Option (List PyData)} : seqIL k (e, ρ) = shK (seqIK k) ρ e := id rfl
theorem k_seqI1 : seqIK lstK (.list ds) ρ = .ok (ds, ρ) := id rfl
theorem k_seqI3 : seqIK bothK (.list ds) ρ = .ok (ds, ρ) := id rfl
theorem k_seqI5 : seqIK enumK (.list ds) ρ = .ok (enD ds, ρ) := id rfl
theorem k_seqI6 : seqIK enumK (.tuple ds) ρ = .ok (enD ds, ρ) := id rfl
theorem k_seqI4 : seqIK bothK (.tuple ds) ρ = .ok (ds, ρ) := id rfl
theorem k_seqI2 : seqIK tupK (.tuple ds) ρ = .ok (ds, ρ) := id rfl
def rg1 (ρ : List B) : Option (List PyData) → Rs (List PyData × List B)
  | some [.int j] => if rngOk j = true then .ok ((List.range j.toNat).map fun i : Nat => PyData.int (0 + i), ρ) else .bad
  | _ => .bad
def rg1K (p : List Ev × List B) : Rs (List PyData × List B) := rg1 p.2 (peeks p.2 p.1)
theorem r_rng1 : rng1I fs ρ = Rs.bind (fs ρ) rg1K := id rfl
theorem k_rng1 : rg1K (es, ρ) = rg1 ρ (peeks ρ es) := id rfl
theorem k_rng1b {j : Int} (h : rngOk j = true) : rg1 ρ (some [.int j]) = .ok ((List.range j.toNat).map fun i : Nat => PyData.int (0 + i), ρ) := if_pos h
def rg2 (ρ : List B) : Option (List PyData) → Rs (List PyData × List B)
  | some [.int i, .int j] => if (rngOk i && rngOk j) = true then .ok ((List.range (j - i).toNat).map fun k : Nat => PyData.int (i + k), ρ) else .bad
  | _ => .bad
def rg2K (p : List Ev × List B) : Rs (List PyData × List B) := rg2 p.2 (peeks p.2 p.1)
theorem r_rng2 : rng2I fs ρ = Rs.bind (fs ρ) rg2K := id rfl
theorem k_rng2 : rg2K (es, ρ) = rg2 ρ (peeks ρ es) := id rfl
theorem k_rng2b {i j : Int} (h : (rngOk i && rngOk j) = true) : rg2 ρ (some [.int i, .int j]) = .ok ((List.range (j - i).toNat).map fun k : Nat => PyData.int (i + k), ρ) := if_pos h
theorem rgl_0 : (List.range (Int.toNat 0)).map (fun i : Nat => PyData.int (0 + i)) = [] := id rfl
theorem rgl_1 : (List.range (Int.toNat 1)).map (fun i : Nat => PyData.int (0 + i)) = [.int 0] := id rfl
theorem rgl_2 : (List.range (Int.toNat 2)).map (fun i : Nat => PyData.int (0 + i)) = [.int 0, .int 1] := id rfl
theorem rgl_3 : (List.range (Int.toNat 3)).map (fun i : Nat => PyData.int (0 + i)) = [.int 0, .int 1, .int 2] := id rfl
theorem rgl_4 : (List.range (Int.toNat 4)).map (fun i : Nat => PyData.int (0 + i)) = [.int 0, .int 1, .int 2, .int 3] := id rfl
theorem rgl_5 : (List.range (Int.toNat 5)).map (fun i : Nat => PyData.int (0 + i)) = [.int 0, .int 1, .int 2, .int 3, .int 4] := id rfl
theorem rgl_6 : (List.range (Int.toNat 6)).map (fun i : Nat => PyData.int (0 + i)) = [.int 0, .int 1, .int 2, .int 3, .int 4, .int 5] := id rfl
theorem rgl_7 : (List.range (Int.toNat 7)).map (fun i : Nat => PyData.int (0 + i)) = [.int 0, .int 1, .int 2, .int 3, .int 4, .int 5, .int 6] := id rfl
theorem rgl_8 : (List.range (Int.toNat 8)).map (fun i : Nat => PyData.int (0 + i)) = [.int 0, .int 1, .int 2, .int 3, .int 4, .int 5, .int 6, .int 7] := id rfl
theorem rgl_9 : (List.range (Int.toNat 9)).map (fun i : Nat => PyData.int (0 + i)) = [.int 0, .int 1, .int 2, .int 3, .int 4, .int 5, .int 6, .int 7, .int 8] := id rfl
theorem rgl_10 : (List.range (Int.toNat 10)).map (fun i : Nat => PyData.int (0 + i)) = [.int 0, .int 1, .int 2, .int 3, .int 4, .int 5, .int 6, .int 7, .int 8, .int 9] := id rfl
theorem rgl_12 : (List.range (Int.toNat 12)).map (fun i : Nat => PyData.int (0 + i)) = [.int 0, .int 1, .int 2, .int 3, .int 4, .int 5, .int 6, .int 7, .int 8, .int 9, .int 10, .int 11] := id rfl
theorem rgl_16 : (List.range (Int.toNat 16)).map (fun i : Nat => PyData.int (0 + i)) = [.int 0, .int 1, .int 2, .int 3, .int 4, .int 5, .int 6, .int 7, .int 8, .int 9, .int 10, .int 11, .int 12, .int 13, .int 14, .int 15] := id rfl
theorem r1l_1 : (List.range (Int.toNat 1)).map (fun i : Nat => PyData.int (1 + i)) = [.int 1] := id rfl
theorem r1l_2 : (List.range (Int.toNat 2)).map (fun i : Nat => PyData.int (1 + i)) = [.int 1, .int 2] := id rfl
theorem r1l_3 : (List.range (Int.toNat 3)).map (fun i : Nat => PyData.int (1 + i)) = [.int 1, .int 2, .int 3] := id rfl
theorem r1l_4 : (List.range (Int.toNat 4)).map (fun i : Nat => PyData.int (1 + i)) = [.int 1, .int 2, .int 3, .int 4] := id rfl
theorem r1l_5 : (List.range (Int.toNat 5)).map (fun i : Nat => PyData.int (1 + i)) = [.int 1, .int 2, .int 3, .int 4, .int 5] := id rfl
theorem r1l_6 : (List.range (Int.toNat 6)).map (fun i : Nat => PyData.int (1 + i)) = [.int 1, .int 2, .int 3, .int 4, .int 5, .int 6] := id rfl
theorem r1l_8 : (List.range (Int.toNat 8)).map (fun i : Nat => PyData.int (1 + i)) = [.int 1, .int 2, .int 3, .int 4, .int 5, .int 6, .int 7, .int 8] := id rfl
theorem rpl_0 : (List.replicate (Int.toNat 0) [d]).flatten = [] := id rfl
theorem rpl_1 : (List.replicate (Int.toNat 1) [d]).flatten = [d] := id rfl
theorem rpl_2 : (List.replicate (Int.toNat 2) [d]).flatten = [d, d] := id rfl
theorem rpl_3 : (List.replicate (Int.toNat 3) [d]).flatten = [d, d, d] := id rfl
theorem rpl_4 : (List.replicate (Int.toNat 4) [d]).flatten = [d, d, d, d] := id rfl
theorem rpl_5 : (List.replicate (Int.toNat 5) [d]).flatten = [d, d, d, d, d] := id rfl
theorem rpl_6 : (List.replicate (Int.toNat 6) [d]).flatten = [d, d, d, d, d, d] := id rfl
theorem rpl_7 : (List.replicate (Int.toNat 7) [d]).flatten = [d, d, d, d, d, d, d] := id rfl
theorem rpl_8 : (List.replicate (Int.toNat 8) [d]).flatten = [d, d, d, d, d, d, d, d] := id rfl
/-- comprehensions -/
def lcK1 (ρv : List Nat) : Option (List PyData × List B) → Rs (Ev × List B)
  | some (all, ρe) => .ok (.fr (.list all), wipeB ρe ρv)
  | none => .bad
def lcK (t : SG) (c : SB) (fe : SE) (vs : List Nat) (p : List PyData × List B) : Rs (Ev × List B) := lcK1 vs (lcL t c fe vs 0 p.1 (wipeB p.2 vs))
theorem r_lc {vs : List Nat} : lcE it t c fe vs ρ = Rs.bind (it ρ) (lcK t c fe vs) := by
  unfold lcE lcK lcK1
  congr 1
theorem k_lc {vs : List Nat} : lcK t c fe vs (ds, ρ) = lcK1 vs (lcL t c fe vs 0 ds (wipeB ρ vs)) := id rfl
def lcD (t : SG) (c : SB) (fe : SE) (vs : List Nat) (n : Nat) (ds : List PyData) (y : PyData) (ρ4 : List B) : Option (List PyData × List B) := if n < sizeLine then (lcL t c fe vs (n + 1) ds (wipeB ρ4 vs)).map fun p => (y :: p.1, p.2) else none
def lcO (k : PyData → List B → Option (List PyData × List B)) : Option (PyData × List B) → Option (List PyData × List B)
  | some (y, ρ4) => k y ρ4
  | none => none
def lcC (t : SG) (c : SB) (fe : SE) (vs : List Nat) (n : Nat) (ds : List PyData) : Rs (Ev × List B) → Option (List PyData × List B)
  | .ok (e, ρ3) => lcO (lcD t c fe vs n ds) (shr ρ3 (G.settle e))
  | _ => none
def lcB (t : SG) (c : SB) (fe : SE) (vs : List Nat) (n : Nat) (ds : List PyData) : Rs (Bool × List B) → Option (List PyData × List B)
  | .ok (bo, ρ2) => if bo = true then lcC t c fe vs n ds (fe ρ2) else lcL t c fe vs n ds (wipeB ρ2 vs)
  | _ => none
def lcA (t : SG) (c : SB) (fe : SE) (vs : List Nat) (n : Nat) (ds : List PyData) : Rs (List B) → Option (List PyData × List B)
  | .ok ρ1 => lcB t c fe vs n ds (c ρ1)
  | _ => none
theorem l_nil {vs : List Nat} : lcL t c fe vs i [] ρ = some ([], ρ) := by unfold lcL; rfl
theorem l_cons {vs : List Nat} : lcL t c fe vs i (d :: ds) ρ = lcA t c fe vs i ds (t d ρ) := by
  conv => lhs; unfold lcL
  unfold lcA
  cases t d ρ with
  | ex n ρ => rfl
  | bad => rfl
  | ok ρ1 =>
    dsimp only
    unfold lcB
    cases c ρ1 with
    | ex n ρ => rfl
    | bad => rfl
    | ok q =>
      obtain ⟨b, ρ2⟩ := q
      cases b with
      | false => rfl
      | true =>
        dsimp only
        rw [if_pos rfl]
        unfold lcC
        cases fe ρ2 with
        | ex n ρ => rfl
        | bad => rfl
        | ok q =>
          obtain ⟨e, ρ3⟩ := q
          dsimp only
          unfold lcO lcD
          cases shr ρ3 (G.settle e) <;> rfl
theorem l_A {vs : List Nat} : lcA t c fe vs i ds (.ok ρ) = lcB t c fe vs i ds (c ρ) := id rfl
theorem l_B {vs : List Nat} : lcB t c fe vs i ds (.ok (bo, ρ)) = if bo = true then lcC t c fe vs i ds (fe ρ) else lcL t c fe vs i ds (wipeB ρ vs) := id rfl
theorem l_C {vs : List Nat} : lcC t c fe vs i ds (.ok (.val d, ρ)) = lcD t c fe vs i ds d ρ := id rfl
theorem l_C2 {vs : List Nat} : lcC t c fe vs i ds (.ok (.fr d, ρ)) = lcD t c fe vs i ds d ρ := id rfl
def lcS (k : PyData → List B → Option (List PyData × List B)) (j : Nat) (ρ : List B) : Option B → Option (List PyData × List B)
  | some (.own d) => k d (ρ.set j (.val d))
  | some (.val d) => k d ρ
  | _ => none
theorem l_C3 {vs : List Nat} : lcC t c fe vs i ds (.ok (.sl j, ρ)) = lcS (lcD t c fe vs i ds) j ρ ρ[j]? := by
  unfold lcC settle shr lcS lcO
  dsimp only
  cases ρ[j]? with
  | none => rfl
  | some b => cases b <;> rfl
theorem l_S1 {k : PyData → List B → Option (List PyData × List B)} : lcS k j ρ (some (.own d)) = k d (ρ.set j (.val d)) := id rfl
theorem l_S2 {k : PyData → List B → Option (List PyData × List B)} : lcS k j ρ (some (.val d)) = k d ρ := id rfl
theorem l_D {vs : List Nat} (h : i < sizeLine) : lcD t c fe vs i ds d ρ = (lcL t c fe vs (i + 1) ds (wipeB ρ vs)).map fun p => (d :: p.1, p.2) := if_pos h
theorem lcL_cons1 {t : SG} {c : SB} {fe : SE} {vs : List Nat} {d : PyData} {ρ ρ' : List B} {ys : List PyData} (h : lcL t c fe vs 0 [d] ρ = some (ys, ρ')) : ys.length ≤ 1 ∧ ∀ n ds, n < sizeLine → lcL t c fe vs n (d :: ds) ρ = (lcL t c fe vs (n + ys.length) ds ρ').map fun p => (ys ++ p.1, p.2) := by
  rw [l_cons] at h
  cases ht : t d ρ with
  | ex m r => rw [ht] at h; cases h
  | bad => rw [ht] at h; cases h
  | ok ρ1 =>
    rw [ht, l_A] at h
    cases hc : c ρ1 with
    | ex m r => rw [hc] at h; cases h
    | bad => rw [hc] at h; cases h
    | ok q =>
      obtain ⟨b, ρ2⟩ := q
      rw [hc, l_B] at h
      cases b with
      | false =>
        rw [if_neg (by simp), l_nil] at h
        cases h
        refine ⟨by simp, fun n ds hn => ?_⟩
        rw [l_cons, ht, l_A, hc, l_B, if_neg (by simp)]
        simp only [List.length_nil, Nat.add_zero, List.nil_append]
        cases lcL t c fe vs n ds (wipeB ρ2 vs) <;> rfl
      | true =>
        rw [if_pos rfl] at h
        cases hf : fe ρ2 with
        | ex m r => rw [hf] at h; cases h
        | bad => rw [hf] at h; cases h
        | ok q =>
          obtain ⟨e, ρ3⟩ := q
          rw [hf] at h
          unfold lcC at h
          dsimp only at h
          cases hs : shr ρ3 (G.settle e) with
          | none => rw [hs] at h; cases h
          | some q =>
            obtain ⟨y, ρ4⟩ := q
            rw [hs] at h
            unfold lcO lcD at h
            dsimp only at h
            rw [if_pos (by decide), l_nil] at h
            cases h
            refine ⟨by simp, fun n ds hn => ?_⟩
            rw [l_cons, ht, l_A, hc, l_B, if_pos rfl, hf]
            unfold lcC
            dsimp only
            rw [hs]
            unfold lcO lcD
            dsimp only
            rw [if_pos hn]
            rfl
/-- a comprehension whose turns leave the frame as it was -/
theorem lc_fm {α : Type} {enc : α → PyData} {t : SG} {c : SB} {fe : SE} {vs : List Nat} {ρ : List B} (g : α → Option PyData) : ∀ {xs : List α} {n : Nat}, (∀ x ∈ xs, lcL t c fe vs 0 [enc x] ρ = some ((g x).toList, ρ)) → n + xs.length ≤ sizeLine → lcL t c fe vs n (xs.map enc) ρ = some (xs.filterMap g, ρ)
  | [], n, _, _ => by rw [List.map_nil, l_nil]; rfl
  | x :: xs, n, h, hn => by
    simp only [List.length_cons] at hn
    obtain ⟨h1, h2⟩ := lcL_cons1 (h x (List.mem_cons_self ..))
    rw [List.map_cons, h2 n _ (by omega), lc_fm g (fun z hz => h z (List.mem_cons_of_mem _ hz)) (by omega)]
    cases hg : g x with
    | none => rw [List.filterMap_cons_none hg]; rfl
    | some y => rw [List.filterMap_cons_some hg]; rfl
theorem lc_map {α : Type} {enc : α → PyData} {t : SG} {c : SB} {fe : SE} {vs : List Nat} {ρ : List B} (g : α → PyData) {xs : List α} {n : Nat} (h : ∀ x ∈ xs, lcL t c fe vs 0 [enc x] ρ = some ([g x], ρ)) (hn : n + xs.length ≤ sizeLine) : lcL t c fe vs n (xs.map enc) ρ = some (xs.map g, ρ) := by
  rw [lc_fm (fun x => some (g x)) (fun x hx => h x hx) hn]
  congr 2
  exact congrFun (List.filterMap_eq_map (f := g)) xs
theorem k_lc1 {vs : List Nat} : lcK1 vs (some (ds, ρ)) = .ok (.fr (.list ds), wipeB ρ vs) := id rfl
theorem wi_nil : wipeB ρ [] = ρ := id rfl
theorem wi_cons {vs : List Nat} : wipeB ρ (i :: vs) = (wipeB ρ vs).set i .un := id rfl
theorem mulOk_l {x y : Int} (h : smallI x = true) : mulOk x y = true := by unfold mulOk; rw [h]; rfl
theorem mulOk_r {x y : Int} (h : smallI y = true) : mulOk x y = true := by unfold mulOk; rw [h]; simp
/-- slices -/
def slO (o o2 : Option Int) : Option PyData → Option Ev
  | some d => cutD d o o2
  | none => none
def slK3 (e : Ev) (o : Option Int) (q : Option Int × List B) : Rs (Ev × List B) := resE q.2 (slO o q.1 (peek q.2 e))
def slK2 (ph : SP) (e : Ev) (q : Option Int × List B) : Rs (Ev × List B) := Rs.bind (ptP ph q.2) (slK3 e q.1)
def slK1 (pl ph : SP) (p : Ev × List B) : Rs (Ev × List B) := Rs.bind (ptP pl p.2) (slK2 ph p.1)
theorem r_sl {pl ph : SP} : slE fe pl ph ρ = Rs.bind (fe ρ) (slK1 pl ph) := by
  unfold slE slK1
  congr 1
  funext p
  congr 1
  funext l
  unfold slK2
  congr 1
  funext u
  unfold slK3 slO
  cases peek u.2 p.1 <;> rfl
theorem k_sla {pl ph : SP} : slK1 pl ph (e, ρ) = Rs.bind (ptP pl ρ) (slK2 ph e) := id rfl
theorem k_slb {ph : SP} {o : Option Int} : slK2 ph e (o, ρ) = Rs.bind (ptP ph ρ) (slK3 e o) := id rfl
theorem k_slc {o o2 : Option Int} : slK3 e o (o2, ρ) = resE ρ (slO o o2 (peek ρ e)) := id rfl
theorem k_sld {o o2 : Option Int} : slO o o2 (some d) = cutD d o o2 := id rfl
theorem pt_n : ptP none ρ = .ok (none, ρ) := id rfl
def ptK (p : Ev × List B) : Rs (Option Int × List B) := match peek p.2 p.1 with
    | some (.int i) => .ok (some i, p.2)
    | _ => .bad
theorem pt_s : ptP (some fe) ρ = Rs.bind (fe ρ) ptK := id rfl
theorem k_pt {x : Int} : ptK (.val (.int x), ρ) = .ok (some x, ρ) := id rfl
theorem cu_t {o o2 : Option Int} : cutD (.tuple ds) o o2 = some (.val (.tuple (cutL ds o o2))) := id rfl
theorem cu_l {o o2 : Option Int} : cutD (.list ds) o o2 = some (.fr (.list (cutL ds o o2))) := id rfl
theorem cu_1n {l' : List α} : cutL (a :: l') (some 1) none = l' := by
  unfold cutL
  have h1 : HT.sIx (a :: l').length 0 (some 1) = 1 := by unfold HT.sIx; simp
  have h2 : HT.sIx (a :: l').length (a :: l').length none = (a :: l').length := by unfold HT.sIx; rfl
  rw [h1, h2]
  simp
theorem cu_2n {a2 : α} {l' : List α} : cutL (a :: a2 :: l') (some 2) none = l' := by
  unfold cutL
  have h1 : HT.sIx (a :: a2 :: l').length 0 (some 2) = 2 := by unfold HT.sIx; simp
  have h2 : HT.sIx (a :: a2 :: l').length (a :: a2 :: l').length none = (a :: a2 :: l').length := by unfold HT.sIx; rfl
  rw [h1, h2]
  simp
theorem cu_n1 {l' : List α} : cutL (a :: l') none (some 1) = [a] := by
  unfold cutL
  have h1 : HT.sIx (a :: l').length 0 none = 0 := by unfold HT.sIx; rfl
  have h2 : HT.sIx (a :: l').length (a :: l').length (some 1) = 1 := by unfold HT.sIx; simp
  rw [h1, h2]
  simp
/-- data -/
theorem d_add {x y : Int} : addD (.int x) (.int y) = some (.val (.int (x + y))) := id rfl
theorem d_addT {xs ys : List PyData} (h : xs.length + ys.length ≤ sizeLine) : addD (.tuple xs) (.tuple ys) = some (.val (.tuple (xs ++ ys))) := if_pos h
theorem d_addTs {xs ys : List PyData} (h : smallLen (xs ++ ys) 100 = true) : addD (.tuple xs) (.tuple ys) = some (.val (.tuple (xs ++ ys))) := d_addT (by have := len_ok h; simpa using this)
theorem d_addL {xs ys : List PyData} (h : xs.length + ys.length ≤ sizeLine) : addD (.list xs) (.list ys) = some (.fr (.list (xs ++ ys))) := if_pos h
theorem d_addLs {xs ys : List PyData} (h : smallLen (xs ++ ys) 100 = true) : addD (.list xs) (.list ys) = some (.fr (.list (xs ++ ys))) := d_addL (by have := len_ok h; simpa using this)
theorem d_sub {x y : Int} : subD (.int x) (.int y) = some (.val (.int (x - y))) := id rfl
theorem d_mul {x y : Int} (h : mulOk x y = true) : mulD (.int x) (.int y) = some (.val (.int (x * y))) := if_pos h
theorem d_fdiv {x y : Int} (h : divOk y = true) : fdivD (.int x) (.int y) = some (.val (.int (x.fdiv y))) := if_pos h
theorem d_mod {x y : Int} (h : y ≠ 0) : modD (.int x) (.int y) = some (.val (.int (x.fmod y))) := if_neg h
theorem d_neg {x : Int} : negD (.int x) = some (.val (.int (-x))) := id rfl
theorem d_cmp {x y : Int} {k : Int → Int → Bool} : cmpI k (.int x) (.int y) = some (.val (.bool (k x y))) := id rfl
theorem d_ixT {k : Int} : ixD (.tuple ds) (.int k) = (atI ds k).map .val := id rfl
theorem d_ixL {k : Int} : ixD (.list ds) (.int k) = (atI ds k).map .val := id rfl
theorem at_0 {l' : List α} : atI (a :: l') (0 : Int) = some a := atI_nat (j := 0) rfl
theorem at_1 {a0 : α} {l' : List α} : atI (a0 :: a :: l') (1 : Int) = some a := atI_nat (j := 1) rfl
theorem at_2 {a0 a1 : α} {l' : List α} : atI (a0 :: a1 :: a :: l') (2 : Int) = some a := atI_nat (j := 2) rfl
theorem at_3 {a0 a1 a2 : α} {l' : List α} : atI (a0 :: a1 :: a2 :: a :: l') (3 : Int) = some a := atI_nat (j := 3) rfl
theorem d_lenL : lenD [.list ds] = some (.val (.int ds.length)) := id rfl
theorem d_lenT : lenD [.tuple ds] = some (.val (.int ds.length)) := id rfl
theorem d_tupL : tupleD [.list ds] = some (.val (.tuple ds)) := id rfl
theorem d_tupT : tupleD [.tuple ds] = some (.val (.tuple ds)) := id rfl
def allK (o : Option (List Bool)) : Option Ev := o.map fun bs => .val (.bool (bs.all id))
theorem d_all : allD [.list ds] = allK (boolsD ds) := id rfl
theorem k_all {bs : List Bool} : allK (some bs) = some (.val (.bool (bs.all id))) := id rfl
def anyK (o : Option (List Bool)) : Option Ev := o.map fun bs => .val (.bool (bs.any id))
theorem d_any : anyD [.list ds] = anyK (boolsD ds) := id rfl
theorem k_any {bs : List Bool} : anyK (some bs) = some (.val (.bool (bs.any id))) := id rfl
theorem bo_nil : boolsD [] = some [] := id rfl
theorem bo_cons : boolsD (.bool bo :: ds) = (boolsD ds).map (bo :: ·) := id rfl
theorem al_nil {u : α → Bool} : List.all [] u = true := id rfl
theorem al_cons {u : α → Bool} {l' : List α} : List.all (a :: l') u = (u a && List.all l' u) := id rfl
theorem al_map {u : α → Bool} : ∀ {l' : List α}, (l'.map u).all id = l'.all u
  | [] => rfl
  | a :: l' => by simp only [List.map_cons, List.all_cons, id, al_map (l' := l')]
theorem an_nil {u : α → Bool} : List.any [] u = false := id rfl
theorem an_cons {u : α → Bool} {l' : List α} : List.any (a :: l') u = (u a || List.any l' u) := id rfl
theorem an_map {u : α → Bool} : ∀ {l' : List α}, (l'.map u).any id = l'.any u
  | [] => rfl
  | a :: l' => by simp only [List.map_cons, List.any_cons, id, an_map (l' := l')]
theorem id_b {b : Bool} : id b = b := id rfl
theorem bo_map {u : α → Bool} {l' : List α} : boolsD (l'.map fun z => PyData.bool (u z)) = some (l'.map u) := by
  induction l' with
  | nil => rfl
  | cons z l' ih =>
    show (boolsD (l'.map fun z => PyData.bool (u z))).map (u z :: ·) = _
    rw [ih]
    rfl
theorem d_max {x y : Int} : max2D [.int x, .int y] = some (.val (.int (if y > x then y else x))) := id rfl
theorem d_min {x y : Int} : min2D [.int x, .int y] = some (.val (.int (if y < x then y else x))) := id rfl
theorem d_listL : listD [.list ds] = some (.fr (.list ds)) := id rfl
theorem d_listT : listD [.tuple ds] = some (.fr (.list ds)) := id rfl
theorem d_p18 : powD (.int 10) (.int 18) = some (.val (.int 1000000000000000000)) := id rfl
theorem d_p13 : powD (.int 10) (.int 13) = some (.val (.int 10000000000000)) := id rfl
theorem d_p12 : powD (.int 10) (.int 12) = some (.val (.int 1000000000000)) := id rfl
theorem d_is {x : PyData} : isD x .none = some (.val (.bool (isNoneD x))) := by unfold isD; cases x <;> rfl
theorem d_abs {x : Int} : absD [.int x] = some (.val (.int (if x < 0 then -x else x))) := id rfl
theorem d_repr (h : reprOk d = true) : reprD [d] = some (.val (.str d.shown)) := if_pos h
theorem d_eqS {x y : Str} : eqD (.str x) (.str y) = some (.val (.bool (x == y))) := by
  unfold eqD
  rw [if_pos (by rfl : (str2 (PyData.str x) (PyData.str y) || _) = true)]
  rfl
theorem d_neS {x y : Str} : neD (.str x) (.str y) = some (.val (.bool (!(x == y)))) := by
  unfold neD
  rw [if_pos (by rfl : (str2 (PyData.str x) (PyData.str y) || _) = true)]
  rfl
theorem d_eqI {x y : Int} : eqD (.int x) (.int y) = some (.val (.bool (decide (x = y)))) := by
  unfold eqD
  rw [if_pos (by rfl : (str2 (PyData.int x) (PyData.int y) || _) = true)]
  simp only [PyData.eqv]
  congr 3
theorem d_neI {x y : Int} : neD (.int x) (.int y) = some (.val (.bool (!decide (x = y)))) := by
  unfold neD
  rw [if_pos (by rfl : (str2 (PyData.int x) (PyData.int y) || _) = true)]
  simp only [PyData.eqv]
  congr 3
theorem d_isi {T : String} : isiD T d = some (.val (.bool (isiB T d))) := id rfl
theorem isy_int_none : isiB "int" .none = false := id rfl
theorem isy_int_bool {bo : Bool} : isiB "int" (.bool bo) = true := id rfl
theorem isy_int_int {x : Int} : isiB "int" (.int x) = true := id rfl
theorem isy_int_str {x : Str} : isiB "int" (.str x) = false := id rfl
theorem isy_int_list : isiB "int" (.list ds) = false := id rfl
theorem isy_int_tuple : isiB "int" (.tuple ds) = false := id rfl
theorem isy_int_dict {kv : List (PyData × PyData)} : isiB "int" (.dict kv) = false := id rfl
theorem isy_bool_none : isiB "bool" .none = false := id rfl
theorem isy_bool_bool {bo : Bool} : isiB "bool" (.bool bo) = true := id rfl
theorem isy_bool_int {x : Int} : isiB "bool" (.int x) = false := id rfl
theorem isy_bool_str {x : Str} : isiB "bool" (.str x) = false := id rfl
theorem isy_bool_list : isiB "bool" (.list ds) = false := id rfl
theorem isy_bool_tuple : isiB "bool" (.tuple ds) = false := id rfl
theorem isy_bool_dict {kv : List (PyData × PyData)} : isiB "bool" (.dict kv) = false := id rfl
theorem isy_tuple_none : isiB "tuple" .none = false := id rfl
theorem isy_tuple_bool {bo : Bool} : isiB "tuple" (.bool bo) = false := id rfl
theorem isy_tuple_int {x : Int} : isiB "tuple" (.int x) = false := id rfl
theorem isy_tuple_str {x : Str} : isiB "tuple" (.str x) = false := id rfl
theorem isy_tuple_list : isiB "tuple" (.list ds) = false := id rfl
theorem isy_tuple_tuple : isiB "tuple" (.tuple ds) = true := id rfl
theorem isy_tuple_dict {kv : List (PyData × PyData)} : isiB "tuple" (.dict kv) = false := id rfl
theorem isy_list_none : isiB "list" .none = false := id rfl
theorem isy_list_bool {bo : Bool} : isiB "list" (.bool bo) = false := id rfl
theorem isy_list_int {x : Int} : isiB "list" (.int x) = false := id rfl
theorem isy_list_str {x : Str} : isiB "list" (.str x) = false := id rfl
theorem isy_list_list : isiB "list" (.list ds) = true := id rfl
theorem isy_list_tuple : isiB "list" (.tuple ds) = false := id rfl
theorem isy_list_dict {kv : List (PyData × PyData)} : isiB "list" (.dict kv) = false := id rfl
theorem isy_str_none : isiB "str" .none = false := id rfl
theorem isy_str_bool {bo : Bool} : isiB "str" (.bool bo) = false := id rfl
theorem isy_str_int {x : Int} : isiB "str" (.int x) = false := id rfl
theorem isy_str_str {x : Str} : isiB "str" (.str x) = true := id rfl
theorem isy_str_list : isiB "str" (.list ds) = false := id rfl
theorem isy_str_tuple : isiB "str" (.tuple ds) = false := id rfl
theorem isy_str_dict {kv : List (PyData × PyData)} : isiB "str" (.dict kv) = false := id rfl
theorem isy_dict_none : isiB "dict" .none = false := id rfl
theorem isy_dict_bool {bo : Bool} : isiB "dict" (.bool bo) = false := id rfl
theorem isy_dict_int {x : Int} : isiB "dict" (.int x) = false := id rfl
theorem isy_dict_str {x : Str} : isiB "dict" (.str x) = false := id rfl
theorem isy_dict_list : isiB "dict" (.list ds) = false := id rfl
theorem isy_dict_tuple : isiB "dict" (.tuple ds) = false := id rfl
theorem isy_dict_dict {kv : List (PyData × PyData)} : isiB "dict" (.dict kv) = true := id rfl
theorem it_t {x y : α} : (if True then x else y) = x := if_pos trivial
theorem it_f {x y : α} : (if False then x else y) = y := if_neg fun h => h
theorem b_tt : (true = true) = True := by simp
theorem b_ft : (false = true) = False := by simp
theorem b_nt : (!true) = false := id rfl
theorem b_nf : (!false) = true := id rfl
theorem b_ta {b : Bool} : (true && b) = b := by simp
theorem b_fa {b : Bool} : (false && b) = false := by simp
theorem b_at {b : Bool} : (b && true) = b := by simp
theorem b_to {b : Bool} : (true || b) = true := by simp
theorem b_fo {b : Bool} : (false || b) = b := by simp
theorem lI_0 : (([] : List α).length : Int) = 0 := id rfl
theorem lI_1 {a1 : α} : (([a1] : List α).length : Int) = 1 := id rfl
theorem lI_2 {a1 a2 : α} : (([a1, a2] : List α).length : Int) = 2 := id rfl
theorem lI_3 {a1 a2 a3 : α} : (([a1, a2, a3] : List α).length : Int) = 3 := id rfl
theorem lI_4 {a1 a2 a3 a4 : α} : (([a1, a2, a3, a4] : List α).length : Int) = 4 := id rfl
theorem lI_5 {a1 a2 a3 a4 a5 : α} : (([a1, a2, a3, a4, a5] : List α).length : Int) = 5 := id rfl
theorem lI_m {l' : List α} {u : α → β} : ((l'.map u).length : Int) = l'.length := by rw [List.length_map]
theorem bs_f {x y : Str} (h : decide (x = y) = false) : (x == y) = false := beq_eq_false_iff_ne.mpr (of_decide_eq_false h)
theorem es_f {x y : Str} (h : decide (x = y) = false) : (x = y) = False := eq_false (of_decide_eq_false h)
theorem bb_tt : (true == true) = true := id rfl
theorem bb_tf : (true == false) = false := id rfl
theorem bb_ft : (false == true) = false := id rfl
theorem bb_ff : (false == false) = true := id rfl
theorem bq_s {x : Str} : (x == x) = true := beq_self_eq_true x
/-- dicts -/
def dicM (ρ : List B) : Option (List (Key × PyData)) → Rs (Ev × List B)
  | some m => if m.length ≤ 15 then .ok (.fr (.dict (mergeD [] m)), ρ) else .bad
  | none => .bad
def dicL : Option (List PyData × List B) → Rs (Ev × List B)
  | some (ds, ρ') => dicM ρ' (pairsD ds)
  | none => .bad
def dicK (p : List Ev × List B) : Rs (Ev × List B) := dicL (shrs p.2 p.1)
theorem r_dic {prs : List (SE × SE)} : dicE prs ρ = Rs.bind (flatA prs ρ) dicK := by
  unfold dicE dicK dicL dicM
  congr 1
theorem k_dic1 : dicK (es, ρ) = dicL (shrs ρ es) := id rfl
theorem k_dic2 : dicL (some (ds, ρ)) = dicM ρ (pairsD ds) := id rfl
theorem k_dic3 {mm : List (Key × PyData)} (h : mm.length ≤ 15) : dicM ρ (some mm) = .ok (.fr (.dict (mergeD [] mm)), ρ) := if_pos h
theorem k_dic4 {q : Key} : dicM ρ (some [(q, d)]) = .ok (.fr (.dict [(kD q, d)]), ρ) := id rfl
theorem k_kD1 {x : Int} : kD (.inl x) = .int x := id rfl
theorem k_kD2 {x : Str} : kD (.inr x) = .str x := id rfl
theorem k_fl0 : flatA [] = aNil := id rfl
theorem k_fl1 {prs : List (SE × SE)} : flatA ((fk, fe) :: prs) = aCons fk (aCons fe (flatA prs)) := id rfl
theorem k_pr0 : pairsD [] = some [] := id rfl
theorem k_pr1 {x : Int} : pairsD (.int x :: d :: ds) = (pairsD ds).map fun m => (.inl x, d) :: m := id rfl
theorem k_pr2 {x : Str} : pairsD (.str x :: d :: ds) = (pairsD ds).map fun m => (.inr x, d) :: m := id rfl
theorem r_dic0 : dic0E ρ = .ok (.fr (.dict []), ρ) := id rfl
theorem d_ixDi {kvs : List (PyData × PyData)} {x : Int} : ixD (.dict kvs) (.int x) = (dget kvs (.inl x)).map .val := id rfl
theorem d_ixDs {kvs : List (PyData × PyData)} {x : Str} : ixD (.dict kvs) (.str x) = (dget kvs (.inr x)).map .val := id rfl
theorem d_inGT {x : PyData} : inG x (.tuple ds) = inD x (.tuple ds) := id rfl
theorem d_inGL {x : PyData} : inG x (.list ds) = inD x (.list ds) := id rfl
theorem d_ninGT {x : PyData} : ninG x (.tuple ds) = ninD x (.tuple ds) := id rfl
theorem d_ninGL {x : PyData} : ninG x (.list ds) = ninD x (.list ds) := id rfl
theorem d_inGi {kvs : List (PyData × PyData)} {x : Int} (h : keyed kvs = true) : inG (.int x) (.dict kvs) = some (.val (.bool (dget kvs (.inl x)).isSome)) := by
  unfold inG
  simp only [keyOf, Option.bind, if_pos h]
theorem d_ninGi {kvs : List (PyData × PyData)} {x : Int} (h : keyed kvs = true) : ninG (.int x) (.dict kvs) = some (.val (.bool (!(dget kvs (.inl x)).isSome))) := by
  unfold ninG
  simp only [keyOf, Option.bind, if_pos h]
theorem k_vals {kvs : List (PyData × PyData)} (h : keyed kvs = true) : seqIK valsK (.dict kvs) ρ = .ok (kvs.map (·.2), ρ) := by
  unfold seqIK valsK
  simp only [if_pos h]
theorem k_items {kvs : List (PyData × PyData)} (h : keyed kvs = true) : seqIK itemsK (.dict kvs) ρ = .ok (kvs.map fun p => .tuple [p.1, p.2], ρ) := by
  unfold seqIK itemsK
  simp only [if_pos h]
theorem d_setDi {kvs : List (PyData × PyData)} {x : Int} {y : PyData} (h : keyed kvs = true) (h2 : kvs.length < 1000000) : setD (.dict kvs) (.int x) y = some (.dict (dput kvs (.inl x) y)) := by
  unfold setD
  simp only [keyOf, Option.bind, h, h2, and_self, if_true]
theorem dg_nil {q : Key} : dget [] q = none := id rfl
theorem dg_i {kvs : List (PyData × PyData)} {x y : Int} : dget ((.int x, d) :: kvs) (.inl y) = if x = y then some d else dget kvs (.inl y) := by
  show (if keyOf (.int x) = some (.inl y) then some d else dget kvs (.inl y)) = _
  by_cases h : x = y
  · rw [if_pos h, if_pos (by rw [h]; rfl)]
  · rw [if_neg h, if_neg (fun z => h (by cases z; rfl))]
theorem dg_s {kvs : List (PyData × PyData)} {x y : Str} : dget ((.str x, d) :: kvs) (.inr y) = if x = y then some d else dget kvs (.inr y) := by
  show (if keyOf (.str x) = some (.inr y) then some d else dget kvs (.inr y)) = _
  by_cases h : x = y
  · rw [if_pos h, if_pos (by rw [h]; rfl)]
  · rw [if_neg h, if_neg (fun z => h (by cases z; rfl))]
def dputK : Option PyData → List (PyData × PyData) → Key → PyData → List (PyData × PyData)
  | none, kvs, q, d => kvs ++ [(kD q, d)]
  | some _, kvs, q, d => kvs.map (fun p => if keyOf p.1 = some q then (p.1, d) else p)
theorem dput_K {kvs : List (PyData × PyData)} {q : Key} : dput kvs q d = dputK (dget kvs q) kvs q d := by
  unfold dput dputK
  cases dget kvs q <;> rfl
theorem mg_0 {kvs : List (PyData × PyData)} : mergeD kvs [] = kvs := by unfold mergeD; rfl
theorem mg_s {kvs : List (PyData × PyData)} {q : Key} {r' : List (Key × PyData)} : mergeD kvs ((q, d) :: r') = mergeD (dputK (dget kvs q) kvs q d) r' := by
  conv => lhs; unfold mergeD
  rw [dput_K]
theorem dpk_n {kvs : List (PyData × PyData)} {q : Key} : dputK none kvs q d = kvs ++ [(kD q, d)] := id rfl
theorem ky_i {kvs : List (PyData × PyData)} {x : Int} : keyed ((.int x, d) :: kvs) = true := id rfl
theorem ky_s {kvs : List (PyData × PyData)} {x : Str} : keyed ((.str x, d) :: kvs) = true := id rfl
/-- equality of data -/
def shN (n : Nat) (d : PyData) : Bool := d.canLay0 && decide (d.depth ≤ n)
def shA (n : Nat) (ds : List PyData) : Bool := ds.all (shN n)
theorem shA_nil {n : Nat} : shA n [] = true := id rfl
theorem shA_cons {n : Nat} : shA n (d :: ds) = (shN n d && shA n ds) := id rfl
theorem shN_int {n : Nat} {x : Int} : shN n (.int x) = true := by unfold shN PyData.canLay0 PyData.depth; simp
theorem shN_bool {n : Nat} {x : Bool} : shN n (.bool x) = true := by unfold shN PyData.canLay0 PyData.depth; simp
theorem shN_none {n : Nat} : shN n .none = true := by unfold shN PyData.canLay0 PyData.depth; simp
theorem shN_str {n : Nat} {x : Str} (h : PyData.strOk x = true) : shN n (.str x) = true := by unfold shN PyData.canLay0 PyData.depth; simp [h]
theorem shA_ok {n : Nat} {ds : List PyData} : (PyData.canLayAll0 ds && decide (PyData.depthAll ds ≤ n)) = shA n ds := by
  induction ds with
  | nil => unfold shA PyData.canLayAll0 PyData.depthAll; simp
  | cons d ds ih =>
    rw [shA_cons, ← ih]
    unfold shN
    rw [show PyData.canLayAll0 (d :: ds) = (d.canLay0 && PyData.canLayAll0 ds) by simp [PyData.canLayAll0], show PyData.depthAll (d :: ds) = max d.depth (PyData.depthAll ds) by simp [PyData.depthAll]]
    cases d.canLay0 <;> cases PyData.canLayAll0 ds <;> simp [Nat.max_le]
theorem shN_tup {n : Nat} {ds : List PyData} : shN (n + 1) (.tuple ds) = shA n ds := by
  rw [← shA_ok]
  unfold shN
  rw [show PyData.canLay0 (.tuple ds) = PyData.canLayAll0 ds by simp [PyData.canLay0], show PyData.depth (.tuple ds) = PyData.depthAll ds + 1 by simp [PyData.depth]]
  simp
theorem shN_lst {n : Nat} {ds : List PyData} : shN (n + 1) (.list ds) = shA n ds := by
  rw [← shA_ok]
  unfold shN
  rw [show PyData.canLay0 (.list ds) = PyData.canLayAll0 ds by simp [PyData.canLay0], show PyData.depth (.list ds) = PyData.depthAll ds + 1 by simp [PyData.depth]]
  simp
theorem sh_of {x : PyData} (h : shN 64 x = true) : SeqAt.shaped x = true := h
theorem d_eqX {x y : PyData} (hx : shN 64 x = true) (hy : shN 64 y = true) : eqD x y = some (.val (.bool (PyData.eqv x y))) := by
  unfold eqD
  rw [sh_of hx, sh_of hy]
  simp
theorem d_neX {x y : PyData} (hx : shN 64 x = true) (hy : shN 64 y = true) : neD x y = some (.val (.bool (!PyData.eqv x y))) := by
  unfold neD
  rw [sh_of hx, sh_of hy]
  simp
theorem d_inT {x : PyData} (hx : shN 64 x = true) (hy : shN 64 (.tuple ds) = true) : inD x (.tuple ds) = some (.val (.bool (ds.any fun z => PyData.eqv z x))) := by
  unfold inD itemsD
  simp only [Option.bind, sh_of hx, sh_of hy, Bool.and_self, if_true]
theorem d_inL {x : PyData} (hx : shN 64 x = true) (hy : shN 64 (.list ds) = true) : inD x (.list ds) = some (.val (.bool (ds.any fun z => PyData.eqv z x))) := by
  unfold inD itemsD
  simp only [Option.bind, sh_of hx, sh_of hy, Bool.and_self, if_true]
theorem d_ninT {x : PyData} (hx : shN 64 x = true) (hy : shN 64 (.tuple ds) = true) : ninD x (.tuple ds) = some (.val (.bool (!ds.any fun z => PyData.eqv z x))) := by
  unfold ninD itemsD
  simp only [Option.bind, sh_of hx, sh_of hy, Bool.and_self, if_true]
theorem d_ninL {x : PyData} (hx : shN 64 x = true) (hy : shN 64 (.list ds) = true) : ninD x (.list ds) = some (.val (.bool (!ds.any fun z => PyData.eqv z x))) := by
  unfold ninD itemsD
  simp only [Option.bind, sh_of hx, sh_of hy, Bool.and_self, if_true]
theorem ev_ii {x y : Int} : PyData.eqv (.int x) (.int y) = decide (x = y) := by simp only [PyData.eqv]; rfl
theorem ev_bb {x y : Bool} : PyData.eqv (.bool x) (.bool y) = (x == y) := id rfl
theorem ev_ss {x y : Str} : PyData.eqv (.str x) (.str y) = (x == y) := id rfl
theorem ev_nn : PyData.eqv .none .none = true := id rfl
theorem ev_tt {xs ys : List PyData} : PyData.eqv (.tuple xs) (.tuple ys) = PyData.eqvAll xs ys := by simp only [PyData.eqv]
theorem ev_ll {xs ys : List PyData} : PyData.eqv (.list xs) (.list ys) = PyData.eqvAll xs ys := by simp only [PyData.eqv]
theorem ev_0 : PyData.eqvAll [] [] = true := by simp only [PyData.eqvAll]
theorem ev_c {x y : PyData} {xs ys : List PyData} : PyData.eqvAll (x :: xs) (y :: ys) = (PyData.eqv x y && PyData.eqvAll xs ys) := by simp only [PyData.eqvAll]
theorem ev_c0 {x : PyData} {xs : List PyData} : PyData.eqvAll (x :: xs) [] = false := by simp only [PyData.eqvAll]
theorem ev_0c {x : PyData} {xs : List PyData} : PyData.eqvAll [] (x :: xs) = false := by simp only [PyData.eqvAll]
theorem ev_none_bool {b1_ : Bool} : PyData.eqv .none (.bool b1_) = false := id rfl
theorem ev_none_int {i1_ : Int} : PyData.eqv .none (.int i1_) = false := id rfl
theorem ev_none_str {x1_ : Str} : PyData.eqv .none (.str x1_) = false := id rfl
theorem ev_none_list {l1_ : List PyData} : PyData.eqv .none (.list l1_) = false := id rfl
theorem ev_none_tuple {t1_ : List PyData} : PyData.eqv .none (.tuple t1_) = false := id rfl
theorem ev_bool_none {b1_ : Bool} : PyData.eqv (.bool b1_) .none = false := id rfl
theorem ev_bool_str {b1_ : Bool} {x1_ : Str} : PyData.eqv (.bool b1_) (.str x1_) = false := id rfl
theorem ev_bool_list {b1_ : Bool} {l1_ : List PyData} : PyData.eqv (.bool b1_) (.list l1_) = false := id rfl
theorem ev_bool_tuple {b1_ : Bool} {t1_ : List PyData} : PyData.eqv (.bool b1_) (.tuple t1_) = false := id rfl
theorem ev_int_none {i1_ : Int} : PyData.eqv (.int i1_) .none = false := id rfl
theorem ev_int_str {i1_ : Int} {x1_ : Str} : PyData.eqv (.int i1_) (.str x1_) = false := id rfl
theorem ev_int_list {i1_ : Int} {l1_ : List PyData} : PyData.eqv (.int i1_) (.list l1_) = false := id rfl
theorem ev_int_tuple {i1_ : Int} {t1_ : List PyData} : PyData.eqv (.int i1_) (.tuple t1_) = false := id rfl
theorem ev_str_none {x1_ : Str} : PyData.eqv (.str x1_) .none = false := id rfl
theorem ev_str_bool {x1_ : Str} {b1_ : Bool} : PyData.eqv (.str x1_) (.bool b1_) = false := id rfl
theorem ev_str_int {x1_ : Str} {i1_ : Int} : PyData.eqv (.str x1_) (.int i1_) = false := id rfl
theorem ev_str_list {x1_ : Str} {l1_ : List PyData} : PyData.eqv (.str x1_) (.list l1_) = false := id rfl
theorem ev_str_tuple {x1_ : Str} {t1_ : List PyData} : PyData.eqv (.str x1_) (.tuple t1_) = false := id rfl
theorem ev_list_none {l1_ : List PyData} : PyData.eqv (.list l1_) .none = false := id rfl
theorem ev_list_bool {l1_ : List PyData} {b1_ : Bool} : PyData.eqv (.list l1_) (.bool b1_) = false := id rfl
theorem ev_list_int {l1_ : List PyData} {i1_ : Int} : PyData.eqv (.list l1_) (.int i1_) = false := id rfl
theorem ev_list_str {l1_ : List PyData} {x1_ : Str} : PyData.eqv (.list l1_) (.str x1_) = false := id rfl
theorem ev_list_tuple {l1_ : List PyData} {t1_ : List PyData} : PyData.eqv (.list l1_) (.tuple t1_) = false := id rfl
theorem ev_tuple_none {t1_ : List PyData} : PyData.eqv (.tuple t1_) .none = false := id rfl
theorem ev_tuple_bool {t1_ : List PyData} {b1_ : Bool} : PyData.eqv (.tuple t1_) (.bool b1_) = false := id rfl
theorem ev_tuple_int {t1_ : List PyData} {i1_ : Int} : PyData.eqv (.tuple t1_) (.int i1_) = false := id rfl
theorem ev_tuple_str {t1_ : List PyData} {x1_ : Str} : PyData.eqv (.tuple t1_) (.str x1_) = false := id rfl
theorem ev_tuple_list {t1_ : List PyData} {l1_ : List PyData} : PyData.eqv (.tuple t1_) (.list l1_) = false := id rfl
theorem dec_t : (decide p = true) = p := by simp
theorem not_dec : ((!decide p) = true) = ¬ p := by simp
/-- pop, extend, items -/
theorem k_popA : mtPopA (.list (d :: ds)) [.int 0] = some (.list ds, d) := id rfl
theorem k_popZ : mtPop (.list (ds ++ [d])) [] = some (.list ds, d) := by
  show ((ds ++ [d]).getLast?).map _ = _
  rw [List.getLast?_append, List.dropLast_concat]
  rfl
theorem k_pop1 : mtPop (.list [d]) [] = some (.list [], d) := id rfl
def extF (i : Nat) (fe : SE) (ρ : List B) : Option PyData → Rs (Ev × List B)
  | some d => if isLst d = true then extE1 i fe ρ else .bad
  | none => .bad
theorem r_ext : extE i fe ρ = extF i fe ρ ((ρ[i]?).bind ownD) := by
  unfold extE extF
  cases (ρ[i]?).bind ownD <;> rfl
def extK (i : Nat) (p : Ev × List B) : Rs (Ev × List B) := extG i p.2 p.1
theorem k_ext1 : extF i fe ρ (some (.list ds)) = Rs.bind (fe ρ) (extK i) := id rfl
def extJ (i : Nat) (es : List PyData) (ρ : List B) (b : B) : Option PyData → Rs (Ev × List B)
  | some (.list ds) => if ds.length + es.length ≤ 1000000 then .ok (.val .none, ρ.set i (reD b (.list (ds ++ es)))) else .bad
  | _ => .bad
def extH (i : Nat) (es : List PyData) (ρ : List B) : Option B → Rs (Ev × List B)
  | some b => extJ i es ρ b (ownD b)
  | none => .bad
theorem k_ext2 : extK i (.fr (.list ds), ρ) = extH i ds ρ ρ[i]? := by
  unfold extK extG extH
  dsimp only
  cases ρ[i]? with
  | none => rfl
  | some b =>
    dsimp only
    unfold extJ
    cases ownD b with
    | none => rfl
    | some d => cases d <;> rfl
theorem k_ext3 {ds' : List PyData} (h : ds.length + ds'.length ≤ 1000000) : extH i ds' ρ (some (.own (.list ds))) = .ok (.val .none, ρ.set i (.own (.list (ds ++ ds')))) := if_pos h
theorem k_ext4 {ds' : List PyData} (h : ds.length + ds'.length ≤ 1000000) : extH i ds' ρ (some (.prm (.list ds))) = .ok (.val .none, ρ.set i (.prm (.list (ds ++ ds')))) := if_pos h
theorem r_items : itemsE i ρ = itemsJ ρ ((ρ[i]?).bind ownD) := id rfl
theorem k_itemsJ {kvs : List (PyData × PyData)} (h : keyed kvs = true) : itemsJ ρ (some (.dict kvs)) = .ok (.fr (.list (kvs.map fun p => .tuple [p.1, p.2])), ρ) := if_pos h
theorem d_listD {kvs : List (PyData × PyData)} (h : keyed kvs = true) : listD [.dict kvs] = some (.fr (.list (kvs.map (·.1)))) := if_pos h
theorem d_intI {x : Int} : toIntD [.int x] = some (.val (.int x)) := id rfl
theorem d_intB : toIntD [.bool bo] = some (.val (.int (if bo = true then 1 else 0))) := id rfl
theorem d_strI {x : Int} (h : x.natAbs.log2 < 1920) : toStrD [.int x] = some (.val (.str (toString x))) := if_pos h
/-- xs[k] as one of several targets -/
def subK (i : Nat) (fk : SE) (y : PyData) (ρ : List B) : Option PyData → Rs (List B)
  | some _ => Rs.bind (fk ρ) (subH i y)
  | none => .bad
theorem r_subG {y : PyData} : subG i fk y ρ = subK i fk y ρ ((ρ[i]?).bind ownD) := by
  unfold subG subK
  cases (ρ[i]?).bind ownD <;> rfl
theorem k_sub1 {y : PyData} : subK i fk y ρ (some d) = Rs.bind (fk ρ) (subH i y) := id rfl
def subO (i : Nat) (b : B) (ρ : List B) : Option PyData → Rs (List B)
  | some d' => .ok (ρ.set i (reD b d'))
  | none => .bad
def subM (i : Nat) (y k : PyData) (ρ : List B) : Option B → Rs (List B)
  | some b => (match ownD b with
    | some d => subO i b ρ (setD d k y)
    | none => .bad)
  | none => .bad
def subL (i : Nat) (y : PyData) (ρ : List B) : Option PyData → Rs (List B)
  | some k => subM i y k ρ ρ[i]?
  | none => .bad
theorem k_sub2 {y : PyData} : subH i y (e, ρ) = subL i y ρ (peek ρ e) := by
  unfold subH subL
  dsimp only
  cases peek ρ e with
  | none => rfl
  | some k =>
    dsimp only
    unfold subM
    cases ρ[i]? with
    | none => rfl
    | some b =>
      dsimp only
      cases ownD b with
      | none => rfl
      | some d => dsimp only; unfold subO; cases setD d k y <;> rfl
theorem k_sub3 {y k : PyData} : subL i y ρ (some k) = subM i y k ρ ρ[i]? := id rfl
theorem k_sub4 {y k : PyData} : subM i y k ρ (some (.own d)) = subO i (.own d) ρ (setD d k y) := id rfl
theorem k_sub5 {y k : PyData} : subM i y k ρ (some (.prm d)) = subO i (.prm d) ρ (setD d k y) := id rfl
theorem k_sub6 {d' : PyData} : subO i (.own d) ρ (some d') = .ok (ρ.set i (.own d')) := id rfl
theorem k_sub7 {d' : PyData} : subO i (.prm d) ρ (some d') = .ok (ρ.set i (.prm d')) := id rfl
theorem r_tupL1 {u : List PyData → List B → Rs (List B)} : tupG 1 u (.list [d1]) ρ = u [d1] ρ := id rfl
theorem r_tupL2 {u : List PyData → List B → Rs (List B)} : tupG 2 u (.list [d1, d2]) ρ = u [d1, d2] ρ := id rfl
theorem r_tupL3 {u : List PyData → List B → Rs (List B)} : tupG 3 u (.list [d1, d2, d3]) ρ = u [d1, d2, d3] ρ := id rfl
theorem r_tupL4 {u : List PyData → List B → Rs (List B)} {d4 : PyData} : tupG 4 u (.list [d1, d2, d3, d4]) ρ = u [d1, d2, d3, d4] ρ := id rfl
theorem d_isB {x y : Bool} : isD (.bool x) (.bool y) = some (.val (.bool (decide (x = y)))) := id rfl
theorem d_isnB {x y : Bool} : isnD (.bool x) (.bool y) = some (.val (.bool (!decide (x = y)))) := id rfl
theorem d_isnN {x : PyData} : isnD x .none = some (.val (.bool (!isNoneD x))) := by unfold isnD; cases x <;> rfl
theorem d_revL {ds : List PyData} : revD (.list ds) = some (.fr (.list ds.reverse)) := id rfl
theorem d_revT {ds : List PyData} : revD (.tuple ds) = some (.val (.tuple ds.reverse)) := id rfl
end
end G
namespace M
open PySem PySem.Spec PyProof.Rows L2 G
abbrev c_KINDS : PyData := .int (8)
abbrev c_LINEAR : PyData := .tuple [.tuple [.int (1), .int (0), .int (0), .int (1)], .tuple [.int (0), .int (-1), .int (1), .int (0)], .tuple [.int (-1), .int (0), .int (0), .int (-1)], .tuple [.int (0), .int (1), .int (-1), .int (0)], .tuple [.int (-1), .int (0), .int (0), .int (1)], .tuple [.int (0), .int (-1), .int (-1), .int (0)], .tuple [.int (1), .int (0), .int (0), .int (-1)], .tuple [.int (0), .int (1), .int (1), .int (0)]]
abbrev c_MOST_COLOUR : PyData := .int (999)
abbrev c_MOST_SIDE : PyData := .int (12)
abbrev c_SHIFT : PyData := .int (0)
def B__law_source : SS := (retS (lstE (aCons (opN max2D (aCons (fC (.int 0)) (aCons (op2 subD (fV 0) (op2 powD (fC (.int 10)) (fC (.int 18)))) aNil))) (aCons (op2 addD (op2 modD (fV 0) (fC (.int 2147483629))) (fC (.int 1))) (aCons (fC (.int 0)) aNil)))))
def F__law_source : SE := defF 1 B__law_source
theorem r__law_source {x0_ : B} : F__law_source [x0_] = Rs.bind (B__law_source [x0_]) (retF 1) := rfl
def B__law_cell : SS := (seqS (ifS (fB (op2 (cmpI fun i j => decide (i < j)) (fV 1) (opN lenD (aCons (fV 0) aNil)))) (retS (op2 ixD (fV 0) (fV 1))) nxS) (retS (fC (.int 0))))
def F__law_cell : SE := defF 2 B__law_cell
theorem r__law_cell {x0_ x1_ : B} : F__law_cell [x0_, x1_] = Rs.bind (B__law_cell [x0_, x1_]) (retF 2) := rfl
def B_is_integer : SS := (retS (andV (op1 (isiD "int") (fV 0)) (notV (op1 (isiD "bool") (fV 0)))))
def F_is_integer : SE := defF 1 B_is_integer
def B_is_between : SS := (retS (andV (callF [false] F_is_integer [] (aCons (fV 0) aNil)) (ch3 (cmpI fun i j => decide (i ≤ j)) (cmpI fun i j => decide (i ≤ j)) (fV 1) (fV 0) (fV 2))))
def F_is_between : SE := defF 3 B_is_between
theorem r_is_between {x0_ x1_ x2_ : B} : F_is_between [x0_, x1_, x2_] = Rs.bind (B_is_between [x0_, x1_, x2_]) (retF 3) := rfl
def B_is_symmetry : SS := (seqS (ifS (orB (notB (fB (op1 (isiD "tuple") (fV 0)))) (orB (fB (op2 neD (opN lenD (aCons (fV 0) aNil)) (fC (.int 3)))) (notB (fB (opN allD (aCons (lcE (seqI bothK (fV 0)) (nmG 1) yesB (callF [false] F_is_integer [] (aCons (fV 1) aNil)) [1]) aNil)))))) (retS (fC (.bool false))) nxS) (retS (callF [false, false, false] F_is_between [] (aCons (op2 ixD (fV 0) (fC (.int 0))) (aCons (fC (.int 0)) (aCons (op2 subD (fC c_KINDS) (fC (.int 1))) aNil))))))
def F_is_symmetry : SE := defF 2 B_is_symmetry
theorem r_is_symmetry {x0_ : B} : F_is_symmetry [x0_] = Rs.bind (B_is_symmetry [x0_, .un]) (retF 1) := rfl
def B_need_symmetry : SS := (ifS (notB (fB (callF [false] F_is_symmetry [] (aCons (fV 0) aNil)))) (exS_ "SymmetryError") nxS)
def F_need_symmetry : SE := defF 1 B_need_symmetry
theorem r_need_symmetry {x0_ : B} : F_need_symmetry [x0_] = Rs.bind (B_need_symmetry [x0_]) (retF 1) := rfl
def B_added : SS := (retS (tupE (aCons (op2 addD (op2 ixD (fV 0) (fC (.int 0))) (op2 mulD (fV 2) (op2 ixD (fV 1) (fC (.int 0))))) (aCons (op2 addD (op2 ixD (fV 0) (fC (.int 1))) (op2 mulD (fV 2) (op2 ixD (fV 1) (fC (.int 1))))) aNil))))
def F_added : SE := defF 3 B_added
theorem r_added {x0_ x1_ x2_ : B} : F_added [x0_, x1_, x2_] = Rs.bind (B_added [x0_, x1_, x2_]) (retF 3) := rfl
def B_turned : SS := (seqS (asgG (tupG 4 (consG (nmG 2) (consG (nmG 3) (consG (nmG 4) (consG (nmG 5) nilG))))) (op2 ixD (fC c_LINEAR) (fV 0))) (retS (tupE (aCons (op2 addD (op2 mulD (fV 2) (op2 ixD (fV 1) (fC (.int 0)))) (op2 mulD (fV 3) (op2 ixD (fV 1) (fC (.int 1))))) (aCons (op2 addD (op2 mulD (fV 4) (op2 ixD (fV 1) (fC (.int 0)))) (op2 mulD (fV 5) (op2 ixD (fV 1) (fC (.int 1))))) aNil)))))
def F_turned : SE := defF 6 B_turned
def B_offset : SS := (retS (slE (fV 0) (some (fC (.int 1))) none))
def F_offset : SE := defF 1 B_offset
def B_image_of : SS := (retS (callF [false, false] F_added [B.val (.int (1))] (aCons (callF [false, false] F_turned [] (aCons (op2 ixD (fV 0) (fC (.int 0))) (aCons (fV 1) aNil))) (aCons (callF [false] F_offset [] (aCons (fV 0) aNil)) aNil))))
def F_image_of : SE := defF 2 B_image_of
theorem r_image_of {x0_ x1_ : B} : F_image_of [x0_, x1_] = Rs.bind (B_image_of [x0_, x1_]) (retF 2) := rfl
def B__law_draw : SS := (seqS (ifS (fB (op2 (cmpI fun i j => decide (j < i)) (op2 ixD (fV 0) (fC (.int 0))) (fC (.int 0)))) (seqS (asgS 2 (op2 modD (op2 ixD (fV 0) (fC (.int 0))) (fV 1))) (seqS (setS 0 (fC (.int 0)) (op2 fdivD (op2 ixD (fV 0) (fC (.int 0))) (fV 1))) (retS (fV 2)))) nxS) (seqS (setS 0 (fC (.int 2)) (op2 addD (op2 ixD (fV 0) (fC (.int 2))) (fC (.int 1)))) (seqS (setS 0 (fC (.int 1)) (op2 modD (op2 addD (op2 addD (op2 mulD (op2 ixD (fV 0) (fC (.int 1))) (fC (.int 48271))) (op2 mulD (fC (.int 1009)) (op2 ixD (fV 0) (fC (.int 2))))) (fC (.int 7))) (fC (.int 2147483647)))) (seqS (asgS 3 (op2 modD (op2 addD (op2 addD (op2 mulD (op2 ixD (fV 0) (fC (.int 1))) (op2 ixD (fV 0) (fC (.int 1)))) (op2 mulD (fC (.int 69621)) (op2 ixD (fV 0) (fC (.int 1))))) (fC (.int 11))) (fC (.int 2147483629)))) (seqS (asgS 3 (op2 modD (op2 addD (op2 mulD (fV 3) (fV 3)) (op2 mulD (fC (.int 40014)) (fV 3))) (fC (.int 2147483587)))) (retS (op2 modD (op2 fdivD (fV 3) (fC (.int 16))) (fV 1))))))))
def F__law_draw : SE := defF 4 B__law_draw
theorem r__law_draw {x0_ x1_ : B} : F__law_draw [x0_, x1_] = Rs.bind (B__law_draw [x0_, x1_, .un, .un]) (retF 2) := rfl
def B__law_square : SS := (retS (tupE (aCons (op2 subD (callF [true, false] F__law_draw [] (aCons (fV 0) (aCons (op2 addD (op2 mulD (fC (.int 2)) (fV 1)) (fC (.int 1))) aNil))) (fV 1)) (aCons (op2 subD (callF [true, false] F__law_draw [] (aCons (fV 0) (aCons (op2 addD (op2 mulD (fC (.int 2)) (fV 1)) (fC (.int 1))) aNil))) (fV 1)) aNil))))
def F__law_square : SE := defF 2 B__law_square
theorem r__law_square {x0_ x1_ : B} : F__law_square [x0_, x1_] = Rs.bind (B__law_square [x0_, x1_]) (retF 2) := rfl
def L1__law_linear : SS := (parS 2 3 (op2 subD (fC (.int 0)) (fV 3)) (fV 2))
def B__law_linear : SS := (seqS (asgG (tupG 2 (consG (nmG 2) (consG (nmG 3) nilG))) (fV 1)) (seqS (ifS (fB (op2 (cmpI fun i j => decide (j < i)) (fV 0) (fC (.int 3)))) (asgS 2 (op2 subD (fC (.int 0)) (fV 2))) nxS) (seqS (forS (rng1I (aCons (op2 modD (fV 0) (fC (.int 4))) aNil)) (nmG 4) L1__law_linear) (retS (tupE (aCons (fV 2) (aCons (fV 3) aNil)))))))
def F__law_linear : SE := defF 5 B__law_linear
def B__law_image : SS := (seqS (asgG (tupG 2 (consG (nmG 2) (consG (nmG 3) nilG))) (callF [false, false] F__law_linear [] (aCons (op2 ixD (fV 0) (fC (.int 0))) (aCons (fV 1) aNil)))) (retS (tupE (aCons (op2 addD (fV 2) (op2 ixD (fV 0) (fC (.int 1)))) (aCons (op2 addD (fV 3) (op2 ixD (fV 0) (fC (.int 2)))) aNil)))))
def F__law_image : SE := defF 4 B__law_image
theorem r__law_image {x0_ x1_ : B} : F__law_image [x0_, x1_] = Rs.bind (B__law_image [x0_, x1_, .un, .un]) (retF 2) := rfl
def B__law_is_equal : SS := (retS (op2 eqD (opN reprD (aCons (fV 0) aNil)) (opN reprD (aCons (fV 1) aNil))))
def F__law_is_equal : SE := defF 2 B__law_is_equal
theorem r__law_is_equal {x0_ x1_ : B} : F__law_is_equal [x0_, x1_] = Rs.bind (B__law_is_equal [x0_, x1_]) (retF 2) := rfl
def B__law_symmetry : SS := (retS (op2 addD (tupE (aCons (callF [true, false] F__law_draw [] (aCons (fV 0) (aCons (fC (.int 8)) aNil))) aNil)) (callF [true, false] F__law_square [] (aCons (fV 0) (aCons (fV 1) aNil)))))
def F__law_symmetry : SE := defF 2 B__law_symmetry
theorem r__law_symmetry {x0_ x1_ : B} : F__law_symmetry [x0_, x1_] = Rs.bind (B__law_symmetry [x0_, x1_]) (retF 2) := rfl
def B__law_image_2 : SS := (seqS (asgG (tupG 2 (consG (nmG 2) (consG (nmG 3) nilG))) (callF [false, false] F__law_linear [] (aCons (op2 ixD (fV 0) (fC (.int 0))) (aCons (fV 1) aNil)))) (retS (tupE (aCons (op2 addD (fV 2) (op2 ixD (fV 0) (fC (.int 1)))) (aCons (op2 addD (fV 3) (op2 ixD (fV 0) (fC (.int 2)))) aNil)))))
def F__law_image_2 : SE := defF 4 B__law_image_2
def B__law_choose : SS := (retS (op2 ixD (fV 1) (callF [true, false] F__law_draw [] (aCons (fV 0) (aCons (opN lenD (aCons (fV 1) aNil)) aNil)))))
def F__law_choose : SE := defF 2 B__law_choose
theorem r__law_choose {x0_ x1_ : B} : F__law_choose [x0_, x1_] = Rs.bind (B__law_choose [x0_, x1_]) (retF 2) := rfl
def L1__law_rows : SS := (seqS (asgS 10 (op2 ixD (fV 5) (fV 9))) (seqS (ifS (fB (op2 eqD (fV 4) (fC (.int 1)))) (asgS 10 (lcE (rng1I (aCons (fV 1) aNil)) (nmG 11) yesB (op2 ixD (op2 ixD (fV 5) (op2 modD (fV 9) (fV 7))) (op2 modD (fV 11) (fV 6))) [11])) nxS) (seqS (ifS (fB (op2 eqD (fV 4) (fC (.int 2)))) (asgS 10 (lcE (rng1I (aCons (fV 1) aNil)) (nmG 11) yesB (op2 ixD (op2 ixD (fV 5) (fC (.int 0))) (op2 modD (op2 addD (fV 11) (fV 9)) (fV 1))) [11])) nxS) (seqS (ifS (fB (op2 eqD (fV 4) (fC (.int 3)))) (asgS 10 (lcE (rng1I (aCons (fV 1) aNil)) (nmG 11) yesB (op2 ixD (op2 ixD (fV 5) (fV 9)) (opN min2D (aCons (fV 11) (aCons (op2 subD (op2 subD (fV 1) (fC (.int 1))) (fV 11)) aNil)))) [11])) nxS) (seqS (ifS (fB (op2 eqD (fV 4) (fC (.int 4)))) (asgS 10 (lcE (rng1I (aCons (fV 1) aNil)) (nmG 11) yesB (op2 ixD (op2 ixD (fV 5) (opN min2D (aCons (fV 9) (aCons (op2 subD (op2 subD (fV 2) (fC (.int 1))) (fV 9)) aNil)))) (fV 11)) [11])) nxS) (seqS (ifS (fB (op2 eqD (fV 4) (fC (.int 5)))) (asgS 10 (lcE (rng1I (aCons (fV 1) aNil)) (nmG 11) yesB (op2 ixD (op2 ixD (fV 5) (fC (.int 0))) (fC (.int 0))) [11])) nxS) (dropS (mutE 8 mtApp (aCons (opN tupleD (aCons (fV 10) aNil)) aNil)))))))))
def B__law_rows : SS := (seqS (asgS 4 (callF [true, false] F__law_draw [] (aCons (fV 0) (aCons (fC (.int 7)) aNil)))) (seqS (asgS 5 (lcE (rng1I (aCons (fV 2) aNil)) (nmG 9) yesB (lcE (rng1I (aCons (fV 1) aNil)) (nmG 11) yesB (callF [true, false] F__law_draw [] (aCons (fV 0) (aCons (fV 3) aNil))) [11]) [9])) (seqS (parN [6, 7, 8] [(op2 addD (fC (.int 1)) (callF [true, false] F__law_draw [] (aCons (fV 0) (aCons (fV 1) aNil)))), (op2 addD (fC (.int 1)) (callF [true, false] F__law_draw [] (aCons (fV 0) (aCons (fV 2) aNil)))), (lstE aNil)]) (seqS (forS (rng1I (aCons (fV 2) aNil)) (nmG 9) L1__law_rows) (retS (opN tupleD (aCons (fV 8) aNil)))))))
def F__law_rows : SE := defF 12 B__law_rows
theorem r__law_rows {x0_ x1_ x2_ x3_ : B} : F__law_rows [x0_, x1_, x2_, x3_] = Rs.bind (B__law_rows [x0_, x1_, x2_, x3_, .un, .un, .un, .un, .un, .un, .un, .un]) (retF 4) := rfl
def B_is_row : SS := (seqS (ifS (orB (notB (fB (op1 (isiD "tuple") (fV 0)))) (notB (fB (ch3 (cmpI fun i j => decide (i ≤ j)) (cmpI fun i j => decide (i ≤ j)) (fC (.int 1)) (opN lenD (aCons (fV 0) aNil)) (fC c_MOST_SIDE))))) (retS (fC (.bool false))) nxS) (retS (opN allD (aCons (lcE (seqI bothK (fV 0)) (nmG 1) yesB (callF [false, false, false] F_is_between [] (aCons (fV 1) (aCons (fC (.int 0)) (aCons (fC c_MOST_COLOUR) aNil)))) [1]) aNil))))
def F_is_row : SE := defF 2 B_is_row
theorem r_is_row {x0_ : B} : F_is_row [x0_] = Rs.bind (B_is_row [x0_, .un]) (retF 1) := rfl
def B_is_pattern : SS := (seqS (ifS (orB (notB (fB (op1 (isiD "tuple") (fV 0)))) (notB (fB (ch3 (cmpI fun i j => decide (i ≤ j)) (cmpI fun i j => decide (i ≤ j)) (fC (.int 1)) (opN lenD (aCons (fV 0) aNil)) (fC c_MOST_SIDE))))) (retS (fC (.bool false))) nxS) (retS (andV (opN allD (aCons (lcE (seqI bothK (fV 0)) (nmG 1) yesB (callF [false] F_is_row [] (aCons (fV 1) aNil)) [1]) aNil)) (opN allD (aCons (lcE (seqI bothK (fV 0)) (nmG 1) yesB (op2 eqD (opN lenD (aCons (fV 1) aNil)) (opN lenD (aCons (op2 ixD (fV 0) (fC (.int 0))) aNil))) [1]) aNil)))))
def F_is_pattern : SE := defF 2 B_is_pattern
theorem r_is_pattern {x0_ : B} : F_is_pattern [x0_] = Rs.bind (B_is_pattern [x0_, .un]) (retF 1) := rfl
def B_need_pattern : SS := (ifS (notB (fB (callF [false] F_is_pattern [] (aCons (fV 0) aNil)))) (exS_ "PatternError") nxS)
def F_need_pattern : SE := defF 1 B_need_pattern
theorem r_need_pattern {x0_ : B} : F_need_pattern [x0_] = Rs.bind (B_need_pattern [x0_]) (retF 1) := rfl
def B_colour_by : SS := (seqS (asgS 2 (op2 ixD (fV 0) (op2 modD (op2 ixD (fV 1) (fC (.int 1))) (opN lenD (aCons (fV 0) aNil))))) (retS (op2 ixD (fV 2) (op2 modD (op2 ixD (fV 1) (fC (.int 0))) (opN lenD (aCons (fV 2) aNil))))))
def F_colour_by : SE := defF 3 B_colour_by
theorem r_colour_by {x0_ x1_ : B} : F_colour_by [x0_, x1_] = Rs.bind (B_colour_by [x0_, x1_, .un]) (retF 2) := rfl
def B__law_colour : SS := (seqS (asgS 2 (op2 ixD (fV 0) (op2 modD (op2 ixD (fV 1) (fC (.int 1))) (opN lenD (aCons (fV 0) aNil))))) (retS (op2 ixD (fV 2) (op2 modD (op2 ixD (fV 1) (fC (.int 0))) (opN lenD (aCons (fV 2) aNil))))))
def F__law_colour : SE := defF 3 B__law_colour
theorem r__law_colour {x0_ x1_ : B} : F__law_colour [x0_, x1_] = Rs.bind (B__law_colour [x0_, x1_, .un]) (retF 2) := rfl
end M
namespace M
open PySem PySem.Spec PyProof.Rows L2 G
end M
namespace M
open PySem PySem.Spec PyProof.Rows L2 G
def B__law_sizes : SS := (seqS (asgS 1 (lstE (aCons (tupE (aCons (fC (.int 1)) (aCons (fC (.int 1)) aNil))) (aCons (tupE (aCons (fC (.int 2)) (aCons (fC (.int 2)) aNil))) (aCons (tupE (aCons (fC (.int 3)) (aCons (fC (.int 3)) aNil))) (aCons (tupE (aCons (fC (.int 4)) (aCons (fC (.int 4)) aNil))) (aCons (tupE (aCons (fC (.int 5)) (aCons (fC (.int 5)) aNil))) (aCons (tupE (aCons (fC (.int 6)) (aCons (fC (.int 6)) aNil))) (aCons (tupE (aCons (fC (.int 8)) (aCons (fC (.int 8)) aNil))) (aCons (tupE (aCons (fC (.int 12)) (aCons (fC (.int 12)) aNil))) (aCons (tupE (aCons (fC (.int 2)) (aCons (fC (.int 4)) aNil))) (aCons (tupE (aCons (fC (.int 4)) (aCons (fC (.int 2)) aNil))) (aCons (tupE (aCons (fC (.int 3)) (aCons (fC (.int 6)) aNil))) (aCons (tupE (aCons (fC (.int 6)) (aCons (fC (.int 4)) aNil))) (aCons (tupE (aCons (fC (.int 12)) (aCons (fC (.int 3)) aNil))) aNil))))))))))))))) (retS (callF [true, false] F__law_choose [] (aCons (fV 0) (aCons (op2 addD (fV 1) (lstE (aCons (tupE (aCons (fC (.int 1)) (aCons (fC (.int 12)) aNil))) (aCons (tupE (aCons (fC (.int 11)) (aCons (fC (.int 1)) aNil))) (aCons (tupE (aCons (fC (.int 7)) (aCons (fC (.int 7)) aNil))) (aCons (tupE (aCons (fC (.int 10)) (aCons (fC (.int 5)) aNil))) (aCons (tupE (aCons (fC (.int 9)) (aCons (fC (.int 3)) aNil))) (aCons (tupE (aCons (fC (.int 4)) (aCons (fC (.int 12)) aNil))) (aCons (tupE (aCons (fC (.int 1)) (aCons (fC (.int 2)) aNil))) (aCons (tupE (aCons (fC (.int 2)) (aCons (fC (.int 1)) aNil))) (aCons (tupE (aCons (fC (.int 3)) (aCons (fC (.int 1)) aNil))) aNil))))))))))) aNil)))))
def F__law_sizes : SE := defF 2 B__law_sizes
theorem r__law_sizes {x0_ : B} : F__law_sizes [x0_] = Rs.bind (B__law_sizes [x0_, .un]) (retF 1) := rfl
def B__law_moves : SS := (seqS (asgS 3 (op2 addD (lcE (rng1I (aCons (fC (.int 8)) aNil)) (nmG 4) yesB (op2 addD (tupE (aCons (fV 4) aNil)) (callF [true, false] F__law_square [] (aCons (fV 0) (aCons (fC (.int 12)) aNil)))) [4]) (lstE (aCons (tupE (aCons (fC (.int 0)) (aCons (fV 1) (aCons (fC (.int 0)) aNil)))) (aCons (tupE (aCons (fC (.int 0)) (aCons (fC (.int 0)) (aCons (op2 subD (fC (.int 0)) (fV 2)) aNil)))) aNil))))) (seqS (asgS 3 (op2 addD (fV 3) (lstE (aCons (tupE (aCons (fC (.int 4)) (aCons (op2 subD (fV 1) (fC (.int 1))) (aCons (fC (.int 0)) aNil)))) (aCons (tupE (aCons (fC (.int 6)) (aCons (fC (.int 0)) (aCons (op2 subD (fV 2) (fC (.int 1))) aNil)))) (aCons (tupE (aCons (fC (.int 2)) (aCons (op2 subD (fV 1) (fC (.int 1))) (aCons (op2 subD (fV 2) (fC (.int 1))) aNil)))) (aCons (tupE (aCons (fC (.int 7)) (aCons (fC (.int 0)) (aCons (fC (.int 0)) aNil)))) (aCons (tupE (aCons (fC (.int 1)) (aCons (fC (.int 0)) (aCons (op2 subD (fV 1) (fC (.int 1))) aNil)))) aNil)))))))) (retS (op2 addD (fV 3) (lcE (rng1I (aCons (fC (.int 3)) aNil)) (nmG 5) yesB (callF [true, false] F__law_symmetry [] (aCons (fV 0) (aCons (fC (.int 1000)) aNil))) [5])))))
def F__law_moves : SE := defF 6 B__law_moves
theorem r__law_moves {x0_ x1_ x2_ : B} : F__law_moves [x0_, x1_, x2_] = Rs.bind (B__law_moves [x0_, x1_, x2_, .un, .un, .un]) (retF 3) := rfl
def B__law_overlapping : SS := (seqS (asgS 1 (lcE (rng1I (aCons (fC (.int 4)) aNil)) (nmG 2) yesB (lcE (rng1I (aCons (fC (.int 4)) aNil)) (nmG 3) yesB (callF [true, false] F__law_draw [] (aCons (fV 0) (aCons (fC (.int 2)) aNil))) [3]) [2])) (retS (opN tupleD (aCons (lcE (rng1I (aCons (fC (.int 4)) aNil)) (nmG 2) yesB (opN tupleD (aCons (lcE (rng1I (aCons (fC (.int 6)) aNil)) (nmG 3) yesB (op2 ixD (op2 ixD (fV 1) (opN max2D (aCons (op2 modD (fV 3) (fC (.int 4))) (aCons (fV 2) aNil)))) (opN min2D (aCons (op2 modD (fV 3) (fC (.int 4))) (aCons (fV 2) aNil)))) [3]) aNil)) [2]) aNil))))
def F__law_overlapping : SE := defF 4 B__law_overlapping
theorem r__law_overlapping {x0_ : B} : F__law_overlapping [x0_] = Rs.bind (B__law_overlapping [x0_, .un, .un, .un]) (retF 1) := rfl
def mu__law_keeps_1 : List B → Nat := fun _ => 1000000
def L1__law_keeps : SS := (asgS 2 (op2 addD (fV 2) (opN lenD (aCons (op2 ixD (fV 0) (fC (.int 0))) aNil))))
def L2__law_keeps : SS := (ifS (fB (op2 neD (callF [false, false] F__law_colour [] (aCons (fV 0) (aCons (tupE (aCons (fV 3) (aCons (fV 4) aNil))) aNil))) (callF [false, false] F__law_colour [] (aCons (fV 0) (aCons (callF [false, false] F__law_image_2 [] (aCons (fV 1) (aCons (tupE (aCons (fV 3) (aCons (fV 4) aNil))) aNil))) aNil))))) (retS (fC (.bool false))) nxS)
def L3__law_keeps : SS := (forS (rng1I (aCons (fV 2) aNil)) (nmG 4) L2__law_keeps)
def B__law_keeps : SS := (seqS (asgS 2 (opN lenD (aCons (op2 ixD (fV 0) (fC (.int 0))) aNil))) (seqS (whS mu__law_keeps_1 (fB (op2 neD (op2 modD (fV 2) (opN lenD (aCons (fV 0) aNil))) (fC (.int 0)))) L1__law_keeps) (seqS (forS (rng1I (aCons (fV 2) aNil)) (nmG 3) L3__law_keeps) (retS (fC (.bool true))))))
def F__law_keeps : SE := defF 5 B__law_keeps
theorem r__law_keeps {x0_ x1_ : B} : F__law_keeps [x0_, x1_] = Rs.bind (B__law_keeps [x0_, x1_, .un, .un, .un]) (retF 2) := rfl
def L1_agrees : SS := (ifS (fB (op2 neD (callF [false, false] F_colour_by [] (aCons (fV 0) (aCons (callF [false, false] F_image_of [] (aCons (fV 1) (aCons (tupE (aCons (fV 4) (aCons (fV 2) aNil))) aNil))) aNil))) (fV 5))) (retS (fC (.bool false))) nxS)
def L2_agrees : SS := (forS (seqI enumK (fV 3)) (tupG 2 (consG (nmG 4) (consG (nmG 5) nilG))) L1_agrees)
def B_agrees : SS := (seqS (forS (seqI enumK (fV 0)) (tupG 2 (consG (nmG 2) (consG (nmG 3) nilG))) L2_agrees) (retS (fC (.bool true))))
def F_agrees : SE := defF 6 B_agrees
theorem r_agrees {x0_ x1_ : B} : F_agrees [x0_, x1_] = Rs.bind (B_agrees [x0_, x1_, .un, .un, .un, .un]) (retF 2) := rfl
def L1_keeps : SS := (ifS (notB (fB (callF [false, false] F_agrees [] (aCons (fV 0) (aCons (op2 addD (tupE (aCons (fC c_SHIFT) aNil)) (callF [false, false] F_turned [] (aCons (op2 ixD (fV 1) (fC (.int 0))) (aCons (fV 2) aNil)))) aNil))))) (retS (fC (.bool false))) nxS)
def B_keeps : SS := (seqS (dropS (callF [false] F_need_pattern [] (aCons (fV 0) aNil))) (seqS (dropS (callF [false] F_need_symmetry [] (aCons (fV 1) aNil))) (seqS (forS (seqI bothK (tupE (aCons (tupE (aCons (opN lenD (aCons (op2 ixD (fV 0) (fC (.int 0))) aNil)) (aCons (fC (.int 0)) aNil))) (aCons (tupE (aCons (fC (.int 0)) (aCons (opN lenD (aCons (fV 0) aNil)) aNil))) aNil)))) (nmG 2) L1_keeps) (retS (callF [false, false] F_agrees [] (aCons (fV 0) (aCons (fV 1) aNil)))))))
def F_keeps : SE := defF 3 B_keeps
theorem r_keeps {x0_ x1_ : B} : F_keeps [x0_, x1_] = Rs.bind (B_keeps [x0_, x1_, .un]) (retF 2) := rfl
def L1_law_k69 : SS := (seqS (parS 8 9 (opN reprD (aCons (tupE (aCons (fV 6) (aCons (fV 7) aNil))) aNil)) (callF [false, false] F__law_keeps [] (aCons (fV 6) (aCons (fV 7) aNil)))) (seqS (ifS (notB (fB (callF [false, false] F__law_is_equal [] (aCons (lstE (aCons (callF [false, false] F_keeps [] (aCons (fV 6) (aCons (fV 7) aNil))) (aCons (callF [false, false] F_keeps [] (aCons (fV 6) (aCons (fV 7) aNil))) aNil))) (aCons (lstE (aCons (fV 9) (aCons (fV 9) aNil))) aNil))))) (retS (fC (.bool false))) nxS) (ifS (fB (op2 neD (opN reprD (aCons (tupE (aCons (fV 6) (aCons (fV 7) aNil))) aNil)) (fV 8))) (retS (fC (.bool false))) nxS)))
def L2_law_k69 : SS := (seqS (asgG (tupG 2 (consG (nmG 4) (consG (nmG 5) nilG))) (callF [true] F__law_sizes [] (aCons (fV 2) aNil))) (seqS (asgS 6 (callF [true, false, false, false] F__law_rows [] (aCons (fV 2) (aCons (fV 4) (aCons (fV 5) (aCons (callF [true, false] F__law_choose [] (aCons (fV 2) (aCons (lstE (aCons (fC (.int 2)) (aCons (fC (.int 2)) (aCons (fC (.int 4)) (aCons (fC (.int 1000)) aNil))))) aNil))) aNil)))))) (seqS (ifS (fB (op2 eqD (fV 3) (fC (.int 4)))) (asgS 6 (callF [true] F__law_overlapping [] (aCons (fV 2) aNil))) nxS) (forS (seqI bothK (callF [true, false, false] F__law_moves [] (aCons (fV 2) (aCons (opN lenD (aCons (op2 ixD (fV 6) (fC (.int 0))) aNil)) (aCons (opN lenD (aCons (fV 6) aNil)) aNil))))) (nmG 7) L1_law_k69))))
def L3_law_k69 : SS := (seqS (asgS 2 (callF [false] F__law_source [] (aCons (callF [false, false] F__law_cell [] (aCons (fV 0) (aCons (fV 1) aNil))) aNil))) (forS (rng1I (aCons (fC (.int 5)) aNil)) (nmG 3) L2_law_k69))
def B_law_k69 : SS := (seqS (forS (rng1I (aCons (opN max2D (aCons (fC (.int 1)) (aCons (opN min2D (aCons (opN lenD (aCons (fV 0) aNil)) (aCons (fC (.int 3)) aNil))) aNil))) aNil)) (nmG 1) L3_law_k69) (retS (fC (.bool true))))
def F_law_k69 : SE := defF 10 B_law_k69
theorem r_law_k69 {x0_ : B} : F_law_k69 [x0_] = Rs.bind (B_law_k69 [x0_, .un, .un, .un, .un, .un, .un, .un, .un, .un]) (retF 1) := rfl
end M
namespace L_k69
open PySem PySem.Spec PyProof.Rows L2 G M
def topS (i : Nat) : Stmt := PySem.Challenge.pw_gridsym_k69_which_symmetries_keep_a_patt.main.body.getD i (.Pass ⟨0, 0, 0, 0⟩)
abbrev s__law_source : Stmt := topS 28
theorem sc__law_source : FnScope ["_law_cell_here"] ["_law_cell_here"] (defScope s__law_source) := ⟨rfl, rfl, rfl, by decide +kernel, rfl, by decide +kernel, by decide +kernel⟩
abbrev s__law_cell : Stmt := topS 27
theorem sc__law_cell : FnScope ["_law_script", "_law_index"] ["_law_script", "_law_index"] (defScope s__law_cell) := ⟨rfl, rfl, rfl, by decide +kernel, rfl, by decide +kernel, by decide +kernel⟩
abbrev s__law_draw : Stmt := topS 29
theorem sc__law_draw : FnScope ["_law_source_here", "_law_many", "_law_found", "_law_mixed"] ["_law_source_here", "_law_many"] (defScope s__law_draw) := ⟨rfl, rfl, rfl, by decide +kernel, rfl, by decide +kernel, by decide +kernel⟩
abbrev s__law_choose : Stmt := topS 30
theorem sc__law_choose : FnScope ["_law_source_here", "_law_values"] ["_law_source_here", "_law_values"] (defScope s__law_choose) := ⟨rfl, rfl, rfl, by decide +kernel, rfl, by decide +kernel, by decide +kernel⟩
abbrev s__law_sizes : Stmt := topS 38
theorem sc__law_sizes : FnScope ["_law_source_here", "_law_pairs"] ["_law_source_here"] (defScope s__law_sizes) := ⟨rfl, rfl, rfl, by decide +kernel, rfl, by decide +kernel, by decide +kernel⟩
abbrev s__law_rows : Stmt := topS 37
theorem sc__law_rows : FnScope ["_law_source_here", "_law_width", "_law_height", "_law_colours", "_law_way", "_law_piece", "_law_across", "_law_up", "_law_found", "_law_y", "_law_row", "_law_x"] ["_law_source_here", "_law_width", "_law_height", "_law_colours"] (defScope s__law_rows) := ⟨rfl, rfl, rfl, by decide +kernel, rfl, by decide +kernel, by decide +kernel⟩
abbrev s__law_square : Stmt := topS 34
theorem sc__law_square : FnScope ["_law_source_here", "_law_far"] ["_law_source_here", "_law_far"] (defScope s__law_square) := ⟨rfl, rfl, rfl, by decide +kernel, rfl, by decide +kernel, by decide +kernel⟩
abbrev s__law_symmetry : Stmt := topS 35
theorem sc__law_symmetry : FnScope ["_law_source_here", "_law_far"] ["_law_source_here", "_law_far"] (defScope s__law_symmetry) := ⟨rfl, rfl, rfl, by decide +kernel, rfl, by decide +kernel, by decide +kernel⟩
abbrev s__law_moves : Stmt := topS 40
theorem sc__law_moves : FnScope ["_law_source_here", "_law_width", "_law_height", "_law_found", "_law_kind", "_law_lap"] ["_law_source_here", "_law_width", "_law_height"] (defScope s__law_moves) := ⟨rfl, rfl, rfl, by decide +kernel, rfl, by decide +kernel, by decide +kernel⟩
abbrev s__law_overlapping : Stmt := topS 41
theorem sc__law_overlapping : FnScope ["_law_source_here", "_law_piece", "_law_y", "_law_x"] ["_law_source_here"] (defScope s__law_overlapping) := ⟨rfl, rfl, rfl, by decide +kernel, rfl, by decide +kernel, by decide +kernel⟩
abbrev s__law_colour : Stmt := topS 36
theorem sc__law_colour : FnScope ["_law_rows_here", "_law_square_here", "_law_row"] ["_law_rows_here", "_law_square_here"] (defScope s__law_colour) := ⟨rfl, rfl, rfl, by decide +kernel, rfl, by decide +kernel, by decide +kernel⟩
abbrev s__law_linear : Stmt := topS 32
theorem sc__law_linear : FnScope ["_law_kind", "_law_vector", "_law_x", "_law_y", "_law_lap"] ["_law_kind", "_law_vector"] (defScope s__law_linear) := ⟨rfl, rfl, rfl, by decide +kernel, rfl, by decide +kernel, by decide +kernel⟩
abbrev s__law_image : Stmt := topS 33
theorem sc__law_image : FnScope ["_law_symmetry_here", "_law_square_here", "_law_x", "_law_y"] ["_law_symmetry_here", "_law_square_here"] (defScope s__law_image) := ⟨rfl, rfl, rfl, by decide +kernel, rfl, by decide +kernel, by decide +kernel⟩
abbrev s__law_keeps : Stmt := topS 39
theorem sc__law_keeps : FnScope ["_law_rows_here", "_law_symmetry_here", "_law_side", "_law_x", "_law_y"] ["_law_rows_here", "_law_symmetry_here"] (defScope s__law_keeps) := ⟨rfl, rfl, rfl, by decide +kernel, rfl, by decide +kernel, by decide +kernel⟩
abbrev s__law_is_equal : Stmt := topS 31
theorem sc__law_is_equal : FnScope ["_law_actual", "_law_expected"] ["_law_actual", "_law_expected"] (defScope s__law_is_equal) := ⟨rfl, rfl, rfl, by decide +kernel, rfl, by decide +kernel, by decide +kernel⟩
abbrev s_is_integer : Stmt := topS 5
theorem sc_is_integer : FnScope ["thing"] ["thing"] (defScope s_is_integer) := ⟨rfl, rfl, rfl, by decide +kernel, rfl, by decide +kernel, by decide +kernel⟩
abbrev s_is_between : Stmt := topS 6
theorem sc_is_between : FnScope ["thing", "least", "most"] ["thing", "least", "most"] (defScope s_is_between) := ⟨rfl, rfl, rfl, by decide +kernel, rfl, by decide +kernel, by decide +kernel⟩
abbrev s_is_row : Stmt := topS 20
theorem sc_is_row : FnScope ["thing", "colour"] ["thing"] (defScope s_is_row) := ⟨rfl, rfl, rfl, by decide +kernel, rfl, by decide +kernel, by decide +kernel⟩
abbrev s_is_pattern : Stmt := topS 21
theorem sc_is_pattern : FnScope ["thing", "row"] ["thing"] (defScope s_is_pattern) := ⟨rfl, rfl, rfl, by decide +kernel, rfl, by decide +kernel, by decide +kernel⟩
abbrev s_need_pattern : Stmt := topS 22
theorem sc_need_pattern : FnScope ["thing"] ["thing"] (defScope s_need_pattern) := ⟨rfl, rfl, rfl, by decide +kernel, rfl, by decide +kernel, by decide +kernel⟩
abbrev s_is_symmetry : Stmt := topS 12
theorem sc_is_symmetry : FnScope ["thing", "one"] ["thing"] (defScope s_is_symmetry) := ⟨rfl, rfl, rfl, by decide +kernel, rfl, by decide +kernel, by decide +kernel⟩
abbrev s_need_symmetry : Stmt := topS 13
theorem sc_need_symmetry : FnScope ["thing"] ["thing"] (defScope s_need_symmetry) := ⟨rfl, rfl, rfl, by decide +kernel, rfl, by decide +kernel, by decide +kernel⟩
abbrev s_colour_by : Stmt := topS 23
theorem sc_colour_by : FnScope ["pattern", "square", "row"] ["pattern", "square"] (defScope s_colour_by) := ⟨rfl, rfl, rfl, by decide +kernel, rfl, by decide +kernel, by decide +kernel⟩
abbrev s_added : Stmt := topS 7
theorem sc_added : FnScope ["vector", "step", "many"] ["vector", "step", "many"] (defScope s_added) := ⟨rfl, rfl, rfl, by decide +kernel, rfl, by decide +kernel, by decide +kernel⟩
abbrev s_turned : Stmt := topS 14
theorem sc_turned : FnScope ["kind", "vector", "a", "b", "c", "d"] ["kind", "vector"] (defScope s_turned) := ⟨rfl, rfl, rfl, by decide +kernel, rfl, by decide +kernel, by decide +kernel⟩
abbrev s_offset : Stmt := topS 15
theorem sc_offset : FnScope ["symmetry"] ["symmetry"] (defScope s_offset) := ⟨rfl, rfl, rfl, by decide +kernel, rfl, by decide +kernel, by decide +kernel⟩
abbrev s_image_of : Stmt := topS 16
theorem sc_image_of : FnScope ["symmetry", "square"] ["symmetry", "square"] (defScope s_image_of) := ⟨rfl, rfl, rfl, by decide +kernel, rfl, by decide +kernel, by decide +kernel⟩
abbrev s_agrees : Stmt := topS 24
theorem sc_agrees : FnScope ["pattern", "symmetry", "y", "row", "x", "colour"] ["pattern", "symmetry"] (defScope s_agrees) := ⟨rfl, rfl, rfl, by decide +kernel, rfl, by decide +kernel, by decide +kernel⟩
abbrev s_keeps : Stmt := topS 25
theorem sc_keeps : FnScope ["pattern", "symmetry", "period"] ["pattern", "symmetry"] (defScope s_keeps) := ⟨rfl, rfl, rfl, by decide +kernel, rfl, by decide +kernel, by decide +kernel⟩
abbrev s_law : Stmt := topS 42
theorem sc_law : FnScope ["_law_script", "_law_k", "_law_source_here", "_law_lap", "_law_width", "_law_height", "_law_rows_here", "_law_symmetry_here", "_law_before", "_law_expected"] ["_law_script"] (defScope s_law) := ⟨rfl, rfl, rfl, by decide +kernel, rfl, by decide +kernel, by decide +kernel⟩
section
variable {P : Program} {w : World} {K : PySem.W.Frag} {mg : Str → Option Value} {base : Heap} {Γ : Gx} {f_ T_ : Addr} {fd_ : FuncData}
set_option maxHeartbeats 4000000 in
theorem g__law_source (fk : FnK K mg .none "_law_source" s__law_source ["_law_cell_here"] f_ fd_) (sys : SysOk base) (z_max : mg "max" = none) : FnG P w K mg base Γ 1 f_ fd_ ["_law_cell_here"] F__law_source :=
  fnG_of (N := ["_law_cell_here"]) (body := B__law_source) fk.ex sc__law_source sys fun cdv hcd A outer s H E A0 hr gx tk => (gs_one (gs_ret (glst (gcons (g_max2 rfl z_max (gcons gint (gcons (gsub (gv 0) (gpow gint gint)) gnil))) (gcons (gadd (gmod (gv 0) gint) gint) (gcons gint gnil))))))
theorem b__law_source (fk : FnK K mg .none "_law_source" s__law_source ["_law_cell_here"] f_ fd_) : Binds K fd_ ["_law_cell_here"] [] := fk.binds fun _ _ _ _ _ _ us hl => match us, hl with | [_], _ => rfl
set_option maxHeartbeats 4000000 in
theorem g__law_cell (fk : FnK K mg .none "_law_cell" s__law_cell ["_law_script", "_law_index"] f_ fd_) (sys : SysOk base) (z_len : mg "len" = none) : FnG P w K mg base Γ 1 f_ fd_ ["_law_script", "_law_index"] F__law_cell :=
  fnG_of (N := ["_law_script", "_law_index"]) (body := B__law_cell) fk.ex sc__law_cell sys fun cdv hcd A outer s H E A0 hr gx tk => (gs_cons (gs_if (gtcmp op_lt cmpI_ok (gv 1) (g_len z_len (gcons (gv 0) gnil)) (nomark _)) (gs_one (gs_ret (gix (hu1 hr) (gv 0) (gv 1)))) gs_nil) (gs_one (gs_ret gint)))
theorem b__law_cell (fk : FnK K mg .none "_law_cell" s__law_cell ["_law_script", "_law_index"] f_ fd_) : Binds K fd_ ["_law_script", "_law_index"] [] := fk.binds fun _ _ _ _ _ _ us hl => match us, hl with | [_, _], _ => rfl
set_option maxHeartbeats 4000000 in
theorem g__law_draw (fk : FnK K mg .none "_law_draw" s__law_draw ["_law_source_here", "_law_many"] f_ fd_) (sys : SysOk base) : FnG P w K mg base Γ 1 f_ fd_ ["_law_source_here", "_law_many"] F__law_draw :=
  fnG_of (N := ["_law_source_here", "_law_many", "_law_found", "_law_mixed"]) (body := B__law_draw) fk.ex sc__law_draw sys fun cdv hcd A outer s H E A0 hr gx tk => (gs_cons (gs_if (gtcmp op_gt cmpI_ok (gix (hu1 hr) (gv 0) gint) gint (nomark _)) (gs_cons (gs_set 2 sc__law_draw.nd (gmod (gix (hu1 hr) (gv 0) gint) (gv 1))) (gs_cons (gsetitem (hu1 hr) 0 gint (gfdiv (gix (hu1 hr) (gv 0) gint) (gv 1))) (gs_one (gs_ret (gv 2))))) gs_nil) (gs_cons (gsetitem (hu1 hr) 0 gint (gadd (gix (hu1 hr) (gv 0) gint) gint)) (gs_cons (gsetitem (hu1 hr) 0 gint (gmod (gadd (gadd (gmul (gix (hu1 hr) (gv 0) gint) gint) (gmul gint (gix (hu1 hr) (gv 0) gint))) gint) gint)) (gs_cons (gs_set 3 sc__law_draw.nd (gmod (gadd (gadd (gmul (gix (hu1 hr) (gv 0) gint) (gix (hu1 hr) (gv 0) gint)) (gmul gint (gix (hu1 hr) (gv 0) gint))) gint) gint)) (gs_cons (gs_set 3 sc__law_draw.nd (gmod (gadd (gmul (gv 3) (gv 3)) (gmul gint (gv 3))) gint)) (gs_one (gs_ret (gmod (gfdiv (gv 3) gint) (gv 1)))))))))
theorem b__law_draw (fk : FnK K mg .none "_law_draw" s__law_draw ["_law_source_here", "_law_many"] f_ fd_) : Binds K fd_ ["_law_source_here", "_law_many"] [] := fk.binds fun _ _ _ _ _ _ us hl => match us, hl with | [_, _], _ => rfl
set_option maxHeartbeats 4000000 in
theorem g__law_choose (fk : FnK K mg .none "_law_choose" s__law_choose ["_law_source_here", "_law_values"] f_ fd_) (sys : SysOk base) (z_len : mg "len" = none) (f__law_draw : CalledG P w K mg base Γ 1 "_law_draw" ["_law_source_here", "_law_many"] F__law_draw []) : FnG P w K mg base Γ 2 f_ fd_ ["_law_source_here", "_law_values"] F__law_choose :=
  fnG_of (N := ["_law_source_here", "_law_values"]) (body := B__law_choose) fk.ex sc__law_choose sys fun cdv hcd A outer s H E A0 hr gx tk => (gs_one (gs_ret (gix (hu1 hr) (gv 1) (gcallC [true, false] f__law_draw hr gx tk (gcons (gv 0) (gcons (g_len z_len (gcons (gv 1) gnil)) gnil))))))
theorem b__law_choose (fk : FnK K mg .none "_law_choose" s__law_choose ["_law_source_here", "_law_values"] f_ fd_) : Binds K fd_ ["_law_source_here", "_law_values"] [] := fk.binds fun _ _ _ _ _ _ us hl => match us, hl with | [_, _], _ => rfl
set_option maxHeartbeats 4000000 in
theorem g__law_sizes (fk : FnK K mg .none "_law_sizes" s__law_sizes ["_law_source_here"] f_ fd_) (sys : SysOk base) (f__law_choose : CalledG P w K mg base Γ 2 "_law_choose" ["_law_source_here", "_law_values"] F__law_choose []) : FnG P w K mg base Γ 3 f_ fd_ ["_law_source_here"] F__law_sizes :=
  fnG_of (N := ["_law_source_here", "_law_pairs"]) (body := B__law_sizes) fk.ex sc__law_sizes sys fun cdv hcd A outer s H E A0 hr gx tk => (gs_cons (gs_set 1 sc__law_sizes.nd (glst (gcons (gtup (gcons gint (gcons gint gnil))) (gcons (gtup (gcons gint (gcons gint gnil))) (gcons (gtup (gcons gint (gcons gint gnil))) (gcons (gtup (gcons gint (gcons gint gnil))) (gcons (gtup (gcons gint (gcons gint gnil))) (gcons (gtup (gcons gint (gcons gint gnil))) (gcons (gtup (gcons gint (gcons gint gnil))) (gcons (gtup (gcons gint (gcons gint gnil))) (gcons (gtup (gcons gint (gcons gint gnil))) (gcons (gtup (gcons gint (gcons gint gnil))) (gcons (gtup (gcons gint (gcons gint gnil))) (gcons (gtup (gcons gint (gcons gint gnil))) (gcons (gtup (gcons gint (gcons gint gnil))) gnil))))))))))))))) (gs_one (gs_ret (gcallC [true, false] f__law_choose hr gx tk (gcons (gv 0) (gcons (gadd (gv 1) (glst (gcons (gtup (gcons gint (gcons gint gnil))) (gcons (gtup (gcons gint (gcons gint gnil))) (gcons (gtup (gcons gint (gcons gint gnil))) (gcons (gtup (gcons gint (gcons gint gnil))) (gcons (gtup (gcons gint (gcons gint gnil))) (gcons (gtup (gcons gint (gcons gint gnil))) (gcons (gtup (gcons gint (gcons gint gnil))) (gcons (gtup (gcons gint (gcons gint gnil))) (gcons (gtup (gcons gint (gcons gint gnil))) gnil))))))))))) gnil))))))
theorem b__law_sizes (fk : FnK K mg .none "_law_sizes" s__law_sizes ["_law_source_here"] f_ fd_) : Binds K fd_ ["_law_source_here"] [] := fk.binds fun _ _ _ _ _ _ us hl => match us, hl with | [_], _ => rfl
set_option maxHeartbeats 4000000 in
theorem g__law_rows (fk : FnK K mg .none "_law_rows" s__law_rows ["_law_source_here", "_law_width", "_law_height", "_law_colours"] f_ fd_) (sys : SysOk base) (z_min : mg "min" = none) (z_range : mg "range" = none) (z_tuple : mg "tuple" = none) (f__law_draw : CalledG P w K mg base Γ 1 "_law_draw" ["_law_source_here", "_law_many"] F__law_draw []) : FnG P w K mg base Γ 2 f_ fd_ ["_law_source_here", "_law_width", "_law_height", "_law_colours"] F__law_rows :=
  fnG_of (N := ["_law_source_here", "_law_width", "_law_height", "_law_colours", "_law_way", "_law_piece", "_law_across", "_law_up", "_law_found", "_law_y", "_law_row", "_law_x"]) (body := B__law_rows) fk.ex sc__law_rows sys fun cdv hcd A outer s H E A0 hr gx tk => (gs_cons (gs_set 4 sc__law_rows.nd (gcallC [true, false] f__law_draw hr gx tk (gcons (gv 0) (gcons gint gnil)))) (gs_cons (gs_set 5 sc__law_rows.nd (glc [9] rfl rfl sc__law_rows.nd (gi_range1 z_range (gcons (gv 2) gnil)) (blkOk_by (own := [("_law_y", 9)]) (by kernel_rfl)) (fun s_ H_ C_ cl_ fp_ => (gg_name 9 sc__law_rows.nd)) (fun s_ H_ C_ cl_ fp_ => gts_nil) (fun s_ H_ C_ cl_ fp_ => have gx := gx_blk s_ H_ _ _ fp_ gx; have tk := takes_gx gx; (glc [11] rfl rfl sc__law_rows.nd (gi_range1 z_range (gcons (gv 1) gnil)) (blkOk_by (own := [("_law_x", 11)]) (by kernel_rfl)) (fun s_ H_ C_ cl_ fp_ => (gg_name 11 sc__law_rows.nd)) (fun s_ H_ C_ cl_ fp_ => gts_nil) (fun s_ H_ C_ cl_ fp_ => have gx := gx_blk s_ H_ _ _ fp_ gx; have tk := takes_gx gx; (gcallC [true, false] f__law_draw hr gx tk (gcons (gv 0) (gcons (gv 3) gnil)))))))) (gs_cons (gs_parT 3 rfl (ga_cons (gadd gint (gcallC [true, false] f__law_draw hr gx tk (gcons (gv 0) (gcons (gv 1) gnil)))) (ga_cons (gadd gint (gcallC [true, false] f__law_draw hr gx tk (gcons (gv 0) (gcons (gv 2) gnil)))) (ga_cons (glst gnil) ga_nil))) (gn_cons 6 sc__law_rows.nd (gn_cons 7 sc__law_rows.nd (gn_cons 8 sc__law_rows.nd gn_nil)))) (gs_cons (gs_for (tv := [9]) (passes_of rfl) rfl (gi_range1 z_range (gcons (gv 2) gnil)) (gg_name 9 sc__law_rows.nd) (gs_cons (gs_set 10 sc__law_rows.nd (gix (hu1 hr) (gv 5) (gv 9))) (gs_cons (gs_if (gtcmp (op_eqU (hu64 hr)) eqD_ok (gv 4) gint (nomark _)) (gs_one (gs_setLc [11] 10 rfl rfl sc__law_rows.nd (sw_true rfl rfl rfl (by decide +kernel)) (gi_range1 z_range (gcons (gv 1) gnil)) (blkOk_by (own := [("_law_x", 11)]) (by kernel_rfl)) (fun s_ H_ C_ cl_ fp_ => (gg_name 11 sc__law_rows.nd)) (fun s_ H_ C_ cl_ fp_ => gts_nil) (fun s_ H_ C_ cl_ fp_ => (gix (hu1 hr) (gix (hu1 hr) (gv 5) (gmod (gv 9) (gv 7))) (gmod (gv 11) (gv 6)))))) gs_nil) (gs_cons (gs_if (gtcmp (op_eqU (hu64 hr)) eqD_ok (gv 4) gint (nomark _)) (gs_one (gs_setLc [11] 10 rfl rfl sc__law_rows.nd (sw_true rfl rfl rfl (by decide +kernel)) (gi_range1 z_range (gcons (gv 1) gnil)) (blkOk_by (own := [("_law_x", 11)]) (by kernel_rfl)) (fun s_ H_ C_ cl_ fp_ => (gg_name 11 sc__law_rows.nd)) (fun s_ H_ C_ cl_ fp_ => gts_nil) (fun s_ H_ C_ cl_ fp_ => (gix (hu1 hr) (gix (hu1 hr) (gv 5) gint) (gmod (gadd (gv 11) (gv 9)) (gv 1)))))) gs_nil) (gs_cons (gs_if (gtcmp (op_eqU (hu64 hr)) eqD_ok (gv 4) gint (nomark _)) (gs_one (gs_setLc [11] 10 rfl rfl sc__law_rows.nd (sw_true rfl rfl rfl (by decide +kernel)) (gi_range1 z_range (gcons (gv 1) gnil)) (blkOk_by (own := [("_law_x", 11)]) (by kernel_rfl)) (fun s_ H_ C_ cl_ fp_ => (gg_name 11 sc__law_rows.nd)) (fun s_ H_ C_ cl_ fp_ => gts_nil) (fun s_ H_ C_ cl_ fp_ => (gix (hu1 hr) (gix (hu1 hr) (gv 5) (gv 9)) (g_min2 rfl z_min (gcons (gv 11) (gcons (gsub (gsub (gv 1) gint) (gv 11)) gnil))))))) gs_nil) (gs_cons (gs_if (gtcmp (op_eqU (hu64 hr)) eqD_ok (gv 4) gint (nomark _)) (gs_one (gs_setLc [11] 10 rfl rfl sc__law_rows.nd (sw_true rfl rfl rfl (by decide +kernel)) (gi_range1 z_range (gcons (gv 1) gnil)) (blkOk_by (own := [("_law_x", 11)]) (by kernel_rfl)) (fun s_ H_ C_ cl_ fp_ => (gg_name 11 sc__law_rows.nd)) (fun s_ H_ C_ cl_ fp_ => gts_nil) (fun s_ H_ C_ cl_ fp_ => (gix (hu1 hr) (gix (hu1 hr) (gv 5) (g_min2 rfl z_min (gcons (gv 9) (gcons (gsub (gsub (gv 2) gint) (gv 9)) gnil)))) (gv 11))))) gs_nil) (gs_cons (gs_if (gtcmp (op_eqU (hu64 hr)) eqD_ok (gv 4) gint (nomark _)) (gs_one (gs_setLc [11] 10 rfl rfl sc__law_rows.nd (sw_true rfl rfl rfl (by decide +kernel)) (gi_range1 z_range (gcons (gv 1) gnil)) (blkOk_by (own := [("_law_x", 11)]) (by kernel_rfl)) (fun s_ H_ C_ cl_ fp_ => (gg_name 11 sc__law_rows.nd)) (fun s_ H_ C_ cl_ fp_ => gts_nil) (fun s_ H_ C_ cl_ fp_ => (gix (hu1 hr) (gix (hu1 hr) (gv 5) gint) gint)))) gs_nil) (gs_one (gs_expr (gappend 8 (gcons (g_tuple z_tuple (gcons (gv 10) gnil)) gnil))))))))))) (gs_one (gs_ret (g_tuple z_tuple (gcons (gv 8) gnil))))))))
theorem b__law_rows (fk : FnK K mg .none "_law_rows" s__law_rows ["_law_source_here", "_law_width", "_law_height", "_law_colours"] f_ fd_) : Binds K fd_ ["_law_source_here", "_law_width", "_law_height", "_law_colours"] [] := fk.binds fun _ _ _ _ _ _ us hl => match us, hl with | [_, _, _, _], _ => rfl
set_option maxHeartbeats 4000000 in
theorem g__law_square (fk : FnK K mg .none "_law_square" s__law_square ["_law_source_here", "_law_far"] f_ fd_) (sys : SysOk base) (f__law_draw : CalledG P w K mg base Γ 1 "_law_draw" ["_law_source_here", "_law_many"] F__law_draw []) : FnG P w K mg base Γ 2 f_ fd_ ["_law_source_here", "_law_far"] F__law_square :=
  fnG_of (N := ["_law_source_here", "_law_far"]) (body := B__law_square) fk.ex sc__law_square sys fun cdv hcd A outer s H E A0 hr gx tk => (gs_one (gs_ret (gtup (gcons (gsub (gcallC [true, false] f__law_draw hr gx tk (gcons (gv 0) (gcons (gadd (gmul gint (gv 1)) gint) gnil))) (gv 1)) (gcons (gsub (gcallC [true, false] f__law_draw hr gx tk (gcons (gv 0) (gcons (gadd (gmul gint (gv 1)) gint) gnil))) (gv 1)) gnil)))))
theorem b__law_square (fk : FnK K mg .none "_law_square" s__law_square ["_law_source_here", "_law_far"] f_ fd_) : Binds K fd_ ["_law_source_here", "_law_far"] [] := fk.binds fun _ _ _ _ _ _ us hl => match us, hl with | [_, _], _ => rfl
set_option maxHeartbeats 4000000 in
theorem g__law_symmetry (fk : FnK K mg .none "_law_symmetry" s__law_symmetry ["_law_source_here", "_law_far"] f_ fd_) (sys : SysOk base) (f__law_draw : CalledG P w K mg base Γ 1 "_law_draw" ["_law_source_here", "_law_many"] F__law_draw []) (f__law_square : CalledG P w K mg base Γ 2 "_law_square" ["_law_source_here", "_law_far"] F__law_square []) : FnG P w K mg base Γ 3 f_ fd_ ["_law_source_here", "_law_far"] F__law_symmetry :=
  fnG_of (N := ["_law_source_here", "_law_far"]) (body := B__law_symmetry) fk.ex sc__law_symmetry sys fun cdv hcd A outer s H E A0 hr gx tk => (gs_one (gs_ret (gadd (gtup (gcons (gcallC [true, false] f__law_draw hr gx tk (gcons (gv 0) (gcons gint gnil))) gnil)) (gcallC [true, false] f__law_square hr gx tk (gcons (gv 0) (gcons (gv 1) gnil))))))
theorem b__law_symmetry (fk : FnK K mg .none "_law_symmetry" s__law_symmetry ["_law_source_here", "_law_far"] f_ fd_) : Binds K fd_ ["_law_source_here", "_law_far"] [] := fk.binds fun _ _ _ _ _ _ us hl => match us, hl with | [_, _], _ => rfl
set_option maxHeartbeats 4000000 in
theorem g__law_moves (fk : FnK K mg .none "_law_moves" s__law_moves ["_law_source_here", "_law_width", "_law_height"] f_ fd_) (sys : SysOk base) (z_range : mg "range" = none) (f__law_square : CalledG P w K mg base Γ 2 "_law_square" ["_law_source_here", "_law_far"] F__law_square []) (f__law_symmetry : CalledG P w K mg base Γ 3 "_law_symmetry" ["_law_source_here", "_law_far"] F__law_symmetry []) : FnG P w K mg base Γ 4 f_ fd_ ["_law_source_here", "_law_width", "_law_height"] F__law_moves :=
  fnG_of (N := ["_law_source_here", "_law_width", "_law_height", "_law_found", "_law_kind", "_law_lap"]) (body := B__law_moves) fk.ex sc__law_moves sys fun cdv hcd A outer s H E A0 hr gx tk => (gs_cons (gs_set 3 sc__law_moves.nd (gadd (glc [4] rfl rfl sc__law_moves.nd (gi_range1 z_range (gcons gint gnil)) (blkOk_by (own := [("_law_kind", 4)]) (by kernel_rfl)) (fun s_ H_ C_ cl_ fp_ => (gg_name 4 sc__law_moves.nd)) (fun s_ H_ C_ cl_ fp_ => gts_nil) (fun s_ H_ C_ cl_ fp_ => have gx := gx_blk s_ H_ _ _ fp_ gx; have tk := takes_gx gx; (gadd (gtup (gcons (gv 4) gnil)) (gcallC [true, false] f__law_square hr gx tk (gcons (gv 0) (gcons gint gnil)))))) (glst (gcons (gtup (gcons gint (gcons (gv 1) (gcons gint gnil)))) (gcons (gtup (gcons gint (gcons gint (gcons (gsub gint (gv 2)) gnil)))) gnil))))) (gs_cons (gs_set 3 sc__law_moves.nd (gadd (gv 3) (glst (gcons (gtup (gcons gint (gcons (gsub (gv 1) gint) (gcons gint gnil)))) (gcons (gtup (gcons gint (gcons gint (gcons (gsub (gv 2) gint) gnil)))) (gcons (gtup (gcons gint (gcons (gsub (gv 1) gint) (gcons (gsub (gv 2) gint) gnil)))) (gcons (gtup (gcons gint (gcons gint (gcons gint gnil)))) (gcons (gtup (gcons gint (gcons gint (gcons (gsub (gv 1) gint) gnil)))) gnil)))))))) (gs_one (gs_ret (gadd (gv 3) (glc [5] rfl rfl sc__law_moves.nd (gi_range1 z_range (gcons gint gnil)) (blkOk_by (own := [("_law_lap", 5)]) (by kernel_rfl)) (fun s_ H_ C_ cl_ fp_ => (gg_name 5 sc__law_moves.nd)) (fun s_ H_ C_ cl_ fp_ => gts_nil) (fun s_ H_ C_ cl_ fp_ => have gx := gx_blk s_ H_ _ _ fp_ gx; have tk := takes_gx gx; (gcallC [true, false] f__law_symmetry hr gx tk (gcons (gv 0) (gcons gint gnil))))))))))
theorem b__law_moves (fk : FnK K mg .none "_law_moves" s__law_moves ["_law_source_here", "_law_width", "_law_height"] f_ fd_) : Binds K fd_ ["_law_source_here", "_law_width", "_law_height"] [] := fk.binds fun _ _ _ _ _ _ us hl => match us, hl with | [_, _, _], _ => rfl
set_option maxHeartbeats 4000000 in
theorem g__law_overlapping (fk : FnK K mg .none "_law_overlapping" s__law_overlapping ["_law_source_here"] f_ fd_) (sys : SysOk base) (z_max : mg "max" = none) (z_min : mg "min" = none) (z_range : mg "range" = none) (z_tuple : mg "tuple" = none) (f__law_draw : CalledG P w K mg base Γ 1 "_law_draw" ["_law_source_here", "_law_many"] F__law_draw []) : FnG P w K mg base Γ 2 f_ fd_ ["_law_source_here"] F__law_overlapping :=
  fnG_of (N := ["_law_source_here", "_law_piece", "_law_y", "_law_x"]) (body := B__law_overlapping) fk.ex sc__law_overlapping sys fun cdv hcd A outer s H E A0 hr gx tk => (gs_cons (gs_set 1 sc__law_overlapping.nd (glc [2] rfl rfl sc__law_overlapping.nd (gi_range1 z_range (gcons gint gnil)) (blkOk_by (own := [("_law_y", 2)]) (by kernel_rfl)) (fun s_ H_ C_ cl_ fp_ => (gg_name 2 sc__law_overlapping.nd)) (fun s_ H_ C_ cl_ fp_ => gts_nil) (fun s_ H_ C_ cl_ fp_ => have gx := gx_blk s_ H_ _ _ fp_ gx; have tk := takes_gx gx; (glc [3] rfl rfl sc__law_overlapping.nd (gi_range1 z_range (gcons gint gnil)) (blkOk_by (own := [("_law_x", 3)]) (by kernel_rfl)) (fun s_ H_ C_ cl_ fp_ => (gg_name 3 sc__law_overlapping.nd)) (fun s_ H_ C_ cl_ fp_ => gts_nil) (fun s_ H_ C_ cl_ fp_ => have gx := gx_blk s_ H_ _ _ fp_ gx; have tk := takes_gx gx; (gcallC [true, false] f__law_draw hr gx tk (gcons (gv 0) (gcons gint gnil)))))))) (gs_one (gs_ret (g_tuple z_tuple (gcons (glc [2] rfl rfl sc__law_overlapping.nd (gi_range1 z_range (gcons gint gnil)) (blkOk_by (own := [("_law_y", 2)]) (by kernel_rfl)) (fun s_ H_ C_ cl_ fp_ => (gg_name 2 sc__law_overlapping.nd)) (fun s_ H_ C_ cl_ fp_ => gts_nil) (fun s_ H_ C_ cl_ fp_ => (g_tuple z_tuple (gcons (glc [3] rfl rfl sc__law_overlapping.nd (gi_range1 z_range (gcons gint gnil)) (blkOk_by (own := [("_law_x", 3)]) (by kernel_rfl)) (fun s_ H_ C_ cl_ fp_ => (gg_name 3 sc__law_overlapping.nd)) (fun s_ H_ C_ cl_ fp_ => gts_nil) (fun s_ H_ C_ cl_ fp_ => (gix (hu1 hr) (gix (hu1 hr) (gv 1) (g_max2 rfl z_max (gcons (gmod (gv 3) gint) (gcons (gv 2) gnil)))) (g_min2 rfl z_min (gcons (gmod (gv 3) gint) (gcons (gv 2) gnil)))))) gnil)))) gnil)))))
theorem b__law_overlapping (fk : FnK K mg .none "_law_overlapping" s__law_overlapping ["_law_source_here"] f_ fd_) : Binds K fd_ ["_law_source_here"] [] := fk.binds fun _ _ _ _ _ _ us hl => match us, hl with | [_], _ => rfl
set_option maxHeartbeats 4000000 in
theorem g__law_colour (fk : FnK K mg .none "_law_colour" s__law_colour ["_law_rows_here", "_law_square_here"] f_ fd_) (sys : SysOk base) (z_len : mg "len" = none) : FnG P w K mg base Γ 1 f_ fd_ ["_law_rows_here", "_law_square_here"] F__law_colour :=
  fnG_of (N := ["_law_rows_here", "_law_square_here", "_law_row"]) (body := B__law_colour) fk.ex sc__law_colour sys fun cdv hcd A outer s H E A0 hr gx tk => (gs_cons (gs_set 2 sc__law_colour.nd (gix (hu1 hr) (gv 0) (gmod (gix (hu1 hr) (gv 1) gint) (g_len z_len (gcons (gv 0) gnil))))) (gs_one (gs_ret (gix (hu1 hr) (gv 2) (gmod (gix (hu1 hr) (gv 1) gint) (g_len z_len (gcons (gv 2) gnil)))))))
theorem b__law_colour (fk : FnK K mg .none "_law_colour" s__law_colour ["_law_rows_here", "_law_square_here"] f_ fd_) : Binds K fd_ ["_law_rows_here", "_law_square_here"] [] := fk.binds fun _ _ _ _ _ _ us hl => match us, hl with | [_, _], _ => rfl
set_option maxHeartbeats 4000000 in
theorem g__law_linear (fk : FnK K mg .none "_law_linear" s__law_linear ["_law_kind", "_law_vector"] f_ fd_) (sys : SysOk base) (z_range : mg "range" = none) : FnG P w K mg base Γ 1 f_ fd_ ["_law_kind", "_law_vector"] F__law_linear :=
  fnG_of (N := ["_law_kind", "_law_vector", "_law_x", "_law_y", "_law_lap"]) (body := B__law_linear) fk.ex sc__law_linear sys fun cdv hcd A outer s H E A0 hr gx tk => (gs_cons (gs_asg (tv := [2, 3]) (gv 1) (gg_tup rfl (ggs_cons (gg_name 2 sc__law_linear.nd) (ggs_cons (gg_name 3 sc__law_linear.nd) ggs_nil)))) (gs_cons (gs_if (gtcmp op_gt cmpI_ok (gv 0) gint (nomark _)) (gs_one (gs_set 2 sc__law_linear.nd (gsub gint (gv 2)))) gs_nil) (gs_cons (gs_for (tv := [4]) (passes_of rfl) rfl (gi_range1 z_range (gcons (gmod (gv 0) gint) gnil)) (gg_name 4 sc__law_linear.nd) (gs_one (gs_par 2 3 rfl sc__law_linear.nd (gsub gint (gv 3)) (gv 2)))) (gs_one (gs_ret (gtup (gcons (gv 2) (gcons (gv 3) gnil))))))))
theorem b__law_linear (fk : FnK K mg .none "_law_linear" s__law_linear ["_law_kind", "_law_vector"] f_ fd_) : Binds K fd_ ["_law_kind", "_law_vector"] [] := fk.binds fun _ _ _ _ _ _ us hl => match us, hl with | [_, _], _ => rfl
set_option maxHeartbeats 4000000 in
theorem g__law_image (fk : FnK K mg .none "_law_image" s__law_image ["_law_symmetry_here", "_law_square_here"] f_ fd_) (sys : SysOk base) (f__law_linear : CalledG P w K mg base Γ 1 "_law_linear" ["_law_kind", "_law_vector"] F__law_linear []) : FnG P w K mg base Γ 2 f_ fd_ ["_law_symmetry_here", "_law_square_here"] F__law_image_2 :=
  fnG_of (N := ["_law_symmetry_here", "_law_square_here", "_law_x", "_law_y"]) (body := B__law_image_2) fk.ex sc__law_image sys fun cdv hcd A outer s H E A0 hr gx tk => (gs_cons (gs_asg (tv := [2, 3]) (gcallC [false, false] f__law_linear hr gx tk (gcons (gix (hu1 hr) (gv 0) gint) (gcons (gv 1) gnil))) (gg_tup rfl (ggs_cons (gg_name 2 sc__law_image.nd) (ggs_cons (gg_name 3 sc__law_image.nd) ggs_nil)))) (gs_one (gs_ret (gtup (gcons (gadd (gv 2) (gix (hu1 hr) (gv 0) gint)) (gcons (gadd (gv 3) (gix (hu1 hr) (gv 0) gint)) gnil))))))
theorem b__law_image (fk : FnK K mg .none "_law_image" s__law_image ["_law_symmetry_here", "_law_square_here"] f_ fd_) : Binds K fd_ ["_law_symmetry_here", "_law_square_here"] [] := fk.binds fun _ _ _ _ _ _ us hl => match us, hl with | [_, _], _ => rfl
set_option maxHeartbeats 4000000 in
theorem g__law_keeps (fk : FnK K mg .none "_law_keeps" s__law_keeps ["_law_rows_here", "_law_symmetry_here"] f_ fd_) (sys : SysOk base) (z_len : mg "len" = none) (z_range : mg "range" = none) (f__law_colour : CalledG P w K mg base Γ 1 "_law_colour" ["_law_rows_here", "_law_square_here"] F__law_colour []) (f__law_image : CalledG P w K mg base Γ 2 "_law_image" ["_law_symmetry_here", "_law_square_here"] F__law_image_2 []) : FnG P w K mg base Γ 3 f_ fd_ ["_law_rows_here", "_law_symmetry_here"] F__law_keeps :=
  fnG_of (N := ["_law_rows_here", "_law_symmetry_here", "_law_side", "_law_x", "_law_y"]) (body := B__law_keeps) fk.ex sc__law_keeps sys fun cdv hcd A outer s H E A0 hr gx tk => (gs_cons (gs_set 2 sc__law_keeps.nd (g_len z_len (gcons (gix (hu1 hr) (gv 0) gint) gnil))) (gs_cons (gs_while mu__law_keeps_1 (passes_of rfl) (gtcmp (op_neU (hu64 hr)) neD_ok (gmod (gv 2) (g_len z_len (gcons (gv 0) gnil))) gint (nomark _)) (gs_one (gs_set 2 sc__law_keeps.nd (gadd (gv 2) (g_len z_len (gcons (gix (hu1 hr) (gv 0) gint) gnil)))))) (gs_cons (gs_for (tv := [3]) (passes_of rfl) rfl (gi_range1 z_range (gcons (gv 2) gnil)) (gg_name 3 sc__law_keeps.nd) (gs_one (gs_for (tv := [4]) (passes_of rfl) rfl (gi_range1 z_range (gcons (gv 2) gnil)) (gg_name 4 sc__law_keeps.nd) (gs_one (gs_if (gtcmp (op_neU (hu64 hr)) neD_ok (gcallC [false, false] f__law_colour hr gx tk (gcons (gv 0) (gcons (gtup (gcons (gv 3) (gcons (gv 4) gnil))) gnil))) (gcallC [false, false] f__law_colour hr gx tk (gcons (gv 0) (gcons (gcallC [false, false] f__law_image hr gx tk (gcons (gv 1) (gcons (gtup (gcons (gv 3) (gcons (gv 4) gnil))) gnil))) gnil))) (nomark _)) (gs_one (gs_ret gbl)) gs_nil))))) (gs_one (gs_ret gbl)))))
theorem b__law_keeps (fk : FnK K mg .none "_law_keeps" s__law_keeps ["_law_rows_here", "_law_symmetry_here"] f_ fd_) : Binds K fd_ ["_law_rows_here", "_law_symmetry_here"] [] := fk.binds fun _ _ _ _ _ _ us hl => match us, hl with | [_, _], _ => rfl
set_option maxHeartbeats 4000000 in
theorem g__law_is_equal (fk : FnK K mg .none "_law_is_equal" s__law_is_equal ["_law_actual", "_law_expected"] f_ fd_) (sys : SysOk base) (z_repr : mg "repr" = none) : FnG P w K mg base Γ 1 f_ fd_ ["_law_actual", "_law_expected"] F__law_is_equal :=
  fnG_of (N := ["_law_actual", "_law_expected"]) (body := B__law_is_equal) fk.ex sc__law_is_equal sys fun cdv hcd A outer s H E A0 hr gx tk => (gs_one (gs_ret (geq (hu64 hr) (g_repr gx z_repr (gcons (gv 0) gnil)) (g_repr gx z_repr (gcons (gv 1) gnil)))))
theorem b__law_is_equal (fk : FnK K mg .none "_law_is_equal" s__law_is_equal ["_law_actual", "_law_expected"] f_ fd_) : Binds K fd_ ["_law_actual", "_law_expected"] [] := fk.binds fun _ _ _ _ _ _ us hl => match us, hl with | [_, _], _ => rfl
set_option maxHeartbeats 4000000 in
theorem g_is_integer (fk : FnK K mg .none "is_integer" s_is_integer ["thing"] f_ fd_) (sys : SysOk base) (z_bool : mg "bool" = none) (z_int : mg "int" = none) (z_isinstance : mg "isinstance" = none) : FnG P w K mg base Γ 1 f_ fd_ ["thing"] F_is_integer :=
  fnG_of (N := ["thing"]) (body := B_is_integer) fk.ex sc_is_integer sys fun cdv hcd A outer s H E A0 hr gx tk => (gs_one (gs_ret (gandV (g_isi kit_int z_isinstance z_int (by decide +kernel) (gv 0)) (gone (gnotV (g_isi kit_bool z_isinstance z_bool (by decide +kernel) (gv 0)))))))
theorem b_is_integer (fk : FnK K mg .none "is_integer" s_is_integer ["thing"] f_ fd_) : Binds K fd_ ["thing"] [] := fk.binds fun _ _ _ _ _ _ us hl => match us, hl with | [_], _ => rfl
set_option maxHeartbeats 4000000 in
theorem g_is_between (fk : FnK K mg .none "is_between" s_is_between ["thing", "least", "most"] f_ fd_) (sys : SysOk base) (f_is_integer : CalledG P w K mg base Γ 1 "is_integer" ["thing"] F_is_integer []) : FnG P w K mg base Γ 2 f_ fd_ ["thing", "least", "most"] F_is_between :=
  fnG_of (N := ["thing", "least", "most"]) (body := B_is_between) fk.ex sc_is_between sys fun cdv hcd A outer s H E A0 hr gx tk => (gs_one (gs_ret (gandV (gcallC [false] f_is_integer hr gx tk (gcons (gv 0) gnil)) (gone (gchain op_le op_le cmpI_ok cmpI_ok (gv 1) (gv 0) (gv 2))))))
theorem b_is_between (fk : FnK K mg .none "is_between" s_is_between ["thing", "least", "most"] f_ fd_) : Binds K fd_ ["thing", "least", "most"] [] := fk.binds fun _ _ _ _ _ _ us hl => match us, hl with | [_, _, _], _ => rfl
set_option maxHeartbeats 4000000 in
theorem g_is_row (fk : FnK K mg .none "is_row" s_is_row ["thing"] f_ fd_) (sys : SysOk base) (z_all : mg "all" = none) (z_isinstance : mg "isinstance" = none) (z_len : mg "len" = none) (z_tuple : mg "tuple" = none) (k_MOST_COLOUR : ConK K mg "MOST_COLOUR" c_MOST_COLOUR) (k_MOST_SIDE : ConK K mg "MOST_SIDE" c_MOST_SIDE) (f_is_between : CalledG P w K mg base Γ 2 "is_between" ["thing", "least", "most"] F_is_between []) : FnG P w K mg base Γ 3 f_ fd_ ["thing"] F_is_row :=
  fnG_of (N := ["thing", "colour"]) (body := B_is_row) fk.ex sc_is_row sys fun cdv hcd A outer s H E A0 hr gx tk => (gs_cons (gs_if (PW.pt (gor (gnot (gtv (g_isi kit_tuple z_isinstance z_tuple (by decide +kernel) (gv 0)))) (gor1 (gnot (gtchain op_le op_le cmpI_ok cmpI_ok gint (g_len z_len (gcons (gv 0) gnil)) (gcon k_MOST_SIDE)))))) (gs_one (gs_ret gbl)) gs_nil) (gs_one (gs_ret (g_all rfl z_all (gcons (glc [1] rfl rfl sc_is_row.nd (gi_any (gv 0)) (blkOk_by (own := [("colour", 1)]) (by kernel_rfl)) (fun s_ H_ C_ cl_ fp_ => (gg_name 1 sc_is_row.nd)) (fun s_ H_ C_ cl_ fp_ => gts_nil) (fun s_ H_ C_ cl_ fp_ => have gx := gx_blk s_ H_ _ _ fp_ gx; have tk := takes_gx gx; (gcallC [false, false, false] f_is_between hr gx tk (gcons (gv 1) (gcons gint (gcons (gcon k_MOST_COLOUR) gnil)))))) gnil)))))
theorem b_is_row (fk : FnK K mg .none "is_row" s_is_row ["thing"] f_ fd_) : Binds K fd_ ["thing"] [] := fk.binds fun _ _ _ _ _ _ us hl => match us, hl with | [_], _ => rfl
set_option maxHeartbeats 4000000 in
theorem g_is_pattern (fk : FnK K mg .none "is_pattern" s_is_pattern ["thing"] f_ fd_) (sys : SysOk base) (z_all : mg "all" = none) (z_isinstance : mg "isinstance" = none) (z_len : mg "len" = none) (z_tuple : mg "tuple" = none) (k_MOST_SIDE : ConK K mg "MOST_SIDE" c_MOST_SIDE) (f_is_row : CalledG P w K mg base Γ 3 "is_row" ["thing"] F_is_row []) : FnG P w K mg base Γ 4 f_ fd_ ["thing"] F_is_pattern :=
  fnG_of (N := ["thing", "row"]) (body := B_is_pattern) fk.ex sc_is_pattern sys fun cdv hcd A outer s H E A0 hr gx tk => (gs_cons (gs_if (PW.pt (gor (gnot (gtv (g_isi kit_tuple z_isinstance z_tuple (by decide +kernel) (gv 0)))) (gor1 (gnot (gtchain op_le op_le cmpI_ok cmpI_ok gint (g_len z_len (gcons (gv 0) gnil)) (gcon k_MOST_SIDE)))))) (gs_one (gs_ret gbl)) gs_nil) (gs_one (gs_ret (gandV (g_all rfl z_all (gcons (glc [1] rfl rfl sc_is_pattern.nd (gi_any (gv 0)) (blkOk_by (own := [("row", 1)]) (by kernel_rfl)) (fun s_ H_ C_ cl_ fp_ => (gg_name 1 sc_is_pattern.nd)) (fun s_ H_ C_ cl_ fp_ => gts_nil) (fun s_ H_ C_ cl_ fp_ => have gx := gx_blk s_ H_ _ _ fp_ gx; have tk := takes_gx gx; (gcallC [false] f_is_row hr gx tk (gcons (gv 1) gnil)))) gnil)) (gone (g_all rfl z_all (gcons (glc [1] rfl rfl sc_is_pattern.nd (gi_any (gv 0)) (blkOk_by (own := [("row", 1)]) (by kernel_rfl)) (fun s_ H_ C_ cl_ fp_ => (gg_name 1 sc_is_pattern.nd)) (fun s_ H_ C_ cl_ fp_ => gts_nil) (fun s_ H_ C_ cl_ fp_ => (geq (hu64 hr) (g_len z_len (gcons (gv 1) gnil)) (g_len z_len (gcons (gix (hu1 hr) (gv 0) gint) gnil))))) gnil)))))))
theorem b_is_pattern (fk : FnK K mg .none "is_pattern" s_is_pattern ["thing"] f_ fd_) : Binds K fd_ ["thing"] [] := fk.binds fun _ _ _ _ _ _ us hl => match us, hl with | [_], _ => rfl
set_option maxHeartbeats 4000000 in
theorem g_need_pattern (fk : FnK K mg .none "need_pattern" s_need_pattern ["thing"] f_ fd_) (sys : SysOk base) {C_PatternError : Addr} (x_PatternError : ExcK K mg "PatternError" C_PatternError "ValueError.__new__" [.type "ValueError", .type "Exception", .type "BaseException", .type "object"]) (f_is_pattern : CalledG P w K mg base Γ 4 "is_pattern" ["thing"] F_is_pattern []) : FnG P w K mg base Γ 5 f_ fd_ ["thing"] F_need_pattern :=
  fnG_of (N := ["thing"]) (body := B_need_pattern) fk.ex sc_need_pattern sys fun cdv hcd A outer s H E A0 hr gx tk => (gs_one (gs_if (gnot (gtv (gcallC [false] f_is_pattern hr gx tk (gcons (gv 0) gnil)))) (gs_one (gs_raise PySem.F.excBase_ValueError x_PatternError rfl tk)) gs_nil))
theorem b_need_pattern (fk : FnK K mg .none "need_pattern" s_need_pattern ["thing"] f_ fd_) : Binds K fd_ ["thing"] [] := fk.binds fun _ _ _ _ _ _ us hl => match us, hl with | [_], _ => rfl
set_option maxHeartbeats 4000000 in
theorem g_is_symmetry (fk : FnK K mg .none "is_symmetry" s_is_symmetry ["thing"] f_ fd_) (sys : SysOk base) (z_all : mg "all" = none) (z_isinstance : mg "isinstance" = none) (z_len : mg "len" = none) (z_tuple : mg "tuple" = none) (k_KINDS : ConK K mg "KINDS" c_KINDS) (f_is_between : CalledG P w K mg base Γ 2 "is_between" ["thing", "least", "most"] F_is_between []) (f_is_integer : CalledG P w K mg base Γ 1 "is_integer" ["thing"] F_is_integer []) : FnG P w K mg base Γ 3 f_ fd_ ["thing"] F_is_symmetry :=
  fnG_of (N := ["thing", "one"]) (body := B_is_symmetry) fk.ex sc_is_symmetry sys fun cdv hcd A outer s H E A0 hr gx tk => (gs_cons (gs_if (PW.pt (gor (gnot (gtv (g_isi kit_tuple z_isinstance z_tuple (by decide +kernel) (gv 0)))) (gor (gtcmp (op_neU (hu64 hr)) neD_ok (g_len z_len (gcons (gv 0) gnil)) gint (nomark _)) (gor1 (gnot (gtv (g_all rfl z_all (gcons (glc [1] rfl rfl sc_is_symmetry.nd (gi_any (gv 0)) (blkOk_by (own := [("one", 1)]) (by kernel_rfl)) (fun s_ H_ C_ cl_ fp_ => (gg_name 1 sc_is_symmetry.nd)) (fun s_ H_ C_ cl_ fp_ => gts_nil) (fun s_ H_ C_ cl_ fp_ => have gx := gx_blk s_ H_ _ _ fp_ gx; have tk := takes_gx gx; (gcallC [false] f_is_integer hr gx tk (gcons (gv 1) gnil)))) gnil)))))))) (gs_one (gs_ret gbl)) gs_nil) (gs_one (gs_ret (gcallC [false, false, false] f_is_between hr gx tk (gcons (gix (hu1 hr) (gv 0) gint) (gcons gint (gcons (gsub (gcon k_KINDS) gint) gnil)))))))
theorem b_is_symmetry (fk : FnK K mg .none "is_symmetry" s_is_symmetry ["thing"] f_ fd_) : Binds K fd_ ["thing"] [] := fk.binds fun _ _ _ _ _ _ us hl => match us, hl with | [_], _ => rfl
set_option maxHeartbeats 4000000 in
theorem g_need_symmetry (fk : FnK K mg .none "need_symmetry" s_need_symmetry ["thing"] f_ fd_) (sys : SysOk base) {C_SymmetryError : Addr} (x_SymmetryError : ExcK K mg "SymmetryError" C_SymmetryError "ValueError.__new__" [.type "ValueError", .type "Exception", .type "BaseException", .type "object"]) (f_is_symmetry : CalledG P w K mg base Γ 3 "is_symmetry" ["thing"] F_is_symmetry []) : FnG P w K mg base Γ 4 f_ fd_ ["thing"] F_need_symmetry :=
  fnG_of (N := ["thing"]) (body := B_need_symmetry) fk.ex sc_need_symmetry sys fun cdv hcd A outer s H E A0 hr gx tk => (gs_one (gs_if (gnot (gtv (gcallC [false] f_is_symmetry hr gx tk (gcons (gv 0) gnil)))) (gs_one (gs_raise PySem.F.excBase_ValueError x_SymmetryError rfl tk)) gs_nil))
theorem b_need_symmetry (fk : FnK K mg .none "need_symmetry" s_need_symmetry ["thing"] f_ fd_) : Binds K fd_ ["thing"] [] := fk.binds fun _ _ _ _ _ _ us hl => match us, hl with | [_], _ => rfl
set_option maxHeartbeats 4000000 in
theorem g_colour_by (fk : FnK K mg .none "colour_by" s_colour_by ["pattern", "square"] f_ fd_) (sys : SysOk base) (z_len : mg "len" = none) : FnG P w K mg base Γ 1 f_ fd_ ["pattern", "square"] F_colour_by :=
  fnG_of (N := ["pattern", "square", "row"]) (body := B_colour_by) fk.ex sc_colour_by sys fun cdv hcd A outer s H E A0 hr gx tk => (gs_cons (gs_set 2 sc_colour_by.nd (gix (hu1 hr) (gv 0) (gmod (gix (hu1 hr) (gv 1) gint) (g_len z_len (gcons (gv 0) gnil))))) (gs_one (gs_ret (gix (hu1 hr) (gv 2) (gmod (gix (hu1 hr) (gv 1) gint) (g_len z_len (gcons (gv 2) gnil)))))))
theorem b_colour_by (fk : FnK K mg .none "colour_by" s_colour_by ["pattern", "square"] f_ fd_) : Binds K fd_ ["pattern", "square"] [] := fk.binds fun _ _ _ _ _ _ us hl => match us, hl with | [_, _], _ => rfl
set_option maxHeartbeats 4000000 in
theorem g_added (fk : FnK K mg (.ref T_) "added" s_added ["vector", "step", "many"] f_ fd_) (sys : SysOk base) : FnG P w K mg base Γ 1 f_ fd_ ["vector", "step", "many"] F_added :=
  fnG_of (N := ["vector", "step", "many"]) (body := B_added) fk.ex sc_added sys fun cdv hcd A outer s H E A0 hr gx tk => (gs_one (gs_ret (gtup (gcons (gadd (gix (hu1 hr) (gv 0) gint) (gmul (gv 2) (gix (hu1 hr) (gv 1) gint))) (gcons (gadd (gix (hu1 hr) (gv 0) gint) (gmul (gv 2) (gix (hu1 hr) (gv 1) gint))) gnil)))))
theorem bd_added_1 {T : Addr} (fk : FnK K mg (.ref T) "added" s_added ["vector", "step", "many"] f_ fd_) (e : DflK K T [.int (1)]) : ∃ ds dvs, Binds K fd_ ["vector", "step", "many"] ds ∧ Vals dvs ds ∧ Dfl K dvs ([.int (1)].map B.val) := binds_dfl (n := 2) fk e 0 (by decide) fun _ _ _ _ _ _ us its hl hi => match us, hl, its, hi with | [_, _], _, [_], _ => ⟨_, rfl, rfl⟩
set_option maxHeartbeats 4000000 in
theorem g_turned (fk : FnK K mg .none "turned" s_turned ["kind", "vector"] f_ fd_) (sys : SysOk base) (k_LINEAR : ConK K mg "LINEAR" c_LINEAR) : FnG P w K mg base Γ 1 f_ fd_ ["kind", "vector"] F_turned :=
  fnG_of (N := ["kind", "vector", "a", "b", "c", "d"]) (body := B_turned) fk.ex sc_turned sys fun cdv hcd A outer s H E A0 hr gx tk => (gs_cons (gs_asg (tv := [2, 3, 4, 5]) (gix (hu1 hr) (gcon k_LINEAR) (gv 0)) (gg_tup rfl (ggs_cons (gg_name 2 sc_turned.nd) (ggs_cons (gg_name 3 sc_turned.nd) (ggs_cons (gg_name 4 sc_turned.nd) (ggs_cons (gg_name 5 sc_turned.nd) ggs_nil)))))) (gs_one (gs_ret (gtup (gcons (gadd (gmul (gv 2) (gix (hu1 hr) (gv 1) gint)) (gmul (gv 3) (gix (hu1 hr) (gv 1) gint))) (gcons (gadd (gmul (gv 4) (gix (hu1 hr) (gv 1) gint)) (gmul (gv 5) (gix (hu1 hr) (gv 1) gint))) gnil))))))
theorem b_turned (fk : FnK K mg .none "turned" s_turned ["kind", "vector"] f_ fd_) : Binds K fd_ ["kind", "vector"] [] := fk.binds fun _ _ _ _ _ _ us hl => match us, hl with | [_, _], _ => rfl
set_option maxHeartbeats 4000000 in
theorem g_offset (fk : FnK K mg .none "offset" s_offset ["symmetry"] f_ fd_) (sys : SysOk base) : FnG P w K mg base Γ 1 f_ fd_ ["symmetry"] F_offset :=
  fnG_of (N := ["symmetry"]) (body := B_offset) fk.ex sc_offset sys fun cdv hcd A outer s H E A0 hr gx tk => (gs_one (gs_ret (gslice (gv 0) (gps gint) gpn)))
theorem b_offset (fk : FnK K mg .none "offset" s_offset ["symmetry"] f_ fd_) : Binds K fd_ ["symmetry"] [] := fk.binds fun _ _ _ _ _ _ us hl => match us, hl with | [_], _ => rfl
set_option maxHeartbeats 4000000 in
theorem g_image_of (fk : FnK K mg .none "image_of" s_image_of ["symmetry", "square"] f_ fd_) (sys : SysOk base) (f_added_1 : CalledG P w K mg base Γ 1 "added" ["vector", "step", "many"] F_added [B.val (.int (1))]) (f_offset : CalledG P w K mg base Γ 1 "offset" ["symmetry"] F_offset []) (f_turned : CalledG P w K mg base Γ 1 "turned" ["kind", "vector"] F_turned []) : FnG P w K mg base Γ 2 f_ fd_ ["symmetry", "square"] F_image_of :=
  fnG_of (N := ["symmetry", "square"]) (body := B_image_of) fk.ex sc_image_of sys fun cdv hcd A outer s H E A0 hr gx tk => (gs_one (gs_ret (gcallC [false, false] f_added_1 hr gx tk (gcons (gcallC [false, false] f_turned hr gx tk (gcons (gix (hu1 hr) (gv 0) gint) (gcons (gv 1) gnil))) (gcons (gcallC [false] f_offset hr gx tk (gcons (gv 0) gnil)) gnil)))))
theorem b_image_of (fk : FnK K mg .none "image_of" s_image_of ["symmetry", "square"] f_ fd_) : Binds K fd_ ["symmetry", "square"] [] := fk.binds fun _ _ _ _ _ _ us hl => match us, hl with | [_, _], _ => rfl
set_option maxHeartbeats 4000000 in
theorem g_agrees (fk : FnK K mg .none "agrees" s_agrees ["pattern", "symmetry"] f_ fd_) (sys : SysOk base) (z_enumerate : mg "enumerate" = none) (f_colour_by : CalledG P w K mg base Γ 1 "colour_by" ["pattern", "square"] F_colour_by []) (f_image_of : CalledG P w K mg base Γ 2 "image_of" ["symmetry", "square"] F_image_of []) : FnG P w K mg base Γ 3 f_ fd_ ["pattern", "symmetry"] F_agrees :=
  fnG_of (N := ["pattern", "symmetry", "y", "row", "x", "colour"]) (body := B_agrees) fk.ex sc_agrees sys fun cdv hcd A outer s H E A0 hr gx tk => (gs_cons (gs_for (tv := [2, 3]) (passes_of rfl) rfl (gi_enum z_enumerate (gv 0)) (gg_tup rfl (ggs_cons (gg_name 2 sc_agrees.nd) (ggs_cons (gg_name 3 sc_agrees.nd) ggs_nil))) (gs_one (gs_for (tv := [4, 5]) (passes_of rfl) rfl (gi_enum z_enumerate (gv 3)) (gg_tup rfl (ggs_cons (gg_name 4 sc_agrees.nd) (ggs_cons (gg_name 5 sc_agrees.nd) ggs_nil))) (gs_one (gs_if (gtcmp (op_neU (hu64 hr)) neD_ok (gcallC [false, false] f_colour_by hr gx tk (gcons (gv 0) (gcons (gcallC [false, false] f_image_of hr gx tk (gcons (gv 1) (gcons (gtup (gcons (gv 4) (gcons (gv 2) gnil))) gnil))) gnil))) (gv 5) (nomark _)) (gs_one (gs_ret gbl)) gs_nil))))) (gs_one (gs_ret gbl)))
theorem b_agrees (fk : FnK K mg .none "agrees" s_agrees ["pattern", "symmetry"] f_ fd_) : Binds K fd_ ["pattern", "symmetry"] [] := fk.binds fun _ _ _ _ _ _ us hl => match us, hl with | [_, _], _ => rfl
set_option maxHeartbeats 4000000 in
theorem g_keeps (fk : FnK K mg .none "keeps" s_keeps ["pattern", "symmetry"] f_ fd_) (sys : SysOk base) (z_len : mg "len" = none) (k_SHIFT : ConK K mg "SHIFT" c_SHIFT) (f_agrees : CalledG P w K mg base Γ 3 "agrees" ["pattern", "symmetry"] F_agrees []) (f_need_pattern : CalledG P w K mg base Γ 5 "need_pattern" ["thing"] F_need_pattern []) (f_need_symmetry : CalledG P w K mg base Γ 4 "need_symmetry" ["thing"] F_need_symmetry []) (f_turned : CalledG P w K mg base Γ 1 "turned" ["kind", "vector"] F_turned []) : FnG P w K mg base Γ 6 f_ fd_ ["pattern", "symmetry"] F_keeps :=
  fnG_of (N := ["pattern", "symmetry", "period"]) (body := B_keeps) fk.ex sc_keeps sys fun cdv hcd A outer s H E A0 hr gx tk => (gs_cons (gs_expr (gcallC [false] f_need_pattern hr gx tk (gcons (gv 0) gnil))) (gs_cons (gs_expr (gcallC [false] f_need_symmetry hr gx tk (gcons (gv 1) gnil))) (gs_cons (gs_for (tv := [2]) (passes_of rfl) rfl (gi_any (gtup (gcons (gtup (gcons (g_len z_len (gcons (gix (hu1 hr) (gv 0) gint) gnil)) (gcons gint gnil))) (gcons (gtup (gcons gint (gcons (g_len z_len (gcons (gv 0) gnil)) gnil))) gnil)))) (gg_name 2 sc_keeps.nd) (gs_one (gs_if (gnot (gtv (gcallC [false, false] f_agrees hr gx tk (gcons (gv 0) (gcons (gadd (gtup (gcons (gcon k_SHIFT) gnil)) (gcallC [false, false] f_turned hr gx tk (gcons (gix (hu1 hr) (gv 1) gint) (gcons (gv 2) gnil)))) gnil))))) (gs_one (gs_ret gbl)) gs_nil))) (gs_one (gs_ret (gcallC [false, false] f_agrees hr gx tk (gcons (gv 0) (gcons (gv 1) gnil))))))))
theorem b_keeps (fk : FnK K mg .none "keeps" s_keeps ["pattern", "symmetry"] f_ fd_) : Binds K fd_ ["pattern", "symmetry"] [] := fk.binds fun _ _ _ _ _ _ us hl => match us, hl with | [_, _], _ => rfl
set_option maxHeartbeats 4000000 in
theorem g_law (fk : FnK K mg .none "law" s_law ["_law_script"] f_ fd_) (sys : SysOk base) (z_len : mg "len" = none) (z_max : mg "max" = none) (z_min : mg "min" = none) (z_range : mg "range" = none) (z_repr : mg "repr" = none) (f__law_cell : CalledG P w K mg base Γ 1 "_law_cell" ["_law_script", "_law_index"] F__law_cell []) (f__law_choose : CalledG P w K mg base Γ 2 "_law_choose" ["_law_source_here", "_law_values"] F__law_choose []) (f__law_is_equal : CalledG P w K mg base Γ 1 "_law_is_equal" ["_law_actual", "_law_expected"] F__law_is_equal []) (f__law_keeps : CalledG P w K mg base Γ 3 "_law_keeps" ["_law_rows_here", "_law_symmetry_here"] F__law_keeps []) (f__law_moves : CalledG P w K mg base Γ 4 "_law_moves" ["_law_source_here", "_law_width", "_law_height"] F__law_moves []) (f__law_overlapping : CalledG P w K mg base Γ 2 "_law_overlapping" ["_law_source_here"] F__law_overlapping []) (f__law_rows : CalledG P w K mg base Γ 2 "_law_rows" ["_law_source_here", "_law_width", "_law_height", "_law_colours"] F__law_rows []) (f__law_sizes : CalledG P w K mg base Γ 3 "_law_sizes" ["_law_source_here"] F__law_sizes []) (f__law_source : CalledG P w K mg base Γ 1 "_law_source" ["_law_cell_here"] F__law_source []) (f_keeps : CalledG P w K mg base Γ 6 "keeps" ["pattern", "symmetry"] F_keeps []) : FnG P w K mg base Γ 7 f_ fd_ ["_law_script"] F_law_k69 :=
  fnG_of (N := ["_law_script", "_law_k", "_law_source_here", "_law_lap", "_law_width", "_law_height", "_law_rows_here", "_law_symmetry_here", "_law_before", "_law_expected"]) (body := B_law_k69) fk.ex sc_law sys fun cdv hcd A outer s H E A0 hr gx tk => (gs_cons (gs_for (tv := [1]) (passes_of rfl) rfl (gi_range1 z_range (gcons (g_max2 rfl z_max (gcons gint (gcons (g_min2 rfl z_min (gcons (g_len z_len (gcons (gv 0) gnil)) (gcons gint gnil))) gnil))) gnil)) (gg_name 1 sc_law.nd) (gs_cons (gs_set 2 sc_law.nd (gcallC [false] f__law_source hr gx tk (gcons (gcallC [false, false] f__law_cell hr gx tk (gcons (gv 0) (gcons (gv 1) gnil))) gnil))) (gs_one (gs_for (tv := [3]) (passes_of rfl) rfl (gi_range1 z_range (gcons gint gnil)) (gg_name 3 sc_law.nd) (gs_cons (gs_asg (tv := [4, 5]) (gcallC [true] f__law_sizes hr gx tk (gcons (gv 2) gnil)) (gg_tup rfl (ggs_cons (gg_name 4 sc_law.nd) (ggs_cons (gg_name 5 sc_law.nd) ggs_nil)))) (gs_cons (gs_set 6 sc_law.nd (gcallC [true, false, false, false] f__law_rows hr gx tk (gcons (gv 2) (gcons (gv 4) (gcons (gv 5) (gcons (gcallC [true, false] f__law_choose hr gx tk (gcons (gv 2) (gcons (glst (gcons gint (gcons gint (gcons gint (gcons gint gnil))))) gnil))) gnil)))))) (gs_cons (gs_if (gtcmp (op_eqU (hu64 hr)) eqD_ok (gv 3) gint (nomark _)) (gs_one (gs_set 6 sc_law.nd (gcallC [true] f__law_overlapping hr gx tk (gcons (gv 2) gnil)))) gs_nil) (gs_one (gs_for (tv := [7]) (passes_of rfl) rfl (gi_any (gcallC [true, false, false] f__law_moves hr gx tk (gcons (gv 2) (gcons (g_len z_len (gcons (gix (hu1 hr) (gv 6) gint) gnil)) (gcons (g_len z_len (gcons (gv 6) gnil)) gnil))))) (gg_name 7 sc_law.nd) (gs_cons (gs_par 8 9 rfl sc_law.nd (g_repr gx z_repr (gcons (gtup (gcons (gv 6) (gcons (gv 7) gnil))) gnil)) (gcallC [false, false] f__law_keeps hr gx tk (gcons (gv 6) (gcons (gv 7) gnil)))) (gs_cons (gs_if (gnot (gtv (gcallC [false, false] f__law_is_equal hr gx tk (gcons (glst (gcons (gcallC [false, false] f_keeps hr gx tk (gcons (gv 6) (gcons (gv 7) gnil))) (gcons (gcallC [false, false] f_keeps hr gx tk (gcons (gv 6) (gcons (gv 7) gnil))) gnil))) (gcons (glst (gcons (gv 9) (gcons (gv 9) gnil))) gnil))))) (gs_one (gs_ret gbl)) gs_nil) (gs_one (gs_if (gtcmp (op_neU (hu64 hr)) neD_ok (g_repr gx z_repr (gcons (gtup (gcons (gv 6) (gcons (gv 7) gnil))) gnil)) (gv 8) (nomark _)) (gs_one (gs_ret gbl)) gs_nil))))))))))))) (gs_one (gs_ret gbl)))
end
end L_k69
namespace M
open PySem PySem.Spec PyProof.Rows L2 G
local macro_rules
  | `(tactic| simp? [$ls,*]) => `(tactic| simp (maxSteps := 1000000) (disch := first | assumption | (simp (disch := decide +kernel) only [G.sl_nil, G.sl_cons, List.cons_append, List.nil_append, G.shN_str, G.shN_tup, G.shN_lst, G.shN_int, G.shN_bool, G.shN_none, G.shA_nil, G.shA_cons, G.b_ta, G.ky_i, G.ky_s]; done) | exact G.len_ok (by simp only [G.sl_nil, G.sl_cons]) | decide | decide +kernel | exact G.mulOk_l (by decide) | exact G.mulOk_r (by decide) | omega) only [G.rb_ok, G.rb_ex, G.rb_bad, G.rb_ite, G.lz, G.ls, G.sz, G.ss, G.r_seq, G.k_seq1, G.k_seq2, G.k_seq3, G.k_seq4, G.r_nx, G.r_bk, G.r_ct, G.r_retN, G.r_ret, G.k_ret, G.r_drop, G.k_drop, G.r_if, G.r_ife, G.k_if, G.r_asg, G.k_asg1, G.k_asg2, G.k_asg3, G.k_sl1, G.k_sl2, G.k_sh1, G.k_sh2, G.k_sh3, G.k_sh4, G.k_sh5, G.r_asgG, G.k_asgG, G.k_asgL, G.k_tg, G.r_nm, G.r_tup, G.r_tup1, G.r_tup3, G.r_tup4, G.r_nil, G.r_cons, G.r_V, G.k_V1, G.k_V2, G.k_V4, G.k_V3, G.r_C, G.p_val, G.p_fr, G.p_sl, G.pb_1, G.pb_2, G.pb_3, G.od_1, G.od_2, G.p_1, G.p_2, G.p_3, G.q_1, G.q_2, G.q_3, G.re_1, G.re_2, G.re_ite, G.st_1, G.st_2, G.st_3, G.r_op2, G.k_op2a, G.k_op2b, G.k_op2c, G.r_op1, G.k_op1, G.ob_some, G.r_said, G.k_said1, G.r_opN, G.k_opN, G.r_pk0, G.r_pk1, G.k_pk, G.r_anil, G.r_acons, G.k_acons, G.k_acons2, G.shs_v0, G.shs_v1, G.shs_v2, G.shs_v3, G.shs_v4, G.om_some, G.r_tupT, G.r_lstT, G.k_dt, G.k_dl, G.k_d1, G.k_d2, G.r_fB, G.k_fB, G.r_and, G.r_or, G.r_andV, G.r_orV, G.r_not, G.r_notV, G.k_not, G.k_notV, G.r_yes, G.r_ch, G.k_ch1, G.k_ch2, G.k_ch3, G.k_ch4, G.k_ch5, G.r_call, G.c1_nil, G.c1_t, G.c1_f, G.c1_s, G.c1_s1, G.c1_s2, G.k_ca, G.k_c1, G.k_c2, G.c2_nil, G.c2_v, G.c2_s, G.c2_s1, G.c2_s3, G.c2_s2, G.k_call, G.k_w1, G.k_w2, G.k_w3, G.k_wite, G.wb_nil, G.wb_none, G.wb_some, G.k_wb1, G.k_wb2, G.wbx_nil, G.wbx_none, G.ap_nil, G.ap_nil2, G.ap_cons, G.ma_nil, G.ma_cons, G.ds_nil, G.ds_none, G.ds_some, G.me_nil, G.me_none, G.me_some, G.ou_0, G.ou_s, G.ob_val, G.ob_own, G.ob_un, G.ob_exc, G.ob_prm, G.le_0, G.le_s, G.k_rf1, G.k_rf2, G.k_rf3, G.k_rf4, G.k_rs1, G.k_rs2, G.r_set, G.k_set1, G.k_set2, G.k_set3, G.k_set4, G.k_set5, G.k_set6, G.k_set7, G.k_set8, G.k_set9, G.r_mut, G.k_mu1, G.k_mu2, G.k_mu3, G.k_mu4, G.k_mu5, G.k_mu6, G.k_mu7, G.k_app, G.k_apps, G.r_par, G.k_par1, G.k_par2, G.k_par3, G.k_par4, G.k_par5, G.r_par3, G.k_p3a, G.k_p3b, G.r_parN, G.k_pn1, G.k_pn2, G.k_nx, G.ev_nil, G.ev_cons, G.k_ev1, G.k_ev2, G.rs_nil, G.rs_val, G.rs_fr, G.rs_sl, G.k_rsS1, G.k_rsS2, G.bn_nil, G.bn_val, G.bn_fr, G.r_rep, G.k_rp1, G.k_rp2, G.k_rp3, G.ixN_last, G.set_last, G.ix_last, G.r_for, G.k_for, G.fo_nil, G.fo_cons, G.k_fo0, G.k_fo1, G.k_fo2, G.k_fo3, G.k_fo4, G.r_turn, G.k_tu0, G.k_tu1, G.k_tu2, G.k_tu3, G.k_tu4, G.r_seqI, G.k_seqI, G.k_seqI1, G.k_seqI3, G.k_seqI5, G.k_seqI6, G.k_seqI4, G.k_seqI2, G.r_rng1, G.k_rng1, G.k_rng1b, G.r_rng2, G.k_rng2, G.k_rng2b, G.rgl_0, G.rgl_1, G.rgl_2, G.rgl_3, G.rgl_4, G.rgl_5, G.rgl_6, G.rgl_7, G.rgl_8, G.rgl_9, G.rgl_10, G.rgl_12, G.rgl_16, G.r1l_1, G.r1l_2, G.r1l_3, G.r1l_4, G.r1l_5, G.r1l_6, G.r1l_8, G.rpl_0, G.rpl_1, G.rpl_2, G.rpl_3, G.rpl_4, G.rpl_5, G.rpl_6, G.rpl_7, G.rpl_8, G.r_lc, G.k_lc, G.l_nil, G.l_cons, G.l_A, G.l_B, G.l_C, G.l_C2, G.l_C3, G.l_S1, G.l_S2, G.l_D, G.k_lc1, G.wi_nil, G.wi_cons, G.mulOk_l, G.mulOk_r, G.r_sl, G.k_sla, G.k_slb, G.k_slc, G.k_sld, G.pt_n, G.pt_s, G.k_pt, G.cu_t, G.cu_l, G.cu_1n, G.cu_2n, G.cu_n1, G.d_add, G.d_addT, G.d_addTs, G.d_addL, G.d_addLs, G.d_sub, G.d_mul, G.d_fdiv, G.d_mod, G.d_neg, G.d_cmp, G.d_ixT, G.d_ixL, G.at_0, G.at_1, G.at_2, G.at_3, G.d_lenL, G.d_lenT, G.d_tupL, G.d_tupT, G.d_all, G.k_all, G.d_any, G.k_any, G.bo_nil, G.bo_cons, G.al_nil, G.al_cons, G.al_map, G.an_nil, G.an_cons, G.an_map, G.id_b, G.bo_map, G.d_max, G.d_min, G.d_listL, G.d_listT, G.d_p18, G.d_p13, G.d_p12, G.d_is, G.d_abs, G.d_repr, G.d_eqS, G.d_neS, G.d_eqI, G.d_neI, G.d_isi, G.isy_int_none, G.isy_int_bool, G.isy_int_int, G.isy_int_str, G.isy_int_list, G.isy_int_tuple, G.isy_int_dict, G.isy_bool_none, G.isy_bool_bool, G.isy_bool_int, G.isy_bool_str, G.isy_bool_list, G.isy_bool_tuple, G.isy_bool_dict, G.isy_tuple_none, G.isy_tuple_bool, G.isy_tuple_int, G.isy_tuple_str, G.isy_tuple_list, G.isy_tuple_tuple, G.isy_tuple_dict, G.isy_list_none, G.isy_list_bool, G.isy_list_int, G.isy_list_str, G.isy_list_list, G.isy_list_tuple, G.isy_list_dict, G.isy_str_none, G.isy_str_bool, G.isy_str_int, G.isy_str_str, G.isy_str_list, G.isy_str_tuple, G.isy_str_dict, G.isy_dict_none, G.isy_dict_bool, G.isy_dict_int, G.isy_dict_str, G.isy_dict_list, G.isy_dict_tuple, G.isy_dict_dict, G.it_t, G.it_f, G.b_tt, G.b_ft, G.b_nt, G.b_nf, G.b_ta, G.b_fa, G.b_at, G.b_to, G.b_fo, G.lI_0, G.lI_1, G.lI_2, G.lI_3, G.lI_4, G.lI_5, G.lI_m, G.bs_f, G.es_f, G.bb_tt, G.bb_tf, G.bb_ft, G.bb_ff, G.bq_s, G.r_dic, G.k_dic1, G.k_dic2, G.k_dic3, G.k_dic4, G.k_kD1, G.k_kD2, G.k_fl0, G.k_fl1, G.k_pr0, G.k_pr1, G.k_pr2, G.r_dic0, G.d_ixDi, G.d_ixDs, G.d_inGT, G.d_inGL, G.d_ninGT, G.d_ninGL, G.d_inGi, G.d_ninGi, G.k_vals, G.k_items, G.d_setDi, G.dg_nil, G.dg_i, G.dg_s, G.mg_0, G.mg_s, G.dpk_n, G.ky_i, G.ky_s, G.d_eqX, G.d_neX, G.d_inT, G.d_inL, G.d_ninT, G.d_ninL, G.ev_ii, G.ev_bb, G.ev_ss, G.ev_nn, G.ev_tt, G.ev_ll, G.ev_0, G.ev_c, G.ev_c0, G.ev_0c, G.ev_none_bool, G.ev_none_int, G.ev_none_str, G.ev_none_list, G.ev_none_tuple, G.ev_bool_none, G.ev_bool_str, G.ev_bool_list, G.ev_bool_tuple, G.ev_int_none, G.ev_int_str, G.ev_int_list, G.ev_int_tuple, G.ev_str_none, G.ev_str_bool, G.ev_str_int, G.ev_str_list, G.ev_str_tuple, G.ev_list_none, G.ev_list_bool, G.ev_list_int, G.ev_list_str, G.ev_list_tuple, G.ev_tuple_none, G.ev_tuple_bool, G.ev_tuple_int, G.ev_tuple_str, G.ev_tuple_list, G.dec_t, G.not_dec, G.k_popA, G.k_popZ, G.k_pop1, G.r_ext, G.k_ext1, G.k_ext2, G.k_ext3, G.k_ext4, G.r_items, G.k_itemsJ, G.d_listD, G.d_intI, G.d_intB, G.d_strI, G.r_subG, G.k_sub1, G.k_sub2, G.k_sub3, G.k_sub4, G.k_sub5, G.k_sub6, G.k_sub7, G.r_tupL1, G.r_tupL2, G.r_tupL3, G.r_tupL4, G.d_isB, G.d_isnB, G.d_isnN, G.d_revL, G.d_revT, G.r_permA, G.k_perm1, G.k_perm2, G.k_perm3a, G.k_perm3b, G.k_perm3c, G.k_perm3d, G.k_perm3e, Int.reduceEq, Int.reduceLE, Int.reduceLT, Int.reduceAdd, Int.reduceSub, Int.reduceMul, Int.reduceNeg, Nat.reduceAdd, List.nil_append, not_true_eq_false, not_false_eq_true, and_true, true_and, and_false, false_and, or_true, true_or, or_false, false_or, decide_true, decide_false, eq_self, Bool.and_true, Bool.and_false, $ls,*])
  | `(tactic| simp? [$ls,*] at $h:ident) => `(tactic| simp (maxSteps := 1000000) (disch := first | assumption | (simp (disch := decide +kernel) only [G.sl_nil, G.sl_cons, List.cons_append, List.nil_append, G.shN_str, G.shN_tup, G.shN_lst, G.shN_int, G.shN_bool, G.shN_none, G.shA_nil, G.shA_cons, G.b_ta, G.ky_i, G.ky_s]; done) | exact G.len_ok (by simp only [G.sl_nil, G.sl_cons]) | decide | decide +kernel | exact G.mulOk_l (by decide) | exact G.mulOk_r (by decide) | omega) only [G.rb_ok, G.rb_ex, G.rb_bad, G.rb_ite, G.lz, G.ls, G.sz, G.ss, G.r_seq, G.k_seq1, G.k_seq2, G.k_seq3, G.k_seq4, G.r_nx, G.r_bk, G.r_ct, G.r_retN, G.r_ret, G.k_ret, G.r_drop, G.k_drop, G.r_if, G.r_ife, G.k_if, G.r_asg, G.k_asg1, G.k_asg2, G.k_asg3, G.k_sl1, G.k_sl2, G.k_sh1, G.k_sh2, G.k_sh3, G.k_sh4, G.k_sh5, G.r_asgG, G.k_asgG, G.k_asgL, G.k_tg, G.r_nm, G.r_tup, G.r_tup1, G.r_tup3, G.r_tup4, G.r_nil, G.r_cons, G.r_V, G.k_V1, G.k_V2, G.k_V4, G.k_V3, G.r_C, G.p_val, G.p_fr, G.p_sl, G.pb_1, G.pb_2, G.pb_3, G.od_1, G.od_2, G.p_1, G.p_2, G.p_3, G.q_1, G.q_2, G.q_3, G.re_1, G.re_2, G.re_ite, G.st_1, G.st_2, G.st_3, G.r_op2, G.k_op2a, G.k_op2b, G.k_op2c, G.r_op1, G.k_op1, G.ob_some, G.r_said, G.k_said1, G.r_opN, G.k_opN, G.r_pk0, G.r_pk1, G.k_pk, G.r_anil, G.r_acons, G.k_acons, G.k_acons2, G.shs_v0, G.shs_v1, G.shs_v2, G.shs_v3, G.shs_v4, G.om_some, G.r_tupT, G.r_lstT, G.k_dt, G.k_dl, G.k_d1, G.k_d2, G.r_fB, G.k_fB, G.r_and, G.r_or, G.r_andV, G.r_orV, G.r_not, G.r_notV, G.k_not, G.k_notV, G.r_yes, G.r_ch, G.k_ch1, G.k_ch2, G.k_ch3, G.k_ch4, G.k_ch5, G.r_call, G.c1_nil, G.c1_t, G.c1_f, G.c1_s, G.c1_s1, G.c1_s2, G.k_ca, G.k_c1, G.k_c2, G.c2_nil, G.c2_v, G.c2_s, G.c2_s1, G.c2_s3, G.c2_s2, G.k_call, G.k_w1, G.k_w2, G.k_w3, G.k_wite, G.wb_nil, G.wb_none, G.wb_some, G.k_wb1, G.k_wb2, G.wbx_nil, G.wbx_none, G.ap_nil, G.ap_nil2, G.ap_cons, G.ma_nil, G.ma_cons, G.ds_nil, G.ds_none, G.ds_some, G.me_nil, G.me_none, G.me_some, G.ou_0, G.ou_s, G.ob_val, G.ob_own, G.ob_un, G.ob_exc, G.ob_prm, G.le_0, G.le_s, G.k_rf1, G.k_rf2, G.k_rf3, G.k_rf4, G.k_rs1, G.k_rs2, G.r_set, G.k_set1, G.k_set2, G.k_set3, G.k_set4, G.k_set5, G.k_set6, G.k_set7, G.k_set8, G.k_set9, G.r_mut, G.k_mu1, G.k_mu2, G.k_mu3, G.k_mu4, G.k_mu5, G.k_mu6, G.k_mu7, G.k_app, G.k_apps, G.r_par, G.k_par1, G.k_par2, G.k_par3, G.k_par4, G.k_par5, G.r_par3, G.k_p3a, G.k_p3b, G.r_parN, G.k_pn1, G.k_pn2, G.k_nx, G.ev_nil, G.ev_cons, G.k_ev1, G.k_ev2, G.rs_nil, G.rs_val, G.rs_fr, G.rs_sl, G.k_rsS1, G.k_rsS2, G.bn_nil, G.bn_val, G.bn_fr, G.r_rep, G.k_rp1, G.k_rp2, G.k_rp3, G.ixN_last, G.set_last, G.ix_last, G.r_for, G.k_for, G.fo_nil, G.fo_cons, G.k_fo0, G.k_fo1, G.k_fo2, G.k_fo3, G.k_fo4, G.r_turn, G.k_tu0, G.k_tu1, G.k_tu2, G.k_tu3, G.k_tu4, G.r_seqI, G.k_seqI, G.k_seqI1, G.k_seqI3, G.k_seqI5, G.k_seqI6, G.k_seqI4, G.k_seqI2, G.r_rng1, G.k_rng1, G.k_rng1b, G.r_rng2, G.k_rng2, G.k_rng2b, G.rgl_0, G.rgl_1, G.rgl_2, G.rgl_3, G.rgl_4, G.rgl_5, G.rgl_6, G.rgl_7, G.rgl_8, G.rgl_9, G.rgl_10, G.rgl_12, G.rgl_16, G.r1l_1, G.r1l_2, G.r1l_3, G.r1l_4, G.r1l_5, G.r1l_6, G.r1l_8, G.rpl_0, G.rpl_1, G.rpl_2, G.rpl_3, G.rpl_4, G.rpl_5, G.rpl_6, G.rpl_7, G.rpl_8, G.r_lc, G.k_lc, G.l_nil, G.l_cons, G.l_A, G.l_B, G.l_C, G.l_C2, G.l_C3, G.l_S1, G.l_S2, G.l_D, G.k_lc1, G.wi_nil, G.wi_cons, G.mulOk_l, G.mulOk_r, G.r_sl, G.k_sla, G.k_slb, G.k_slc, G.k_sld, G.pt_n, G.pt_s, G.k_pt, G.cu_t, G.cu_l, G.cu_1n, G.cu_2n, G.cu_n1, G.d_add, G.d_addT, G.d_addTs, G.d_addL, G.d_addLs, G.d_sub, G.d_mul, G.d_fdiv, G.d_mod, G.d_neg, G.d_cmp, G.d_ixT, G.d_ixL, G.at_0, G.at_1, G.at_2, G.at_3, G.d_lenL, G.d_lenT, G.d_tupL, G.d_tupT, G.d_all, G.k_all, G.d_any, G.k_any, G.bo_nil, G.bo_cons, G.al_nil, G.al_cons, G.al_map, G.an_nil, G.an_cons, G.an_map, G.id_b, G.bo_map, G.d_max, G.d_min, G.d_listL, G.d_listT, G.d_p18, G.d_p13, G.d_p12, G.d_is, G.d_abs, G.d_repr, G.d_eqS, G.d_neS, G.d_eqI, G.d_neI, G.d_isi, G.isy_int_none, G.isy_int_bool, G.isy_int_int, G.isy_int_str, G.isy_int_list, G.isy_int_tuple, G.isy_int_dict, G.isy_bool_none, G.isy_bool_bool, G.isy_bool_int, G.isy_bool_str, G.isy_bool_list, G.isy_bool_tuple, G.isy_bool_dict, G.isy_tuple_none, G.isy_tuple_bool, G.isy_tuple_int, G.isy_tuple_str, G.isy_tuple_list, G.isy_tuple_tuple, G.isy_tuple_dict, G.isy_list_none, G.isy_list_bool, G.isy_list_int, G.isy_list_str, G.isy_list_list, G.isy_list_tuple, G.isy_list_dict, G.isy_str_none, G.isy_str_bool, G.isy_str_int, G.isy_str_str, G.isy_str_list, G.isy_str_tuple, G.isy_str_dict, G.isy_dict_none, G.isy_dict_bool, G.isy_dict_int, G.isy_dict_str, G.isy_dict_list, G.isy_dict_tuple, G.isy_dict_dict, G.it_t, G.it_f, G.b_tt, G.b_ft, G.b_nt, G.b_nf, G.b_ta, G.b_fa, G.b_at, G.b_to, G.b_fo, G.lI_0, G.lI_1, G.lI_2, G.lI_3, G.lI_4, G.lI_5, G.lI_m, G.bs_f, G.es_f, G.bb_tt, G.bb_tf, G.bb_ft, G.bb_ff, G.bq_s, G.r_dic, G.k_dic1, G.k_dic2, G.k_dic3, G.k_dic4, G.k_kD1, G.k_kD2, G.k_fl0, G.k_fl1, G.k_pr0, G.k_pr1, G.k_pr2, G.r_dic0, G.d_ixDi, G.d_ixDs, G.d_inGT, G.d_inGL, G.d_ninGT, G.d_ninGL, G.d_inGi, G.d_ninGi, G.k_vals, G.k_items, G.d_setDi, G.dg_nil, G.dg_i, G.dg_s, G.mg_0, G.mg_s, G.dpk_n, G.ky_i, G.ky_s, G.d_eqX, G.d_neX, G.d_inT, G.d_inL, G.d_ninT, G.d_ninL, G.ev_ii, G.ev_bb, G.ev_ss, G.ev_nn, G.ev_tt, G.ev_ll, G.ev_0, G.ev_c, G.ev_c0, G.ev_0c, G.ev_none_bool, G.ev_none_int, G.ev_none_str, G.ev_none_list, G.ev_none_tuple, G.ev_bool_none, G.ev_bool_str, G.ev_bool_list, G.ev_bool_tuple, G.ev_int_none, G.ev_int_str, G.ev_int_list, G.ev_int_tuple, G.ev_str_none, G.ev_str_bool, G.ev_str_int, G.ev_str_list, G.ev_str_tuple, G.ev_list_none, G.ev_list_bool, G.ev_list_int, G.ev_list_str, G.ev_list_tuple, G.ev_tuple_none, G.ev_tuple_bool, G.ev_tuple_int, G.ev_tuple_str, G.ev_tuple_list, G.dec_t, G.not_dec, G.k_popA, G.k_popZ, G.k_pop1, G.r_ext, G.k_ext1, G.k_ext2, G.k_ext3, G.k_ext4, G.r_items, G.k_itemsJ, G.d_listD, G.d_intI, G.d_intB, G.d_strI, G.r_subG, G.k_sub1, G.k_sub2, G.k_sub3, G.k_sub4, G.k_sub5, G.k_sub6, G.k_sub7, G.r_tupL1, G.r_tupL2, G.r_tupL3, G.r_tupL4, G.d_isB, G.d_isnB, G.d_isnN, G.d_revL, G.d_revT, G.r_permA, G.k_perm1, G.k_perm2, G.k_perm3a, G.k_perm3b, G.k_perm3c, G.k_perm3d, G.k_perm3e, Int.reduceEq, Int.reduceLE, Int.reduceLT, Int.reduceAdd, Int.reduceSub, Int.reduceMul, Int.reduceNeg, Nat.reduceAdd, List.nil_append, not_true_eq_false, not_false_eq_true, and_true, true_and, and_false, false_and, or_true, true_or, or_false, false_or, decide_true, decide_false, eq_self, Bool.and_true, Bool.and_false, $ls,*] at $h:ident)
/-! ### kinds, symmetries -/
inductive Kd where
  | k0 | k1 | k2 | k3 | k4 | k5 | k6 | k7
deriving DecidableEq
def Kd.n : Kd → Nat
  | k0 => 0 | k1 => 1 | k2 => 2 | k3 => 3 | k4 => 4 | k5 => 5 | k6 => 6 | k7 => 7
def Kd.i : Kd → Int
  | k0 => 0 | k1 => 1 | k2 => 2 | k3 => 3 | k4 => 4 | k5 => 5 | k6 => 6 | k7 => 7
def Kd.of : Nat → Kd
  | 0 => k0 | 1 => k1 | 2 => k2 | 3 => k3 | 4 => k4 | 5 => k5 | 6 => k6 | _ => k7
def Kd.u : Kd → Int → Int → Int
  | k0, a, _ => a | k1, _, b => -b | k2, a, _ => -a | k3, _, b => b | k4, a, _ => -a | k5, _, b => -b | k6, a, _ => a | k7, _, b => b
def Kd.v : Kd → Int → Int → Int
  | k0, _, b => b | k1, a, _ => a | k2, _, b => -b | k3, a, _ => -a | k4, _, b => b | k5, a, _ => -a | k6, _, b => -b | k7, a, _ => a
/-- first p, then q -/
def Kd.mul (p q : Kd) : Kd := .of (if q.n < 4 then (if p.n < 4 then (p.n + q.n) % 4 else 4 + (p.n + q.n) % 4) else (if p.n < 4 then 4 + (q.n + 4 - p.n) % 4 else (q.n + 8 - p.n) % 4))
def Kd.inv : Kd → Kd
  | k1 => k3 | k3 => k1 | k => k
theorem Kd.mul_u (p q : Kd) (a b : Int) : (p.mul q).u a b = q.u (p.u a b) (p.v a b) := by
  cases p <;> cases q <;> simp [Kd.mul, Kd.n, Kd.of, Kd.u, Kd.v]
theorem Kd.mul_v (p q : Kd) (a b : Int) : (p.mul q).v a b = q.v (p.u a b) (p.v a b) := by
  cases p <;> cases q <;> simp [Kd.mul, Kd.n, Kd.of, Kd.u, Kd.v]
theorem Kd.mul_assoc (p q r : Kd) : (p.mul q).mul r = p.mul (q.mul r) := by
  cases p <;> cases q <;> cases r <;> rfl
theorem Kd.mul_k0 (p : Kd) : p.mul .k0 = p := by cases p <;> rfl
theorem Kd.k0_mul (p : Kd) : Kd.mul .k0 p = p := by cases p <;> rfl
theorem Kd.inv_mul (p : Kd) : p.inv.mul p = .k0 := by cases p <;> rfl
theorem Kd.u_add (p : Kd) (a b c d : Int) : p.u (a + c) (b + d) = p.u a b + p.u c d := by cases p <;> simp only [Kd.u] <;> omega
theorem Kd.v_add (p : Kd) (a b c d : Int) : p.v (a + c) (b + d) = p.v a b + p.v c d := by cases p <;> simp only [Kd.v] <;> omega
theorem Kd.u_neg (p : Kd) (a b : Int) : p.u (-a) (-b) = -p.u a b := by cases p <;> simp only [Kd.u] <;> omega
theorem Kd.v_neg (p : Kd) (a b : Int) : p.v (-a) (-b) = -p.v a b := by cases p <;> simp only [Kd.v] <;> omega
theorem Kd.i_nonneg (p : Kd) : 0 ≤ p.i := by cases p <;> decide
theorem Kd.i_le (p : Kd) : p.i ≤ 7 := by cases p <;> decide
/-- the kind of a number from 0 to 7 -/
def Kd.ofI (z : Int) : Kd := .of z.toNat
theorem Kd.ofI_i {z : Int} (h0 : 0 ≤ z) (h7 : z < 8) : (Kd.ofI z).i = z := by
  obtain h | h | h | h | h | h | h | h : z = 0 ∨ z = 1 ∨ z = 2 ∨ z = 3 ∨ z = 4 ∨ z = 5 ∨ z = 6 ∨ z = 7 := by omega
  all_goals subst h; rfl
abbrev SQ (a b : Int) : PyData := .tuple [.int a, .int b]
abbrev SY (k : Kd) (x y : Int) : PyData := .tuple [.int k.i, .int x, .int y]
structure Sym where
  k : Kd
  x : Int
  y : Int
deriving DecidableEq
abbrev Sym.d (s : Sym) : PyData := .tuple [.int s.k.i, .int s.x, .int s.y]
def Sym.one : Sym := ⟨.k0, 0, 0⟩
/-- first s, then t -/
def Sym.mul (s t : Sym) : Sym := ⟨s.k.mul t.k, t.k.u s.x s.y + t.x, t.k.v s.x s.y + t.y⟩
def Sym.inv (s : Sym) : Sym := ⟨s.k.inv, -s.k.inv.u s.x s.y, -s.k.inv.v s.x s.y⟩
theorem Sym.ext' {s t : Sym} (hk : s.k = t.k) (hx : s.x = t.x) (hy : s.y = t.y) : s = t := by
  cases s; cases t; cases hk; cases hx; cases hy; rfl
theorem Sym.mul_assoc (s t r : Sym) : (s.mul t).mul r = s.mul (t.mul r) := by
  unfold Sym.mul
  refine Sym.ext' (Kd.mul_assoc ..) ?_ ?_
  · dsimp only; rw [Kd.mul_u, Kd.u_add, Int.add_assoc]
  · dsimp only; rw [Kd.mul_v, Kd.v_add, Int.add_assoc]
theorem Sym.mul_one (s : Sym) : s.mul .one = s := by
  unfold Sym.mul Sym.one
  exact Sym.ext' (Kd.mul_k0 _) (by simp [Kd.u]) (by simp [Kd.v])
theorem Sym.one_mul (s : Sym) : Sym.one.mul s = s := by
  unfold Sym.mul Sym.one
  refine Sym.ext' (Kd.k0_mul _) ?_ ?_
  · cases h : s.k <;> simp [Kd.u, h]
  · cases h : s.k <;> simp [Kd.v, h]
theorem Sym.inv_mul (s : Sym) : s.inv.mul s = .one := by
  unfold Sym.mul Sym.inv Sym.one
  refine Sym.ext' (Kd.inv_mul _) ?_ ?_
  · dsimp only
    rw [Kd.u_neg, ← Kd.mul_u, Kd.inv_mul]
    simp only [Kd.u]
    omega
  · dsimp only
    rw [Kd.v_neg, ← Kd.mul_v, Kd.inv_mul]
    simp only [Kd.v]
    omega
/-- the image of a square -/
def Sym.im (s : Sym) (p : Int × Int) : Int × Int := (s.k.u p.1 p.2 + s.x, s.k.v p.1 p.2 + s.y)
theorem Sym.im_mul (s t : Sym) (p : Int × Int) : (s.mul t).im p = t.im (s.im p) := by
  unfold Sym.im Sym.mul
  dsimp only
  rw [Kd.mul_u, Kd.mul_v, Kd.u_add, Kd.v_add, Int.add_assoc, Int.add_assoc]
/-! ### numbers, squares, symmetries checked -/
theorem is_integer_ok {z : Int} : F_is_integer [.val (.int z)] = .ok (.val (.bool true), [.un]) := by kernel_rfl
theorem is_between_ok {z a b : Int} : F_is_between [.val (.int z), .val (.int a), .val (.int b)] = .ok (.val (.bool (decide (a ≤ z ∧ z ≤ b))), [.un, .un, .un]) := by
  rw [r_is_between]
  unfold B_is_between
  simp? [is_integer_ok]
  by_cases h : a ≤ z <;> simp [h]
theorem is_symmetry_ok {k : Kd} {x y : Int} : F_is_symmetry [.val (SY k x y)] = .ok (.val (.bool true), [.un]) := by
  rw [r_is_symmetry]
  unfold B_is_symmetry
  simp? [is_integer_ok, is_between_ok]
  simp [Kd.i_nonneg, Kd.i_le]
theorem need_symmetry_ok {k : Kd} {x y : Int} : F_need_symmetry [.val (SY k x y)] = .ok (.val .none, [.un]) := by
  rw [r_need_symmetry]
  unfold B_need_symmetry
  simp? [is_symmetry_ok]
/-! ### the linear part, images, products -/
theorem turned_ok {k : Kd} {x y : Int} : F_turned [.val (.int k.i), .val (SQ x y)] = .ok (.val (SQ (k.u x y) (k.v x y)), [.un, .un]) := by
  cases k
  · rw [show Kd.k0.u x y = 1 * x + 0 * y by simp only [Kd.u]; omega, show Kd.k0.v x y = 0 * x + 1 * y by simp only [Kd.v]; omega]; kernel_rfl
  · rw [show Kd.k1.u x y = 0 * x + -1 * y by simp only [Kd.u]; omega, show Kd.k1.v x y = 1 * x + 0 * y by simp only [Kd.v]; omega]; kernel_rfl
  · rw [show Kd.k2.u x y = -1 * x + 0 * y by simp only [Kd.u]; omega, show Kd.k2.v x y = 0 * x + -1 * y by simp only [Kd.v]; omega]; kernel_rfl
  · rw [show Kd.k3.u x y = 0 * x + 1 * y by simp only [Kd.u]; omega, show Kd.k3.v x y = -1 * x + 0 * y by simp only [Kd.v]; omega]; kernel_rfl
  · rw [show Kd.k4.u x y = -1 * x + 0 * y by simp only [Kd.u]; omega, show Kd.k4.v x y = 0 * x + 1 * y by simp only [Kd.v]; omega]; kernel_rfl
  · rw [show Kd.k5.u x y = 0 * x + -1 * y by simp only [Kd.u]; omega, show Kd.k5.v x y = -1 * x + 0 * y by simp only [Kd.v]; omega]; kernel_rfl
  · rw [show Kd.k6.u x y = 1 * x + 0 * y by simp only [Kd.u]; omega, show Kd.k6.v x y = 0 * x + -1 * y by simp only [Kd.v]; omega]; kernel_rfl
  · rw [show Kd.k7.u x y = 0 * x + 1 * y by simp only [Kd.u]; omega, show Kd.k7.v x y = 1 * x + 0 * y by simp only [Kd.v]; omega]; kernel_rfl
theorem offset_ok {k : Kd} {x y : Int} : F_offset [.val (SY k x y)] = .ok (.val (SQ x y), [.un]) := by kernel_rfl
theorem added_ok {x y a b m : Int} (h1 : mulOk m a = true) (h2 : mulOk m b = true) : F_added [.val (SQ x y), .val (SQ a b), .val (.int m)] = .ok (.val (SQ (x + m * a) (y + m * b)), [.un, .un, .un]) := by
  rw [r_added]
  unfold B_added
  simp? []
theorem mulOk_1 {a : Int} : mulOk 1 a = true := by unfold mulOk; rfl
theorem added1_ok {x y a b : Int} : F_added [.val (SQ x y), .val (SQ a b), .val (.int 1)] = .ok (.val (SQ (x + a) (y + b)), [.un, .un, .un]) := by
  rw [added_ok mulOk_1 mulOk_1, Int.one_mul, Int.one_mul]
theorem image_of_ok {k : Kd} {x y a b : Int} : F_image_of [.val (SY k x y), .val (SQ a b)] = .ok (.val (SQ (k.u a b + x) (k.v a b + y)), [.un, .un]) := by
  rw [r_image_of]
  unfold B_image_of
  simp? [turned_ok, offset_ok, added1_ok]
theorem rngOk_nat {n : Nat} (h : n < 1000000) : rngOk (n : Int) = true := by
  unfold rngOk
  simp only [Bool.and_eq_true, decide_eq_true_eq]
  omega
/-! ### the laws' own images and products -/
theorem law_linear_ok {k : Kd} {x y : Int} : F__law_linear [.val (.int k.i), .val (SQ x y)] = .ok (.val (SQ (k.u x y) (k.v x y)), [.un, .un]) := by
  cases k
  · rw [show Kd.k0.u x y = x from rfl, show Kd.k0.v x y = y from rfl]; kernel_rfl
  · rw [show Kd.k1.u x y = 0 - y by simp only [Kd.u]; omega, show Kd.k1.v x y = x from rfl]; kernel_rfl
  · rw [show Kd.k2.u x y = 0 - x by simp only [Kd.u]; omega, show Kd.k2.v x y = 0 - y by simp only [Kd.v]; omega]; kernel_rfl
  · rw [show Kd.k3.u x y = 0 - (0 - y) by simp only [Kd.u]; omega, show Kd.k3.v x y = 0 - x by simp only [Kd.v]; omega]; kernel_rfl
  · rw [show Kd.k4.u x y = 0 - x by simp only [Kd.u]; omega, show Kd.k4.v x y = y from rfl]; kernel_rfl
  · rw [show Kd.k5.u x y = 0 - y by simp only [Kd.u]; omega, show Kd.k5.v x y = 0 - x by simp only [Kd.v]; omega]; kernel_rfl
  · rw [show Kd.k6.u x y = 0 - (0 - x) by simp only [Kd.u]; omega, show Kd.k6.v x y = 0 - y by simp only [Kd.v]; omega]; kernel_rfl
  · rw [show Kd.k7.u x y = 0 - (0 - y) by simp only [Kd.u]; omega, show Kd.k7.v x y = 0 - (0 - x) by simp only [Kd.v]; omega]; kernel_rfl
theorem law_image_ok {k : Kd} {x y a b : Int} : F__law_image [.val (SY k x y), .val (SQ a b)] = .ok (.val (SQ (k.u a b + x) (k.v a b + y)), [.un, .un]) := by
  rw [r__law_image]
  unfold B__law_image
  simp? [law_linear_ok]
theorem law_image_2_ok {k : Kd} {x y a b : Int} : F__law_image_2 [.val (SY k x y), .val (SQ a b)] = .ok (.val (SQ (k.u a b + x) (k.v a b + y)), [.un, .un]) := law_image_ok
/-! ### drawing -/
structure Src where
  a : Int
  b : Int
  c : Int
  h0 : 0 ≤ b
  h1 : b ≤ 2147483647
abbrev Src.d (s : Src) : PyData := .list [.int s.a, .int s.b, .int s.c]
def m1 (b c : Int) : Int := (b * 48271 + 1009 * (c + 1) + 7).fmod 2147483647
def m2 (b : Int) : Int := (b * b + 69621 * b + 11).fmod 2147483629
def m3 (x : Int) : Int := (x * x + 40014 * x).fmod 2147483587
theorem m1_nn (b c : Int) : 0 ≤ m1 b c := Int.fmod_nonneg_of_pos _ (by decide)
theorem m1_lt (b c : Int) : m1 b c < 2147483647 := Int.fmod_lt_of_pos _ (by decide)
theorem m2_nn (b : Int) : 0 ≤ m2 b := Int.fmod_nonneg_of_pos _ (by decide)
theorem m2_lt (b : Int) : m2 b < 2147483629 := Int.fmod_lt_of_pos _ (by decide)
/-- the next number below m -/
def Src.v (s : Src) (m : Int) : Int := if 0 < s.a then s.a.fmod m else ((m3 (m2 (m1 s.b s.c))).fdiv 16).fmod m
def Src.nx (s : Src) (m : Int) : Src := if 0 < s.a then ⟨s.a.fdiv m, s.b, s.c, s.h0, s.h1⟩ else ⟨s.a, m1 s.b s.c, s.c + 1, m1_nn _ _, by have := m1_lt s.b s.c; omega⟩
theorem Src.v_nn (s : Src) {m : Int} (h : 0 < m) : 0 ≤ s.v m := by
  unfold Src.v
  split <;> exact Int.fmod_nonneg_of_pos _ h
theorem Src.v_lt (s : Src) {m : Int} (h : 0 < m) : s.v m < m := by
  unfold Src.v
  split <;> exact Int.fmod_lt_of_pos _ h
theorem setD_0 {x a b c : Int} : setD (.list [.int a, .int b, .int c]) (.int 0) (.int x) = some (.list [.int x, .int b, .int c]) := by rfl
theorem setD_1 {x a b c : Int} : setD (.list [.int a, .int b, .int c]) (.int 1) (.int x) = some (.list [.int a, .int x, .int c]) := by rfl
theorem setD_2 {x a b c : Int} : setD (.list [.int a, .int b, .int c]) (.int 2) (.int x) = some (.list [.int a, .int b, .int x]) := by rfl
theorem smallI_of {i : Int} (h0 : 0 ≤ i) (h : i < 18446744073709551616) : smallI i = true := by
  unfold smallI
  simp only [Bool.and_eq_true, decide_eq_true_eq]
  omega
theorem draw_ok (s : Src) {m : Int} (h0 : 0 < m) (h1 : divOk m = true) : F__law_draw [.prm s.d, .val (.int m)] = .ok (.val (.int (s.v m)), [.prm (s.nx m).d, .un]) := by
  have hm : m ≠ 0 := by omega
  rw [r__law_draw]
  unfold B__law_draw Src.v Src.nx
  by_cases ha : 0 < s.a
  · simp? [ha, if_pos, setD_0]
  · have e1 := m1_nn s.b s.c
    have e2 := m1_lt s.b s.c
    have q1 : mulOk (m1 s.b s.c) (m1 s.b s.c) = true := G.mulOk_l (smallI_of e1 (by omega))
    have e3 := m2_nn (m1 s.b s.c)
    have e4 := m2_lt (m1 s.b s.c)
    have q2 : mulOk (m2 (m1 s.b s.c)) (m2 (m1 s.b s.c)) = true := G.mulOk_l (smallI_of e3 (by omega))
    have r1 : (s.b * 48271 + 1009 * (s.c + 1) + 7).fmod 2147483647 = m1 s.b s.c := rfl
    have r2 : (m1 s.b s.c * m1 s.b s.c + 69621 * m1 s.b s.c + 11).fmod 2147483629 = m2 (m1 s.b s.c) := rfl
    have r3 : (m2 (m1 s.b s.c) * m2 (m1 s.b s.c) + 40014 * m2 (m1 s.b s.c)).fmod 2147483587 = m3 (m2 (m1 s.b s.c)) := rfl
    simp? [ha, if_neg, setD_1, setD_2, r1, r2, r3]
theorem source_ok {z : Int} : ∃ s : Src, F__law_source [.val (.int z)] = .ok (.fr s.d, [.un]) := by
  have hz : 0 ≤ z.fmod 2147483629 ∧ z.fmod 2147483629 < 2147483629 := ⟨Int.fmod_nonneg_of_pos _ (by decide), Int.fmod_lt_of_pos _ (by decide)⟩
  refine ⟨⟨if z - 1000000000000000000 > 0 then z - 1000000000000000000 else 0, z.fmod 2147483629 + 1, 0, by omega, by omega⟩, ?_⟩
  rw [r__law_source]
  unfold B__law_source
  simp? []
theorem cell_ok (ns : List Int) (k : Nat) : ∃ z : Int, F__law_cell [.val (.list (ns.map PyData.int)), .val (.int k)] = .ok (.val (.int z), [.un, .un]) := by
  rw [r__law_cell]
  unfold B__law_cell
  by_cases h : k < ns.length
  · have h2 : atI (ns.map PyData.int) (k : Int) = some (.int ns[k]) := atI_nat (by rw [List.getElem?_map, List.getElem?_eq_getElem h]; rfl)
    have h3 : (k : Int) < (ns.length : Int) := by omega
    exact ⟨ns[k], by simp? [h2, h3, if_pos]⟩
  · have h3 : ¬ (k : Int) < (ns.length : Int) := by omega
    exact ⟨0, by simp? [h3, if_neg]⟩
def Src.sq (s : Src) (far : Int) : Int × Int := (s.v (2 * far + 1) - far, (s.nx (2 * far + 1)).v (2 * far + 1) - far)
def Src.nx2 (s : Src) (far : Int) : Src := (s.nx (2 * far + 1)).nx (2 * far + 1)
theorem divOk_of {j : Int} (h0 : 0 < j) (h : j < 1073741824) : divOk j = true := by
  unfold divOk
  simp only [Bool.and_eq_true, Bool.or_eq_true, decide_eq_true_eq]
  exact ⟨by omega, .inl (by omega)⟩
theorem square_ok (s : Src) {far : Int} (h0 : 0 ≤ far) (h1 : far < 1000000) : F__law_square [.prm s.d, .val (.int far)] = .ok (.val (SQ (s.sq far).1 (s.sq far).2), [.prm (s.nx2 far).d, .un]) := by
  have e1 := draw_ok s (m := 2 * far + 1) (by omega) (divOk_of (by omega) (by omega))
  have e2 := draw_ok (s.nx (2 * far + 1)) (m := 2 * far + 1) (by omega) (divOk_of (by omega) (by omega))
  rw [r__law_square]
  unfold B__law_square Src.sq Src.nx2
  simp? [e1, e2]
theorem Src.sq_abs (s : Src) {far : Int} (h0 : 0 ≤ far) : (s.sq far).1.natAbs ≤ far.natAbs ∧ (s.sq far).2.natAbs ≤ far.natAbs := by
  have a1 := s.v_nn (show 0 < 2 * far + 1 by omega)
  have a2 := s.v_lt (show 0 < 2 * far + 1 by omega)
  have a3 := (s.nx (2 * far + 1)).v_nn (show 0 < 2 * far + 1 by omega)
  have a4 := (s.nx (2 * far + 1)).v_lt (show 0 < 2 * far + 1 by omega)
  unfold Src.sq
  dsimp only
  omega
def Src.sym (s : Src) (far : Int) : Sym := ⟨Kd.ofI (s.v 8), ((s.nx 8).sq far).1, ((s.nx 8).sq far).2⟩
def Src.nxs (s : Src) (far : Int) : Src := (s.nx 8).nx2 far
theorem symmetry_ok (s : Src) {far : Int} (h0 : 0 ≤ far) (h1 : far < 1000000) : F__law_symmetry [.prm s.d, .val (.int far)] = .ok (.val (s.sym far).d, [.prm (s.nxs far).d, .un]) := by
  have e1 := draw_ok s (m := 8) (by omega) (by decide)
  have e2 := square_ok (s.nx 8) h0 h1
  rw [← Kd.ofI_i (s.v_nn (by decide)) (s.v_lt (by decide))] at e1
  rw [r__law_symmetry]
  unfold B__law_symmetry Src.sym Src.nxs
  simp? [e1, e2]
theorem Src.sym_abs (s : Src) {far : Int} (h0 : 0 ≤ far) : (s.sym far).x.natAbs ≤ far.natAbs ∧ (s.sym far).y.natAbs ≤ far.natAbs := (s.nx 8).sq_abs h0
/-! ### repr -/
theorem is_equal_ok {d : PyData} (h : reprOk d = true) : F__law_is_equal [.val d, .val d] = .ok (.val (.bool true), [.un, .un]) := by
  rw [r__law_is_equal]
  unfold B__law_is_equal
  simp? []
end M
namespace M
open PySem PySem.Spec PyProof.Rows L2 G
local macro_rules
  | `(tactic| simp? [$ls,*]) => `(tactic| simp (maxSteps := 1000000) (disch := first | assumption | (simp (disch := decide +kernel) only [G.sl_nil, G.sl_cons, List.cons_append, List.nil_append, G.shN_str, G.shN_tup, G.shN_lst, G.shN_int, G.shN_bool, G.shN_none, G.shA_nil, G.shA_cons, G.b_ta, G.ky_i, G.ky_s]; done) | exact G.len_ok (by simp only [G.sl_nil, G.sl_cons]) | decide | decide +kernel | exact G.mulOk_l (by decide) | exact G.mulOk_r (by decide) | omega) only [G.rb_ok, G.rb_ex, G.rb_bad, G.rb_ite, G.lz, G.ls, G.sz, G.ss, G.r_seq, G.k_seq1, G.k_seq2, G.k_seq3, G.k_seq4, G.r_nx, G.r_bk, G.r_ct, G.r_retN, G.r_ret, G.k_ret, G.r_drop, G.k_drop, G.r_if, G.r_ife, G.k_if, G.r_asg, G.k_asg1, G.k_asg2, G.k_asg3, G.k_sl1, G.k_sl2, G.k_sh1, G.k_sh2, G.k_sh3, G.k_sh4, G.k_sh5, G.r_asgG, G.k_asgG, G.k_asgL, G.k_tg, G.r_nm, G.r_tup, G.r_tup1, G.r_tup3, G.r_tup4, G.r_nil, G.r_cons, G.r_V, G.k_V1, G.k_V2, G.k_V4, G.k_V3, G.r_C, G.p_val, G.p_fr, G.p_sl, G.pb_1, G.pb_2, G.pb_3, G.od_1, G.od_2, G.p_1, G.p_2, G.p_3, G.q_1, G.q_2, G.q_3, G.re_1, G.re_2, G.re_ite, G.st_1, G.st_2, G.st_3, G.r_op2, G.k_op2a, G.k_op2b, G.k_op2c, G.r_op1, G.k_op1, G.ob_some, G.r_said, G.k_said1, G.r_opN, G.k_opN, G.r_pk0, G.r_pk1, G.k_pk, G.r_anil, G.r_acons, G.k_acons, G.k_acons2, G.shs_v0, G.shs_v1, G.shs_v2, G.shs_v3, G.shs_v4, G.om_some, G.r_tupT, G.r_lstT, G.k_dt, G.k_dl, G.k_d1, G.k_d2, G.r_fB, G.k_fB, G.r_and, G.r_or, G.r_andV, G.r_orV, G.r_not, G.r_notV, G.k_not, G.k_notV, G.r_yes, G.r_ch, G.k_ch1, G.k_ch2, G.k_ch3, G.k_ch4, G.k_ch5, G.r_call, G.c1_nil, G.c1_t, G.c1_f, G.c1_s, G.c1_s1, G.c1_s2, G.k_ca, G.k_c1, G.k_c2, G.c2_nil, G.c2_v, G.c2_s, G.c2_s1, G.c2_s3, G.c2_s2, G.k_call, G.k_w1, G.k_w2, G.k_w3, G.k_wite, G.wb_nil, G.wb_none, G.wb_some, G.k_wb1, G.k_wb2, G.wbx_nil, G.wbx_none, G.ap_nil, G.ap_nil2, G.ap_cons, G.ma_nil, G.ma_cons, G.ds_nil, G.ds_none, G.ds_some, G.me_nil, G.me_none, G.me_some, G.ou_0, G.ou_s, G.ob_val, G.ob_own, G.ob_un, G.ob_exc, G.ob_prm, G.le_0, G.le_s, G.k_rf1, G.k_rf2, G.k_rf3, G.k_rf4, G.k_rs1, G.k_rs2, G.r_set, G.k_set1, G.k_set2, G.k_set3, G.k_set4, G.k_set5, G.k_set6, G.k_set7, G.k_set8, G.k_set9, G.r_mut, G.k_mu1, G.k_mu2, G.k_mu3, G.k_mu4, G.k_mu5, G.k_mu6, G.k_mu7, G.k_app, G.k_apps, G.r_par, G.k_par1, G.k_par2, G.k_par3, G.k_par4, G.k_par5, G.r_par3, G.k_p3a, G.k_p3b, G.r_parN, G.k_pn1, G.k_pn2, G.k_nx, G.ev_nil, G.ev_cons, G.k_ev1, G.k_ev2, G.rs_nil, G.rs_val, G.rs_fr, G.rs_sl, G.k_rsS1, G.k_rsS2, G.bn_nil, G.bn_val, G.bn_fr, G.r_rep, G.k_rp1, G.k_rp2, G.k_rp3, G.ixN_last, G.set_last, G.ix_last, G.r_for, G.k_for, G.fo_nil, G.fo_cons, G.k_fo0, G.k_fo1, G.k_fo2, G.k_fo3, G.k_fo4, G.r_turn, G.k_tu0, G.k_tu1, G.k_tu2, G.k_tu3, G.k_tu4, G.r_seqI, G.k_seqI, G.k_seqI1, G.k_seqI3, G.k_seqI5, G.k_seqI6, G.k_seqI4, G.k_seqI2, G.r_rng1, G.k_rng1, G.k_rng1b, G.r_rng2, G.k_rng2, G.k_rng2b, G.rgl_0, G.rgl_1, G.rgl_2, G.rgl_3, G.rgl_4, G.rgl_5, G.rgl_6, G.rgl_7, G.rgl_8, G.rgl_9, G.rgl_10, G.rgl_12, G.rgl_16, G.r1l_1, G.r1l_2, G.r1l_3, G.r1l_4, G.r1l_5, G.r1l_6, G.r1l_8, G.rpl_0, G.rpl_1, G.rpl_2, G.rpl_3, G.rpl_4, G.rpl_5, G.rpl_6, G.rpl_7, G.rpl_8, G.r_lc, G.k_lc, G.l_nil, G.l_cons, G.l_A, G.l_B, G.l_C, G.l_C2, G.l_C3, G.l_S1, G.l_S2, G.l_D, G.k_lc1, G.wi_nil, G.wi_cons, G.mulOk_l, G.mulOk_r, G.r_sl, G.k_sla, G.k_slb, G.k_slc, G.k_sld, G.pt_n, G.pt_s, G.k_pt, G.cu_t, G.cu_l, G.cu_1n, G.cu_2n, G.cu_n1, G.d_add, G.d_addT, G.d_addTs, G.d_addL, G.d_addLs, G.d_sub, G.d_mul, G.d_fdiv, G.d_mod, G.d_neg, G.d_cmp, G.d_ixT, G.d_ixL, G.at_0, G.at_1, G.at_2, G.at_3, G.d_lenL, G.d_lenT, G.d_tupL, G.d_tupT, G.d_all, G.k_all, G.d_any, G.k_any, G.bo_nil, G.bo_cons, G.al_nil, G.al_cons, G.al_map, G.an_nil, G.an_cons, G.an_map, G.id_b, G.bo_map, G.d_max, G.d_min, G.d_listL, G.d_listT, G.d_p18, G.d_p13, G.d_p12, G.d_is, G.d_abs, G.d_repr, G.d_eqS, G.d_neS, G.d_eqI, G.d_neI, G.d_isi, G.isy_int_none, G.isy_int_bool, G.isy_int_int, G.isy_int_str, G.isy_int_list, G.isy_int_tuple, G.isy_int_dict, G.isy_bool_none, G.isy_bool_bool, G.isy_bool_int, G.isy_bool_str, G.isy_bool_list, G.isy_bool_tuple, G.isy_bool_dict, G.isy_tuple_none, G.isy_tuple_bool, G.isy_tuple_int, G.isy_tuple_str, G.isy_tuple_list, G.isy_tuple_tuple, G.isy_tuple_dict, G.isy_list_none, G.isy_list_bool, G.isy_list_int, G.isy_list_str, G.isy_list_list, G.isy_list_tuple, G.isy_list_dict, G.isy_str_none, G.isy_str_bool, G.isy_str_int, G.isy_str_str, G.isy_str_list, G.isy_str_tuple, G.isy_str_dict, G.isy_dict_none, G.isy_dict_bool, G.isy_dict_int, G.isy_dict_str, G.isy_dict_list, G.isy_dict_tuple, G.isy_dict_dict, G.it_t, G.it_f, G.b_tt, G.b_ft, G.b_nt, G.b_nf, G.b_ta, G.b_fa, G.b_at, G.b_to, G.b_fo, G.lI_0, G.lI_1, G.lI_2, G.lI_3, G.lI_4, G.lI_5, G.lI_m, G.bs_f, G.es_f, G.bb_tt, G.bb_tf, G.bb_ft, G.bb_ff, G.bq_s, G.r_dic, G.k_dic1, G.k_dic2, G.k_dic3, G.k_dic4, G.k_kD1, G.k_kD2, G.k_fl0, G.k_fl1, G.k_pr0, G.k_pr1, G.k_pr2, G.r_dic0, G.d_ixDi, G.d_ixDs, G.d_inGT, G.d_inGL, G.d_ninGT, G.d_ninGL, G.d_inGi, G.d_ninGi, G.k_vals, G.k_items, G.d_setDi, G.dg_nil, G.dg_i, G.dg_s, G.mg_0, G.mg_s, G.dpk_n, G.ky_i, G.ky_s, G.d_eqX, G.d_neX, G.d_inT, G.d_inL, G.d_ninT, G.d_ninL, G.ev_ii, G.ev_bb, G.ev_ss, G.ev_nn, G.ev_tt, G.ev_ll, G.ev_0, G.ev_c, G.ev_c0, G.ev_0c, G.ev_none_bool, G.ev_none_int, G.ev_none_str, G.ev_none_list, G.ev_none_tuple, G.ev_bool_none, G.ev_bool_str, G.ev_bool_list, G.ev_bool_tuple, G.ev_int_none, G.ev_int_str, G.ev_int_list, G.ev_int_tuple, G.ev_str_none, G.ev_str_bool, G.ev_str_int, G.ev_str_list, G.ev_str_tuple, G.ev_list_none, G.ev_list_bool, G.ev_list_int, G.ev_list_str, G.ev_list_tuple, G.ev_tuple_none, G.ev_tuple_bool, G.ev_tuple_int, G.ev_tuple_str, G.ev_tuple_list, G.dec_t, G.not_dec, G.k_popA, G.k_popZ, G.k_pop1, G.r_ext, G.k_ext1, G.k_ext2, G.k_ext3, G.k_ext4, G.r_items, G.k_itemsJ, G.d_listD, G.d_intI, G.d_intB, G.d_strI, G.r_subG, G.k_sub1, G.k_sub2, G.k_sub3, G.k_sub4, G.k_sub5, G.k_sub6, G.k_sub7, G.r_tupL1, G.r_tupL2, G.r_tupL3, G.r_tupL4, G.d_isB, G.d_isnB, G.d_isnN, G.d_revL, G.d_revT, G.r_permA, G.k_perm1, G.k_perm2, G.k_perm3a, G.k_perm3b, G.k_perm3c, G.k_perm3d, G.k_perm3e, Int.reduceEq, Int.reduceLE, Int.reduceLT, Int.reduceAdd, Int.reduceSub, Int.reduceMul, Int.reduceNeg, Nat.reduceAdd, List.nil_append, not_true_eq_false, not_false_eq_true, and_true, true_and, and_false, false_and, or_true, true_or, or_false, false_or, decide_true, decide_false, eq_self, Bool.and_true, Bool.and_false, $ls,*])
  | `(tactic| simp? [$ls,*] at $h:ident) => `(tactic| simp (maxSteps := 1000000) (disch := first | assumption | (simp (disch := decide +kernel) only [G.sl_nil, G.sl_cons, List.cons_append, List.nil_append, G.shN_str, G.shN_tup, G.shN_lst, G.shN_int, G.shN_bool, G.shN_none, G.shA_nil, G.shA_cons, G.b_ta, G.ky_i, G.ky_s]; done) | exact G.len_ok (by simp only [G.sl_nil, G.sl_cons]) | decide | decide +kernel | exact G.mulOk_l (by decide) | exact G.mulOk_r (by decide) | omega) only [G.rb_ok, G.rb_ex, G.rb_bad, G.rb_ite, G.lz, G.ls, G.sz, G.ss, G.r_seq, G.k_seq1, G.k_seq2, G.k_seq3, G.k_seq4, G.r_nx, G.r_bk, G.r_ct, G.r_retN, G.r_ret, G.k_ret, G.r_drop, G.k_drop, G.r_if, G.r_ife, G.k_if, G.r_asg, G.k_asg1, G.k_asg2, G.k_asg3, G.k_sl1, G.k_sl2, G.k_sh1, G.k_sh2, G.k_sh3, G.k_sh4, G.k_sh5, G.r_asgG, G.k_asgG, G.k_asgL, G.k_tg, G.r_nm, G.r_tup, G.r_tup1, G.r_tup3, G.r_tup4, G.r_nil, G.r_cons, G.r_V, G.k_V1, G.k_V2, G.k_V4, G.k_V3, G.r_C, G.p_val, G.p_fr, G.p_sl, G.pb_1, G.pb_2, G.pb_3, G.od_1, G.od_2, G.p_1, G.p_2, G.p_3, G.q_1, G.q_2, G.q_3, G.re_1, G.re_2, G.re_ite, G.st_1, G.st_2, G.st_3, G.r_op2, G.k_op2a, G.k_op2b, G.k_op2c, G.r_op1, G.k_op1, G.ob_some, G.r_said, G.k_said1, G.r_opN, G.k_opN, G.r_pk0, G.r_pk1, G.k_pk, G.r_anil, G.r_acons, G.k_acons, G.k_acons2, G.shs_v0, G.shs_v1, G.shs_v2, G.shs_v3, G.shs_v4, G.om_some, G.r_tupT, G.r_lstT, G.k_dt, G.k_dl, G.k_d1, G.k_d2, G.r_fB, G.k_fB, G.r_and, G.r_or, G.r_andV, G.r_orV, G.r_not, G.r_notV, G.k_not, G.k_notV, G.r_yes, G.r_ch, G.k_ch1, G.k_ch2, G.k_ch3, G.k_ch4, G.k_ch5, G.r_call, G.c1_nil, G.c1_t, G.c1_f, G.c1_s, G.c1_s1, G.c1_s2, G.k_ca, G.k_c1, G.k_c2, G.c2_nil, G.c2_v, G.c2_s, G.c2_s1, G.c2_s3, G.c2_s2, G.k_call, G.k_w1, G.k_w2, G.k_w3, G.k_wite, G.wb_nil, G.wb_none, G.wb_some, G.k_wb1, G.k_wb2, G.wbx_nil, G.wbx_none, G.ap_nil, G.ap_nil2, G.ap_cons, G.ma_nil, G.ma_cons, G.ds_nil, G.ds_none, G.ds_some, G.me_nil, G.me_none, G.me_some, G.ou_0, G.ou_s, G.ob_val, G.ob_own, G.ob_un, G.ob_exc, G.ob_prm, G.le_0, G.le_s, G.k_rf1, G.k_rf2, G.k_rf3, G.k_rf4, G.k_rs1, G.k_rs2, G.r_set, G.k_set1, G.k_set2, G.k_set3, G.k_set4, G.k_set5, G.k_set6, G.k_set7, G.k_set8, G.k_set9, G.r_mut, G.k_mu1, G.k_mu2, G.k_mu3, G.k_mu4, G.k_mu5, G.k_mu6, G.k_mu7, G.k_app, G.k_apps, G.r_par, G.k_par1, G.k_par2, G.k_par3, G.k_par4, G.k_par5, G.r_par3, G.k_p3a, G.k_p3b, G.r_parN, G.k_pn1, G.k_pn2, G.k_nx, G.ev_nil, G.ev_cons, G.k_ev1, G.k_ev2, G.rs_nil, G.rs_val, G.rs_fr, G.rs_sl, G.k_rsS1, G.k_rsS2, G.bn_nil, G.bn_val, G.bn_fr, G.r_rep, G.k_rp1, G.k_rp2, G.k_rp3, G.ixN_last, G.set_last, G.ix_last, G.r_for, G.k_for, G.fo_nil, G.fo_cons, G.k_fo0, G.k_fo1, G.k_fo2, G.k_fo3, G.k_fo4, G.r_turn, G.k_tu0, G.k_tu1, G.k_tu2, G.k_tu3, G.k_tu4, G.r_seqI, G.k_seqI, G.k_seqI1, G.k_seqI3, G.k_seqI5, G.k_seqI6, G.k_seqI4, G.k_seqI2, G.r_rng1, G.k_rng1, G.k_rng1b, G.r_rng2, G.k_rng2, G.k_rng2b, G.rgl_0, G.rgl_1, G.rgl_2, G.rgl_3, G.rgl_4, G.rgl_5, G.rgl_6, G.rgl_7, G.rgl_8, G.rgl_9, G.rgl_10, G.rgl_12, G.rgl_16, G.r1l_1, G.r1l_2, G.r1l_3, G.r1l_4, G.r1l_5, G.r1l_6, G.r1l_8, G.rpl_0, G.rpl_1, G.rpl_2, G.rpl_3, G.rpl_4, G.rpl_5, G.rpl_6, G.rpl_7, G.rpl_8, G.r_lc, G.k_lc, G.l_nil, G.l_cons, G.l_A, G.l_B, G.l_C, G.l_C2, G.l_C3, G.l_S1, G.l_S2, G.l_D, G.k_lc1, G.wi_nil, G.wi_cons, G.mulOk_l, G.mulOk_r, G.r_sl, G.k_sla, G.k_slb, G.k_slc, G.k_sld, G.pt_n, G.pt_s, G.k_pt, G.cu_t, G.cu_l, G.cu_1n, G.cu_2n, G.cu_n1, G.d_add, G.d_addT, G.d_addTs, G.d_addL, G.d_addLs, G.d_sub, G.d_mul, G.d_fdiv, G.d_mod, G.d_neg, G.d_cmp, G.d_ixT, G.d_ixL, G.at_0, G.at_1, G.at_2, G.at_3, G.d_lenL, G.d_lenT, G.d_tupL, G.d_tupT, G.d_all, G.k_all, G.d_any, G.k_any, G.bo_nil, G.bo_cons, G.al_nil, G.al_cons, G.al_map, G.an_nil, G.an_cons, G.an_map, G.id_b, G.bo_map, G.d_max, G.d_min, G.d_listL, G.d_listT, G.d_p18, G.d_p13, G.d_p12, G.d_is, G.d_abs, G.d_repr, G.d_eqS, G.d_neS, G.d_eqI, G.d_neI, G.d_isi, G.isy_int_none, G.isy_int_bool, G.isy_int_int, G.isy_int_str, G.isy_int_list, G.isy_int_tuple, G.isy_int_dict, G.isy_bool_none, G.isy_bool_bool, G.isy_bool_int, G.isy_bool_str, G.isy_bool_list, G.isy_bool_tuple, G.isy_bool_dict, G.isy_tuple_none, G.isy_tuple_bool, G.isy_tuple_int, G.isy_tuple_str, G.isy_tuple_list, G.isy_tuple_tuple, G.isy_tuple_dict, G.isy_list_none, G.isy_list_bool, G.isy_list_int, G.isy_list_str, G.isy_list_list, G.isy_list_tuple, G.isy_list_dict, G.isy_str_none, G.isy_str_bool, G.isy_str_int, G.isy_str_str, G.isy_str_list, G.isy_str_tuple, G.isy_str_dict, G.isy_dict_none, G.isy_dict_bool, G.isy_dict_int, G.isy_dict_str, G.isy_dict_list, G.isy_dict_tuple, G.isy_dict_dict, G.it_t, G.it_f, G.b_tt, G.b_ft, G.b_nt, G.b_nf, G.b_ta, G.b_fa, G.b_at, G.b_to, G.b_fo, G.lI_0, G.lI_1, G.lI_2, G.lI_3, G.lI_4, G.lI_5, G.lI_m, G.bs_f, G.es_f, G.bb_tt, G.bb_tf, G.bb_ft, G.bb_ff, G.bq_s, G.r_dic, G.k_dic1, G.k_dic2, G.k_dic3, G.k_dic4, G.k_kD1, G.k_kD2, G.k_fl0, G.k_fl1, G.k_pr0, G.k_pr1, G.k_pr2, G.r_dic0, G.d_ixDi, G.d_ixDs, G.d_inGT, G.d_inGL, G.d_ninGT, G.d_ninGL, G.d_inGi, G.d_ninGi, G.k_vals, G.k_items, G.d_setDi, G.dg_nil, G.dg_i, G.dg_s, G.mg_0, G.mg_s, G.dpk_n, G.ky_i, G.ky_s, G.d_eqX, G.d_neX, G.d_inT, G.d_inL, G.d_ninT, G.d_ninL, G.ev_ii, G.ev_bb, G.ev_ss, G.ev_nn, G.ev_tt, G.ev_ll, G.ev_0, G.ev_c, G.ev_c0, G.ev_0c, G.ev_none_bool, G.ev_none_int, G.ev_none_str, G.ev_none_list, G.ev_none_tuple, G.ev_bool_none, G.ev_bool_str, G.ev_bool_list, G.ev_bool_tuple, G.ev_int_none, G.ev_int_str, G.ev_int_list, G.ev_int_tuple, G.ev_str_none, G.ev_str_bool, G.ev_str_int, G.ev_str_list, G.ev_str_tuple, G.ev_list_none, G.ev_list_bool, G.ev_list_int, G.ev_list_str, G.ev_list_tuple, G.ev_tuple_none, G.ev_tuple_bool, G.ev_tuple_int, G.ev_tuple_str, G.ev_tuple_list, G.dec_t, G.not_dec, G.k_popA, G.k_popZ, G.k_pop1, G.r_ext, G.k_ext1, G.k_ext2, G.k_ext3, G.k_ext4, G.r_items, G.k_itemsJ, G.d_listD, G.d_intI, G.d_intB, G.d_strI, G.r_subG, G.k_sub1, G.k_sub2, G.k_sub3, G.k_sub4, G.k_sub5, G.k_sub6, G.k_sub7, G.r_tupL1, G.r_tupL2, G.r_tupL3, G.r_tupL4, G.d_isB, G.d_isnB, G.d_isnN, G.d_revL, G.d_revT, G.r_permA, G.k_perm1, G.k_perm2, G.k_perm3a, G.k_perm3b, G.k_perm3c, G.k_perm3d, G.k_perm3e, Int.reduceEq, Int.reduceLE, Int.reduceLT, Int.reduceAdd, Int.reduceSub, Int.reduceMul, Int.reduceNeg, Nat.reduceAdd, List.nil_append, not_true_eq_false, not_false_eq_true, and_true, true_and, and_false, false_and, or_true, true_or, or_false, false_or, decide_true, decide_false, eq_self, Bool.and_true, Bool.and_false, $ls,*] at $h:ident)
def sqd (p : Int × Int) : PyData := .tuple [.int p.1, .int p.2]
/-! ### the frame of a law -/
def outerI (most : Int) : SI := rng1I (aCons (opN max2D (aCons (fC (.int 1)) (aCons (opN min2D (aCons (opN lenD (aCons (fV 0) aNil)) (aCons (fC (.int most)) aNil))) aNil))) aNil)
theorem outerI_ok {ns : List Int} {bs : List B} (most : Nat) (h1 : 1 ≤ most) (h2 : most ≤ 100) : ∃ m : Nat, m ≤ most ∧ outerI most (.val (.list (ns.map PyData.int)) :: bs) = .ok ((List.range m).map fun i : Nat => PyData.int (0 + i), .val (.list (ns.map PyData.int)) :: bs) := by
  have key : ∃ m : Nat, m ≤ most ∧ (if (if (most : Int) < (ns.length : Int) then (most : Int) else (ns.length : Int)) > 1 then (if (most : Int) < (ns.length : Int) then (most : Int) else (ns.length : Int)) else 1) = (m : Int) := by
    by_cases h : (most : Int) < (ns.length : Int)
    · by_cases h2 : (most : Int) > 1
      · exact ⟨most, Nat.le_refl _, by rw [if_pos h, if_pos h2]⟩
      · exact ⟨1, h1, by rw [if_pos h, if_neg h2]; rfl⟩
    · by_cases h2 : (ns.length : Int) > 1
      · exact ⟨ns.length, by omega, by rw [if_neg h, if_pos h2]⟩
      · exact ⟨1, h1, by rw [if_neg h, if_neg h2]; rfl⟩
  obtain ⟨m, hm, em⟩ := key
  refine ⟨m, hm, ?_⟩
  have hr : rngOk (m : Int) = true := rngOk_nat (by omega)
  unfold outerI
  simp? [em, Int.toNat_natCast]
theorem law_outerI {b : SS} {ns : List Int} {J : List B → Prop} (most : Nat) (h1 : 1 ≤ most) (h2 : most ≤ 100)
    (st : ∀ (i : Nat) (bs : List B), i < most → J bs → ∃ bs', J bs' ∧ turn (nmG 1) b (.int (0 + i)) (.val (.list (ns.map PyData.int)) :: bs) = .ok (.nx (.val (.list (ns.map PyData.int)) :: bs'))) (bs : List B) (hb : J bs) :
    ∃ bs', J bs' ∧ forS (outerI most) (nmG 1) b (.val (.list (ns.map PyData.int)) :: bs) = .ok (.nx (.val (.list (ns.map PyData.int)) :: bs')) := by
  obtain ⟨m, hm, e⟩ := outerI_ok (ns := ns) (bs := bs) most h1 h2
  obtain ⟨ρ', e', bs', hb', rfl⟩ := fo_inv (enc := fun i : Nat => PyData.int (0 + i)) (t := nmG 1) (b := b) (fun ρ => ∃ bs : List B, J bs ∧ ρ = .val (.list (ns.map PyData.int)) :: bs) (xs := List.range m) ⟨bs, hb, rfl⟩ (by
    rintro i hi ρ ⟨bs, hb, rfl⟩
    obtain ⟨bs', hb', e⟩ := st i bs (by have := List.mem_range.mp hi; omega) hb
    exact ⟨_, e, bs', hb', rfl⟩)
  exact ⟨bs', hb', by rw [r_for, e, rb_ok, k_for, e']⟩
def drawS : SS := asgS 2 (callF [false] F__law_source [] (aCons (callF [false, false] F__law_cell [] (aCons (fV 0) (aCons (fV 1) aNil))) aNil))
theorem drawS_ok {ns : List Int} {i : Nat} {b2 : B} {bs : List B} : ∃ s : Src, drawS (.val (.list (ns.map PyData.int)) :: .val (.int i) :: b2 :: bs) = .ok (.nx (.val (.list (ns.map PyData.int)) :: .val (.int i) :: .own s.d :: bs)) := by
  obtain ⟨z, ez⟩ := cell_ok ns i
  obtain ⟨s, es⟩ := source_ok (z := z)
  exact ⟨s, by unfold drawS; simp? [ez, es]⟩
/-- the same where the comprehensions' slots stay empty -/
theorem law_laps_un {b : SS} {ns : List Int} {n : Nat} {us : List B} (most laps : Nat) (h1 : 1 ≤ most) (h2 : most ≤ 100) (h3 : laps ≤ 100)
    (st : ∀ (i : Nat) (s : Src) (c3 : B) (bs : List B) (b1 : B), i < laps → bs.length = n → ∃ (s' : Src) (c3' : B) (bs' : List B), bs'.length = n ∧ turn (nmG 3) b (.int (0 + i)) (.val (.list (ns.map PyData.int)) :: b1 :: .own s.d :: c3 :: (bs ++ us)) = .ok (.nx (.val (.list (ns.map PyData.int)) :: b1 :: .own s'.d :: c3' :: (bs' ++ us)))) (bs : List B) (hb : bs.length = n + 3) :
    ∃ bs', bs'.length = n + 3 + us.length ∧ forS (outerI most) (nmG 1) (seqS drawS (forS (rng1I (aCons (fC (.int laps)) aNil)) (nmG 3) b)) (.val (.list (ns.map PyData.int)) :: (bs ++ us)) = .ok (.nx (.val (.list (ns.map PyData.int)) :: bs')) := by
  have key : ∃ bs', (∃ cs : List B, cs.length = n + 3 ∧ bs' = cs ++ us) ∧ forS (outerI most) (nmG 1) (seqS drawS (forS (rng1I (aCons (fC (.int laps)) aNil)) (nmG 3) b)) (.val (.list (ns.map PyData.int)) :: (bs ++ us)) = .ok (.nx (.val (.list (ns.map PyData.int)) :: bs')) := by
    refine law_outerI (J := fun bs' => ∃ cs : List B, cs.length = n + 3 ∧ bs' = cs ++ us) most h1 h2 ?_ _ ⟨bs, hb, rfl⟩
    rintro i _ hi ⟨bs, hb, rfl⟩
    match bs, hb with
    | c1 :: c2 :: c3 :: bs, hb =>
      obtain ⟨s, es⟩ := drawS_ok (ns := ns) (i := i) (b2 := c2) (bs := c3 :: (bs ++ us))
      obtain ⟨ρ', e', s', c3', bs', hb', rfl⟩ := fo_inv (enc := fun i : Nat => PyData.int (0 + i)) (t := nmG 3) (b := b) (fun ρ => ∃ (s : Src) (c3 : B) (bs : List B), bs.length = n ∧ ρ = .val (.list (ns.map PyData.int)) :: .val (.int i) :: .own s.d :: c3 :: (bs ++ us)) (xs := List.range laps) ⟨s, c3, bs, by simpa using hb, rfl⟩ (by
        rintro j hj ρ ⟨s, c3, bs, hb, rfl⟩
        obtain ⟨s', c3', bs', hb', e⟩ := st j s c3 bs (.val (.int i)) (List.mem_range.mp hj) hb
        exact ⟨_, e, s', c3', bs', hb', rfl⟩)
      have hr : rngOk (laps : Int) = true := rngOk_nat (by omega)
      have h0 : (0 : Int) + (i : Int) = i := by omega
      refine ⟨.val (.int i) :: .own s'.d :: c3' :: (bs' ++ us), ⟨.val (.int i) :: .own s'.d :: c3' :: bs', by simp [hb'], rfl⟩, ?_⟩
      rw [h0]
      simp? [List.cons_append, es, e', Int.toNat_natCast]
  obtain ⟨bs', ⟨cs, hc, rfl⟩, e⟩ := key
  exact ⟨_, by rw [List.length_append, hc], e⟩
/-- the end of such a law -/
theorem law_end {b : SS} {sc : PyData} {bs : List B} {n : Nat} (h : ∃ bs', bs'.length = n ∧ b (.val sc :: bs) = .ok (.nx (.val sc :: bs'))) : ∃ ρ, Rs.bind (seqS b (retS (fC (.bool true))) (.val sc :: bs)) (retF 1) = .ok (.val (.bool true), ρ) := by
  obtain ⟨bs', _, e⟩ := h
  exact ⟨[.un], by simp? [e]⟩
theorem law_laps_end {ns : List Int} (b : SS) (n : Nat) (us : List B) (most laps : Nat) (h1 : 1 ≤ most) (h2 : most ≤ 100) (h3 : laps ≤ 100)
    (st : ∀ (i : Nat) (s : Src) (c3 : B) (bs : List B) (b1 : B), i < laps → bs.length = n → ∃ (s' : Src) (c3' : B) (bs' : List B), bs'.length = n ∧ turn (nmG 3) b (.int (0 + i)) (.val (.list (ns.map PyData.int)) :: b1 :: .own s.d :: c3 :: (bs ++ us)) = .ok (.nx (.val (.list (ns.map PyData.int)) :: b1 :: .own s'.d :: c3' :: (bs' ++ us)))) :
    ∃ ρ, Rs.bind (seqS (forS (outerI most) (nmG 1) (seqS drawS (forS (rng1I (aCons (fC (.int laps)) aNil)) (nmG 3) b))) (retS (fC (.bool true))) (.val (.list (ns.map PyData.int)) :: (List.replicate (n + 3) .un ++ us))) (retF 1) = .ok (.val (.bool true), ρ) :=
  law_end (law_laps_un most laps h1 h2 h3 st _ List.length_replicate)
/-! ### repr -/
theorem rep_cons {x : PyData} {xs : List PyData} : PyData.showableAll (x :: xs) = (PyData.showable x && PyData.showableAll xs) := rfl
theorem rep_int {i : Int} (h : i.natAbs < 2 ^ 64) : PyData.showable (.int i) = true := by
  have l1 : ∀ n : Nat, n < 2 ^ 64 → n.log2 < 64 := fun n h => by
    by_cases h0 : n = 0
    · subst h0; decide
    · exact (Nat.log2_lt h0).mpr h
  have := l1 _ h
  unfold PyData.showable
  exact decide_eq_true (by omega)
theorem rep_kd {k : Kd} : PyData.showable (.int k.i) = true := by cases k <;> rfl
end M
namespace M
open PySem PySem.Spec PyProof.Rows L2 G
local macro_rules
  | `(tactic| simp? [$ls,*]) => `(tactic| simp (maxSteps := 1000000) (disch := first | assumption | (simp (disch := decide +kernel) only [G.sl_nil, G.sl_cons, List.cons_append, List.nil_append, G.shN_str, G.shN_tup, G.shN_lst, G.shN_int, G.shN_bool, G.shN_none, G.shA_nil, G.shA_cons, G.b_ta, G.ky_i, G.ky_s]; done) | exact G.len_ok (by simp only [G.sl_nil, G.sl_cons]) | decide | decide +kernel | exact G.mulOk_l (by decide) | exact G.mulOk_r (by decide) | omega) only [G.rb_ok, G.rb_ex, G.rb_bad, G.rb_ite, G.lz, G.ls, G.sz, G.ss, G.r_seq, G.k_seq1, G.k_seq2, G.k_seq3, G.k_seq4, G.r_nx, G.r_bk, G.r_ct, G.r_retN, G.r_ret, G.k_ret, G.r_drop, G.k_drop, G.r_if, G.r_ife, G.k_if, G.r_asg, G.k_asg1, G.k_asg2, G.k_asg3, G.k_sl1, G.k_sl2, G.k_sh1, G.k_sh2, G.k_sh3, G.k_sh4, G.k_sh5, G.r_asgG, G.k_asgG, G.k_asgL, G.k_tg, G.r_nm, G.r_tup, G.r_tup1, G.r_tup3, G.r_tup4, G.r_nil, G.r_cons, G.r_V, G.k_V1, G.k_V2, G.k_V4, G.k_V3, G.r_C, G.p_val, G.p_fr, G.p_sl, G.pb_1, G.pb_2, G.pb_3, G.od_1, G.od_2, G.p_1, G.p_2, G.p_3, G.q_1, G.q_2, G.q_3, G.re_1, G.re_2, G.re_ite, G.st_1, G.st_2, G.st_3, G.r_op2, G.k_op2a, G.k_op2b, G.k_op2c, G.r_op1, G.k_op1, G.ob_some, G.r_said, G.k_said1, G.r_opN, G.k_opN, G.r_pk0, G.r_pk1, G.k_pk, G.r_anil, G.r_acons, G.k_acons, G.k_acons2, G.shs_v0, G.shs_v1, G.shs_v2, G.shs_v3, G.shs_v4, G.om_some, G.r_tupT, G.r_lstT, G.k_dt, G.k_dl, G.k_d1, G.k_d2, G.r_fB, G.k_fB, G.r_and, G.r_or, G.r_andV, G.r_orV, G.r_not, G.r_notV, G.k_not, G.k_notV, G.r_yes, G.r_ch, G.k_ch1, G.k_ch2, G.k_ch3, G.k_ch4, G.k_ch5, G.r_call, G.c1_nil, G.c1_t, G.c1_f, G.c1_s, G.c1_s1, G.c1_s2, G.k_ca, G.k_c1, G.k_c2, G.c2_nil, G.c2_v, G.c2_s, G.c2_s1, G.c2_s3, G.c2_s2, G.k_call, G.k_w1, G.k_w2, G.k_w3, G.k_wite, G.wb_nil, G.wb_none, G.wb_some, G.k_wb1, G.k_wb2, G.wbx_nil, G.wbx_none, G.ap_nil, G.ap_nil2, G.ap_cons, G.ma_nil, G.ma_cons, G.ds_nil, G.ds_none, G.ds_some, G.me_nil, G.me_none, G.me_some, G.ou_0, G.ou_s, G.ob_val, G.ob_own, G.ob_un, G.ob_exc, G.ob_prm, G.le_0, G.le_s, G.k_rf1, G.k_rf2, G.k_rf3, G.k_rf4, G.k_rs1, G.k_rs2, G.r_set, G.k_set1, G.k_set2, G.k_set3, G.k_set4, G.k_set5, G.k_set6, G.k_set7, G.k_set8, G.k_set9, G.r_mut, G.k_mu1, G.k_mu2, G.k_mu3, G.k_mu4, G.k_mu5, G.k_mu6, G.k_mu7, G.k_app, G.k_apps, G.r_par, G.k_par1, G.k_par2, G.k_par3, G.k_par4, G.k_par5, G.r_par3, G.k_p3a, G.k_p3b, G.r_parN, G.k_pn1, G.k_pn2, G.k_nx, G.ev_nil, G.ev_cons, G.k_ev1, G.k_ev2, G.rs_nil, G.rs_val, G.rs_fr, G.rs_sl, G.k_rsS1, G.k_rsS2, G.bn_nil, G.bn_val, G.bn_fr, G.r_rep, G.k_rp1, G.k_rp2, G.k_rp3, G.ixN_last, G.set_last, G.ix_last, G.r_for, G.k_for, G.fo_nil, G.fo_cons, G.k_fo0, G.k_fo1, G.k_fo2, G.k_fo3, G.k_fo4, G.r_turn, G.k_tu0, G.k_tu1, G.k_tu2, G.k_tu3, G.k_tu4, G.r_seqI, G.k_seqI, G.k_seqI1, G.k_seqI3, G.k_seqI5, G.k_seqI6, G.k_seqI4, G.k_seqI2, G.r_rng1, G.k_rng1, G.k_rng1b, G.r_rng2, G.k_rng2, G.k_rng2b, G.rgl_0, G.rgl_1, G.rgl_2, G.rgl_3, G.rgl_4, G.rgl_5, G.rgl_6, G.rgl_7, G.rgl_8, G.rgl_9, G.rgl_10, G.rgl_12, G.rgl_16, G.r1l_1, G.r1l_2, G.r1l_3, G.r1l_4, G.r1l_5, G.r1l_6, G.r1l_8, G.rpl_0, G.rpl_1, G.rpl_2, G.rpl_3, G.rpl_4, G.rpl_5, G.rpl_6, G.rpl_7, G.rpl_8, G.r_lc, G.k_lc, G.l_nil, G.l_cons, G.l_A, G.l_B, G.l_C, G.l_C2, G.l_C3, G.l_S1, G.l_S2, G.l_D, G.k_lc1, G.wi_nil, G.wi_cons, G.mulOk_l, G.mulOk_r, G.r_sl, G.k_sla, G.k_slb, G.k_slc, G.k_sld, G.pt_n, G.pt_s, G.k_pt, G.cu_t, G.cu_l, G.cu_1n, G.cu_2n, G.cu_n1, G.d_add, G.d_addT, G.d_addTs, G.d_addL, G.d_addLs, G.d_sub, G.d_mul, G.d_fdiv, G.d_mod, G.d_neg, G.d_cmp, G.d_ixT, G.d_ixL, G.at_0, G.at_1, G.at_2, G.at_3, G.d_lenL, G.d_lenT, G.d_tupL, G.d_tupT, G.d_all, G.k_all, G.d_any, G.k_any, G.bo_nil, G.bo_cons, G.al_nil, G.al_cons, G.al_map, G.an_nil, G.an_cons, G.an_map, G.id_b, G.bo_map, G.d_max, G.d_min, G.d_listL, G.d_listT, G.d_p18, G.d_p13, G.d_p12, G.d_is, G.d_abs, G.d_repr, G.d_eqS, G.d_neS, G.d_eqI, G.d_neI, G.d_isi, G.isy_int_none, G.isy_int_bool, G.isy_int_int, G.isy_int_str, G.isy_int_list, G.isy_int_tuple, G.isy_int_dict, G.isy_bool_none, G.isy_bool_bool, G.isy_bool_int, G.isy_bool_str, G.isy_bool_list, G.isy_bool_tuple, G.isy_bool_dict, G.isy_tuple_none, G.isy_tuple_bool, G.isy_tuple_int, G.isy_tuple_str, G.isy_tuple_list, G.isy_tuple_tuple, G.isy_tuple_dict, G.isy_list_none, G.isy_list_bool, G.isy_list_int, G.isy_list_str, G.isy_list_list, G.isy_list_tuple, G.isy_list_dict, G.isy_str_none, G.isy_str_bool, G.isy_str_int, G.isy_str_str, G.isy_str_list, G.isy_str_tuple, G.isy_str_dict, G.isy_dict_none, G.isy_dict_bool, G.isy_dict_int, G.isy_dict_str, G.isy_dict_list, G.isy_dict_tuple, G.isy_dict_dict, G.it_t, G.it_f, G.b_tt, G.b_ft, G.b_nt, G.b_nf, G.b_ta, G.b_fa, G.b_at, G.b_to, G.b_fo, G.lI_0, G.lI_1, G.lI_2, G.lI_3, G.lI_4, G.lI_5, G.lI_m, G.bs_f, G.es_f, G.bb_tt, G.bb_tf, G.bb_ft, G.bb_ff, G.bq_s, G.r_dic, G.k_dic1, G.k_dic2, G.k_dic3, G.k_dic4, G.k_kD1, G.k_kD2, G.k_fl0, G.k_fl1, G.k_pr0, G.k_pr1, G.k_pr2, G.r_dic0, G.d_ixDi, G.d_ixDs, G.d_inGT, G.d_inGL, G.d_ninGT, G.d_ninGL, G.d_inGi, G.d_ninGi, G.k_vals, G.k_items, G.d_setDi, G.dg_nil, G.dg_i, G.dg_s, G.mg_0, G.mg_s, G.dpk_n, G.ky_i, G.ky_s, G.d_eqX, G.d_neX, G.d_inT, G.d_inL, G.d_ninT, G.d_ninL, G.ev_ii, G.ev_bb, G.ev_ss, G.ev_nn, G.ev_tt, G.ev_ll, G.ev_0, G.ev_c, G.ev_c0, G.ev_0c, G.ev_none_bool, G.ev_none_int, G.ev_none_str, G.ev_none_list, G.ev_none_tuple, G.ev_bool_none, G.ev_bool_str, G.ev_bool_list, G.ev_bool_tuple, G.ev_int_none, G.ev_int_str, G.ev_int_list, G.ev_int_tuple, G.ev_str_none, G.ev_str_bool, G.ev_str_int, G.ev_str_list, G.ev_str_tuple, G.ev_list_none, G.ev_list_bool, G.ev_list_int, G.ev_list_str, G.ev_list_tuple, G.ev_tuple_none, G.ev_tuple_bool, G.ev_tuple_int, G.ev_tuple_str, G.ev_tuple_list, G.dec_t, G.not_dec, G.k_popA, G.k_popZ, G.k_pop1, G.r_ext, G.k_ext1, G.k_ext2, G.k_ext3, G.k_ext4, G.r_items, G.k_itemsJ, G.d_listD, G.d_intI, G.d_intB, G.d_strI, G.r_subG, G.k_sub1, G.k_sub2, G.k_sub3, G.k_sub4, G.k_sub5, G.k_sub6, G.k_sub7, G.r_tupL1, G.r_tupL2, G.r_tupL3, G.r_tupL4, G.d_isB, G.d_isnB, G.d_isnN, G.d_revL, G.d_revT, G.r_permA, G.k_perm1, G.k_perm2, G.k_perm3a, G.k_perm3b, G.k_perm3c, G.k_perm3d, G.k_perm3e, Int.reduceEq, Int.reduceLE, Int.reduceLT, Int.reduceAdd, Int.reduceSub, Int.reduceMul, Int.reduceNeg, Nat.reduceAdd, List.nil_append, not_true_eq_false, not_false_eq_true, and_true, true_and, and_false, false_and, or_true, true_or, or_false, false_or, decide_true, decide_false, eq_self, Bool.and_true, Bool.and_false, $ls,*])
  | `(tactic| simp? [$ls,*] at $h:ident) => `(tactic| simp (maxSteps := 1000000) (disch := first | assumption | (simp (disch := decide +kernel) only [G.sl_nil, G.sl_cons, List.cons_append, List.nil_append, G.shN_str, G.shN_tup, G.shN_lst, G.shN_int, G.shN_bool, G.shN_none, G.shA_nil, G.shA_cons, G.b_ta, G.ky_i, G.ky_s]; done) | exact G.len_ok (by simp only [G.sl_nil, G.sl_cons]) | decide | decide +kernel | exact G.mulOk_l (by decide) | exact G.mulOk_r (by decide) | omega) only [G.rb_ok, G.rb_ex, G.rb_bad, G.rb_ite, G.lz, G.ls, G.sz, G.ss, G.r_seq, G.k_seq1, G.k_seq2, G.k_seq3, G.k_seq4, G.r_nx, G.r_bk, G.r_ct, G.r_retN, G.r_ret, G.k_ret, G.r_drop, G.k_drop, G.r_if, G.r_ife, G.k_if, G.r_asg, G.k_asg1, G.k_asg2, G.k_asg3, G.k_sl1, G.k_sl2, G.k_sh1, G.k_sh2, G.k_sh3, G.k_sh4, G.k_sh5, G.r_asgG, G.k_asgG, G.k_asgL, G.k_tg, G.r_nm, G.r_tup, G.r_tup1, G.r_tup3, G.r_tup4, G.r_nil, G.r_cons, G.r_V, G.k_V1, G.k_V2, G.k_V4, G.k_V3, G.r_C, G.p_val, G.p_fr, G.p_sl, G.pb_1, G.pb_2, G.pb_3, G.od_1, G.od_2, G.p_1, G.p_2, G.p_3, G.q_1, G.q_2, G.q_3, G.re_1, G.re_2, G.re_ite, G.st_1, G.st_2, G.st_3, G.r_op2, G.k_op2a, G.k_op2b, G.k_op2c, G.r_op1, G.k_op1, G.ob_some, G.r_said, G.k_said1, G.r_opN, G.k_opN, G.r_pk0, G.r_pk1, G.k_pk, G.r_anil, G.r_acons, G.k_acons, G.k_acons2, G.shs_v0, G.shs_v1, G.shs_v2, G.shs_v3, G.shs_v4, G.om_some, G.r_tupT, G.r_lstT, G.k_dt, G.k_dl, G.k_d1, G.k_d2, G.r_fB, G.k_fB, G.r_and, G.r_or, G.r_andV, G.r_orV, G.r_not, G.r_notV, G.k_not, G.k_notV, G.r_yes, G.r_ch, G.k_ch1, G.k_ch2, G.k_ch3, G.k_ch4, G.k_ch5, G.r_call, G.c1_nil, G.c1_t, G.c1_f, G.c1_s, G.c1_s1, G.c1_s2, G.k_ca, G.k_c1, G.k_c2, G.c2_nil, G.c2_v, G.c2_s, G.c2_s1, G.c2_s3, G.c2_s2, G.k_call, G.k_w1, G.k_w2, G.k_w3, G.k_wite, G.wb_nil, G.wb_none, G.wb_some, G.k_wb1, G.k_wb2, G.wbx_nil, G.wbx_none, G.ap_nil, G.ap_nil2, G.ap_cons, G.ma_nil, G.ma_cons, G.ds_nil, G.ds_none, G.ds_some, G.me_nil, G.me_none, G.me_some, G.ou_0, G.ou_s, G.ob_val, G.ob_own, G.ob_un, G.ob_exc, G.ob_prm, G.le_0, G.le_s, G.k_rf1, G.k_rf2, G.k_rf3, G.k_rf4, G.k_rs1, G.k_rs2, G.r_set, G.k_set1, G.k_set2, G.k_set3, G.k_set4, G.k_set5, G.k_set6, G.k_set7, G.k_set8, G.k_set9, G.r_mut, G.k_mu1, G.k_mu2, G.k_mu3, G.k_mu4, G.k_mu5, G.k_mu6, G.k_mu7, G.k_app, G.k_apps, G.r_par, G.k_par1, G.k_par2, G.k_par3, G.k_par4, G.k_par5, G.r_par3, G.k_p3a, G.k_p3b, G.r_parN, G.k_pn1, G.k_pn2, G.k_nx, G.ev_nil, G.ev_cons, G.k_ev1, G.k_ev2, G.rs_nil, G.rs_val, G.rs_fr, G.rs_sl, G.k_rsS1, G.k_rsS2, G.bn_nil, G.bn_val, G.bn_fr, G.r_rep, G.k_rp1, G.k_rp2, G.k_rp3, G.ixN_last, G.set_last, G.ix_last, G.r_for, G.k_for, G.fo_nil, G.fo_cons, G.k_fo0, G.k_fo1, G.k_fo2, G.k_fo3, G.k_fo4, G.r_turn, G.k_tu0, G.k_tu1, G.k_tu2, G.k_tu3, G.k_tu4, G.r_seqI, G.k_seqI, G.k_seqI1, G.k_seqI3, G.k_seqI5, G.k_seqI6, G.k_seqI4, G.k_seqI2, G.r_rng1, G.k_rng1, G.k_rng1b, G.r_rng2, G.k_rng2, G.k_rng2b, G.rgl_0, G.rgl_1, G.rgl_2, G.rgl_3, G.rgl_4, G.rgl_5, G.rgl_6, G.rgl_7, G.rgl_8, G.rgl_9, G.rgl_10, G.rgl_12, G.rgl_16, G.r1l_1, G.r1l_2, G.r1l_3, G.r1l_4, G.r1l_5, G.r1l_6, G.r1l_8, G.rpl_0, G.rpl_1, G.rpl_2, G.rpl_3, G.rpl_4, G.rpl_5, G.rpl_6, G.rpl_7, G.rpl_8, G.r_lc, G.k_lc, G.l_nil, G.l_cons, G.l_A, G.l_B, G.l_C, G.l_C2, G.l_C3, G.l_S1, G.l_S2, G.l_D, G.k_lc1, G.wi_nil, G.wi_cons, G.mulOk_l, G.mulOk_r, G.r_sl, G.k_sla, G.k_slb, G.k_slc, G.k_sld, G.pt_n, G.pt_s, G.k_pt, G.cu_t, G.cu_l, G.cu_1n, G.cu_2n, G.cu_n1, G.d_add, G.d_addT, G.d_addTs, G.d_addL, G.d_addLs, G.d_sub, G.d_mul, G.d_fdiv, G.d_mod, G.d_neg, G.d_cmp, G.d_ixT, G.d_ixL, G.at_0, G.at_1, G.at_2, G.at_3, G.d_lenL, G.d_lenT, G.d_tupL, G.d_tupT, G.d_all, G.k_all, G.d_any, G.k_any, G.bo_nil, G.bo_cons, G.al_nil, G.al_cons, G.al_map, G.an_nil, G.an_cons, G.an_map, G.id_b, G.bo_map, G.d_max, G.d_min, G.d_listL, G.d_listT, G.d_p18, G.d_p13, G.d_p12, G.d_is, G.d_abs, G.d_repr, G.d_eqS, G.d_neS, G.d_eqI, G.d_neI, G.d_isi, G.isy_int_none, G.isy_int_bool, G.isy_int_int, G.isy_int_str, G.isy_int_list, G.isy_int_tuple, G.isy_int_dict, G.isy_bool_none, G.isy_bool_bool, G.isy_bool_int, G.isy_bool_str, G.isy_bool_list, G.isy_bool_tuple, G.isy_bool_dict, G.isy_tuple_none, G.isy_tuple_bool, G.isy_tuple_int, G.isy_tuple_str, G.isy_tuple_list, G.isy_tuple_tuple, G.isy_tuple_dict, G.isy_list_none, G.isy_list_bool, G.isy_list_int, G.isy_list_str, G.isy_list_list, G.isy_list_tuple, G.isy_list_dict, G.isy_str_none, G.isy_str_bool, G.isy_str_int, G.isy_str_str, G.isy_str_list, G.isy_str_tuple, G.isy_str_dict, G.isy_dict_none, G.isy_dict_bool, G.isy_dict_int, G.isy_dict_str, G.isy_dict_list, G.isy_dict_tuple, G.isy_dict_dict, G.it_t, G.it_f, G.b_tt, G.b_ft, G.b_nt, G.b_nf, G.b_ta, G.b_fa, G.b_at, G.b_to, G.b_fo, G.lI_0, G.lI_1, G.lI_2, G.lI_3, G.lI_4, G.lI_5, G.lI_m, G.bs_f, G.es_f, G.bb_tt, G.bb_tf, G.bb_ft, G.bb_ff, G.bq_s, G.r_dic, G.k_dic1, G.k_dic2, G.k_dic3, G.k_dic4, G.k_kD1, G.k_kD2, G.k_fl0, G.k_fl1, G.k_pr0, G.k_pr1, G.k_pr2, G.r_dic0, G.d_ixDi, G.d_ixDs, G.d_inGT, G.d_inGL, G.d_ninGT, G.d_ninGL, G.d_inGi, G.d_ninGi, G.k_vals, G.k_items, G.d_setDi, G.dg_nil, G.dg_i, G.dg_s, G.mg_0, G.mg_s, G.dpk_n, G.ky_i, G.ky_s, G.d_eqX, G.d_neX, G.d_inT, G.d_inL, G.d_ninT, G.d_ninL, G.ev_ii, G.ev_bb, G.ev_ss, G.ev_nn, G.ev_tt, G.ev_ll, G.ev_0, G.ev_c, G.ev_c0, G.ev_0c, G.ev_none_bool, G.ev_none_int, G.ev_none_str, G.ev_none_list, G.ev_none_tuple, G.ev_bool_none, G.ev_bool_str, G.ev_bool_list, G.ev_bool_tuple, G.ev_int_none, G.ev_int_str, G.ev_int_list, G.ev_int_tuple, G.ev_str_none, G.ev_str_bool, G.ev_str_int, G.ev_str_list, G.ev_str_tuple, G.ev_list_none, G.ev_list_bool, G.ev_list_int, G.ev_list_str, G.ev_list_tuple, G.ev_tuple_none, G.ev_tuple_bool, G.ev_tuple_int, G.ev_tuple_str, G.ev_tuple_list, G.dec_t, G.not_dec, G.k_popA, G.k_popZ, G.k_pop1, G.r_ext, G.k_ext1, G.k_ext2, G.k_ext3, G.k_ext4, G.r_items, G.k_itemsJ, G.d_listD, G.d_intI, G.d_intB, G.d_strI, G.r_subG, G.k_sub1, G.k_sub2, G.k_sub3, G.k_sub4, G.k_sub5, G.k_sub6, G.k_sub7, G.r_tupL1, G.r_tupL2, G.r_tupL3, G.r_tupL4, G.d_isB, G.d_isnB, G.d_isnN, G.d_revL, G.d_revT, G.r_permA, G.k_perm1, G.k_perm2, G.k_perm3a, G.k_perm3b, G.k_perm3c, G.k_perm3d, G.k_perm3e, Int.reduceEq, Int.reduceLE, Int.reduceLT, Int.reduceAdd, Int.reduceSub, Int.reduceMul, Int.reduceNeg, Nat.reduceAdd, List.nil_append, not_true_eq_false, not_false_eq_true, and_true, true_and, and_false, false_and, or_true, true_or, or_false, false_or, decide_true, decide_false, eq_self, Bool.and_true, Bool.and_false, $ls,*] at $h:ident)
/-! ### lists drawn by turns -/
theorem lc_ind {α : Type} {enc : α → PyData} {t : SG} {c : SB} {fe : SE} {vs : List Nat} (I : List B → Prop) (P : PyData → Prop) : ∀ {xs : List α} {n : Nat} {ρ : List B}, I ρ → (∀ x ∈ xs, ∀ ρ, I ρ → ∃ y ρ', P y ∧ I ρ' ∧ lcL t c fe vs 0 [enc x] ρ = some ([y], ρ')) → n + xs.length ≤ sizeLine → ∃ ys ρ', ys.length = xs.length ∧ (∀ y ∈ ys, P y) ∧ I ρ' ∧ lcL t c fe vs n (xs.map enc) ρ = some (ys, ρ')
  | [], n, ρ, h, _, _ => ⟨[], ρ, rfl, (fun y hy => by cases hy), h, by rw [List.map_nil, l_nil]⟩
  | x :: xs, n, ρ, h, st, hn => by
    simp only [List.length_cons] at hn
    obtain ⟨y, ρ1, hy, h1, e1⟩ := st x (List.mem_cons_self ..) ρ h
    obtain ⟨ys, ρ2, hl, hP, h2, e2⟩ := lc_ind I P (n := n + 1) h1 (fun z hz => st z (List.mem_cons_of_mem _ hz)) (by omega)
    refine ⟨y :: ys, ρ2, by simp [hl], fun z hz => ?_, h2, ?_⟩
    · rcases List.mem_cons.mp hz with rfl | hz
      · exact hy
      · exact hP z hz
    · rw [List.map_cons, (lcL_cons1 e1).2 n _ (by omega)]
      show (lcL t c fe vs (n + 1) _ _).map _ = _
      rw [e2]
      rfl
theorem exists_map {α : Type} {enc : α → PyData} {Q : α → Prop} : ∀ {ys : List PyData}, (∀ y ∈ ys, ∃ a, Q a ∧ y = enc a) → ∃ as : List α, ys = as.map enc ∧ as.length = ys.length ∧ ∀ a ∈ as, Q a
  | [], _ => ⟨[], rfl, rfl, fun a h => by cases h⟩
  | y :: ys, h => by
    obtain ⟨a, qa, rfl⟩ := h y (List.mem_cons_self ..)
    obtain ⟨as, rfl, hl, hq⟩ := exists_map (ys := ys) fun z hz => h z (List.mem_cons_of_mem _ hz)
    refine ⟨a :: as, rfl, by simp, fun b hb => ?_⟩
    rcases List.mem_cons.mp hb with rfl | hb
    · exact qa
    · exact hq b hb
theorem choose_ok (s : Src) {ds : List PyData} (h : ds ≠ []) (hl : ds.length < 1000000) : ∃ d ∈ ds, F__law_choose [.prm s.d, .val (.list ds)] = .ok (.val d, [.prm (s.nx ds.length).d, .un]) := by
  have hp : 0 < ds.length := List.length_pos_iff.mpr h
  have e := draw_ok s (m := ds.length) (by omega) (divOk_of (by omega) (by omega))
  have a := s.v_nn (m := ds.length) (by omega)
  have b := s.v_lt (m := ds.length) (by omega)
  have hi : (s.v ds.length).toNat < ds.length := by omega
  have ha : atI ds (s.v ds.length) = some (ds[(s.v ds.length).toNat]) := by
    have := atI_nat (xs := ds) (j := (s.v ds.length).toNat) (v := ds[(s.v ds.length).toNat]) (List.getElem?_eq_getElem hi)
    rwa [show (((s.v ds.length).toNat : Nat) : Int) = s.v ds.length by omega] at this
  refine ⟨ds[(s.v ds.length).toNat], List.getElem_mem hi, ?_⟩
  rw [r__law_choose]
  unfold B__law_choose
  simp? [e, ha]
/-! ### generators drawn -/
/-! ### generators checked, carried -/
end M
namespace M
open PySem PySem.Spec PyProof.Rows L2 G
/-! ### data that repr shows -/
structure RP (n z : Nat) (d : PyData) : Prop where
  sh : d.showable = true
  dp : d.depth ≤ n
  sz : szD d ≤ z
theorem RP.mono {n z n' z' : Nat} {d : PyData} (h : RP n z d) (hn : n ≤ n') (hz : z ≤ z') : RP n' z' d := ⟨h.sh, Nat.le_trans h.dp hn, Nat.le_trans h.sz hz⟩
theorem RP.int {i : Int} (h : i.natAbs < 2 ^ 64) : RP 0 1921 (.int i) := ⟨rep_int h, by simp [PyData.depth], by simp [szD]⟩
theorem RP.bool {b : Bool} : RP 0 1921 (.bool b) := ⟨rfl, by simp [PyData.depth], by simp [szD]⟩
theorem RP.none : RP 0 1921 .none := ⟨rfl, by simp [PyData.depth], by simp [szD]⟩
theorem RP.all {n z : Nat} : ∀ {xs : List PyData}, (∀ x ∈ xs, RP n z x) → PyData.showableAll xs = true ∧ PyData.depthAll xs ≤ n ∧ szAll xs ≤ xs.length * (z + 2)
  | [], _ => ⟨rfl, by simp [PyData.depthAll], by simp [szAll]⟩
  | x :: xs, h => by
    obtain ⟨a, b, c⟩ := h x (List.mem_cons_self ..)
    obtain ⟨a', b', c'⟩ := RP.all (xs := xs) fun y hy => h y (List.mem_cons_of_mem _ hy)
    refine ⟨by rw [rep_cons, a, a']; rfl, ?_, ?_⟩
    · rw [show PyData.depthAll (x :: xs) = max x.depth (PyData.depthAll xs) by simp [PyData.depthAll]]
      omega
    · rw [show szAll (x :: xs) = szD x + 2 + szAll xs by simp [szAll], List.length_cons, Nat.succ_mul]
      omega
theorem RP.tup {n z : Nat} {xs : List PyData} (h : ∀ x ∈ xs, RP n z x) : RP (n + 1) (xs.length * (z + 2) + 4) (.tuple xs) := by
  obtain ⟨a, b, c⟩ := RP.all h
  refine ⟨a, ?_, ?_⟩
  · rw [show PyData.depth (.tuple xs) = PyData.depthAll xs + 1 by simp [PyData.depth]]; omega
  · rw [show szD (.tuple xs) = szAll xs + 4 by simp [szD]]; omega
theorem RP.lst {n z : Nat} {xs : List PyData} (h : ∀ x ∈ xs, RP n z x) : RP (n + 1) (xs.length * (z + 2) + 4) (.list xs) := by
  obtain ⟨a, b, c⟩ := RP.all h
  refine ⟨a, ?_, ?_⟩
  · rw [show PyData.depth (.list xs) = PyData.depthAll xs + 1 by simp [PyData.depth]]; omega
  · rw [show szD (.list xs) = szAll xs + 4 by simp [szD]]; omega
theorem RP.ok {n z : Nat} {d : PyData} (h : RP n z d) (hn : n ≤ 64) (hz : z ≤ 16000000) : reprOk d = true := by
  unfold reprOk
  rw [h.sh, decide_eq_true (Nat.le_trans h.sz hz), decide_eq_true (Nat.le_trans h.dp hn)]
  rfl
theorem RP.kd {k : Kd} : RP 0 1921 (.int k.i) := ⟨rep_kd, by simp [PyData.depth], by simp [szD]⟩
theorem mem3 {P : PyData → Prop} {a b c : PyData} (ha : P a) (hb : P b) (hc : P c) : ∀ x ∈ [a, b, c], P x := by
  intro x hx
  simp only [List.mem_cons, List.not_mem_nil, or_false] at hx
  rcases hx with rfl | rfl | rfl <;> assumption
theorem mem2 {P : PyData → Prop} {a b : PyData} (ha : P a) (hb : P b) : ∀ x ∈ [a, b], P x := by
  intro x hx
  simp only [List.mem_cons, List.not_mem_nil, or_false] at hx
  rcases hx with rfl | rfl <;> assumption
theorem RP.sym {s : Sym} (hx : s.x.natAbs < 2 ^ 64) (hy : s.y.natAbs < 2 ^ 64) : RP 1 6000 s.d := (RP.tup (mem3 RP.kd (RP.int hx) (RP.int hy))).mono (by decide) (by simp)
theorem RP.sq {x y : Int} (hx : x.natAbs < 2 ^ 64) (hy : y.natAbs < 2 ^ 64) : RP 1 6000 (SQ x y) := (RP.tup (mem2 (RP.int hx) (RP.int hy))).mono (by decide) (by simp)
end M
namespace M
open PySem PySem.Spec PyProof.Rows L2 G
local macro_rules
  | `(tactic| simp? [$ls,*]) => `(tactic| simp (maxSteps := 1000000) (disch := first | assumption | (simp (disch := decide +kernel) only [G.sl_nil, G.sl_cons, List.cons_append, List.nil_append, G.shN_str, G.shN_tup, G.shN_lst, G.shN_int, G.shN_bool, G.shN_none, G.shA_nil, G.shA_cons, G.b_ta, G.ky_i, G.ky_s]; done) | exact G.len_ok (by simp only [G.sl_nil, G.sl_cons]) | decide | decide +kernel | exact G.mulOk_l (by decide) | exact G.mulOk_r (by decide) | omega) only [G.rb_ok, G.rb_ex, G.rb_bad, G.rb_ite, G.lz, G.ls, G.sz, G.ss, G.r_seq, G.k_seq1, G.k_seq2, G.k_seq3, G.k_seq4, G.r_nx, G.r_bk, G.r_ct, G.r_retN, G.r_ret, G.k_ret, G.r_drop, G.k_drop, G.r_if, G.r_ife, G.k_if, G.r_asg, G.k_asg1, G.k_asg2, G.k_asg3, G.k_sl1, G.k_sl2, G.k_sh1, G.k_sh2, G.k_sh3, G.k_sh4, G.k_sh5, G.r_asgG, G.k_asgG, G.k_asgL, G.k_tg, G.r_nm, G.r_tup, G.r_tup1, G.r_tup3, G.r_tup4, G.r_nil, G.r_cons, G.r_V, G.k_V1, G.k_V2, G.k_V4, G.k_V3, G.r_C, G.p_val, G.p_fr, G.p_sl, G.pb_1, G.pb_2, G.pb_3, G.od_1, G.od_2, G.p_1, G.p_2, G.p_3, G.q_1, G.q_2, G.q_3, G.re_1, G.re_2, G.re_ite, G.st_1, G.st_2, G.st_3, G.r_op2, G.k_op2a, G.k_op2b, G.k_op2c, G.r_op1, G.k_op1, G.ob_some, G.r_said, G.k_said1, G.r_opN, G.k_opN, G.r_pk0, G.r_pk1, G.k_pk, G.r_anil, G.r_acons, G.k_acons, G.k_acons2, G.shs_v0, G.shs_v1, G.shs_v2, G.shs_v3, G.shs_v4, G.om_some, G.r_tupT, G.r_lstT, G.k_dt, G.k_dl, G.k_d1, G.k_d2, G.r_fB, G.k_fB, G.r_and, G.r_or, G.r_andV, G.r_orV, G.r_not, G.r_notV, G.k_not, G.k_notV, G.r_yes, G.r_ch, G.k_ch1, G.k_ch2, G.k_ch3, G.k_ch4, G.k_ch5, G.r_call, G.c1_nil, G.c1_t, G.c1_f, G.c1_s, G.c1_s1, G.c1_s2, G.k_ca, G.k_c1, G.k_c2, G.c2_nil, G.c2_v, G.c2_s, G.c2_s1, G.c2_s3, G.c2_s2, G.k_call, G.k_w1, G.k_w2, G.k_w3, G.k_wite, G.wb_nil, G.wb_none, G.wb_some, G.k_wb1, G.k_wb2, G.wbx_nil, G.wbx_none, G.ap_nil, G.ap_nil2, G.ap_cons, G.ma_nil, G.ma_cons, G.ds_nil, G.ds_none, G.ds_some, G.me_nil, G.me_none, G.me_some, G.ou_0, G.ou_s, G.ob_val, G.ob_own, G.ob_un, G.ob_exc, G.ob_prm, G.le_0, G.le_s, G.k_rf1, G.k_rf2, G.k_rf3, G.k_rf4, G.k_rs1, G.k_rs2, G.r_set, G.k_set1, G.k_set2, G.k_set3, G.k_set4, G.k_set5, G.k_set6, G.k_set7, G.k_set8, G.k_set9, G.r_mut, G.k_mu1, G.k_mu2, G.k_mu3, G.k_mu4, G.k_mu5, G.k_mu6, G.k_mu7, G.k_app, G.k_apps, G.r_par, G.k_par1, G.k_par2, G.k_par3, G.k_par4, G.k_par5, G.r_par3, G.k_p3a, G.k_p3b, G.r_parN, G.k_pn1, G.k_pn2, G.k_nx, G.ev_nil, G.ev_cons, G.k_ev1, G.k_ev2, G.rs_nil, G.rs_val, G.rs_fr, G.rs_sl, G.k_rsS1, G.k_rsS2, G.bn_nil, G.bn_val, G.bn_fr, G.r_rep, G.k_rp1, G.k_rp2, G.k_rp3, G.ixN_last, G.set_last, G.ix_last, G.r_for, G.k_for, G.fo_nil, G.fo_cons, G.k_fo0, G.k_fo1, G.k_fo2, G.k_fo3, G.k_fo4, G.r_turn, G.k_tu0, G.k_tu1, G.k_tu2, G.k_tu3, G.k_tu4, G.r_seqI, G.k_seqI, G.k_seqI1, G.k_seqI3, G.k_seqI5, G.k_seqI6, G.k_seqI4, G.k_seqI2, G.r_rng1, G.k_rng1, G.k_rng1b, G.r_rng2, G.k_rng2, G.k_rng2b, G.rgl_0, G.rgl_1, G.rgl_2, G.rgl_3, G.rgl_4, G.rgl_5, G.rgl_6, G.rgl_7, G.rgl_8, G.rgl_9, G.rgl_10, G.rgl_12, G.rgl_16, G.r1l_1, G.r1l_2, G.r1l_3, G.r1l_4, G.r1l_5, G.r1l_6, G.r1l_8, G.rpl_0, G.rpl_1, G.rpl_2, G.rpl_3, G.rpl_4, G.rpl_5, G.rpl_6, G.rpl_7, G.rpl_8, G.r_lc, G.k_lc, G.l_nil, G.l_cons, G.l_A, G.l_B, G.l_C, G.l_C2, G.l_C3, G.l_S1, G.l_S2, G.l_D, G.k_lc1, G.wi_nil, G.wi_cons, G.mulOk_l, G.mulOk_r, G.r_sl, G.k_sla, G.k_slb, G.k_slc, G.k_sld, G.pt_n, G.pt_s, G.k_pt, G.cu_t, G.cu_l, G.cu_1n, G.cu_2n, G.cu_n1, G.d_add, G.d_addT, G.d_addTs, G.d_addL, G.d_addLs, G.d_sub, G.d_mul, G.d_fdiv, G.d_mod, G.d_neg, G.d_cmp, G.d_ixT, G.d_ixL, G.at_0, G.at_1, G.at_2, G.at_3, G.d_lenL, G.d_lenT, G.d_tupL, G.d_tupT, G.d_all, G.k_all, G.d_any, G.k_any, G.bo_nil, G.bo_cons, G.al_nil, G.al_cons, G.al_map, G.an_nil, G.an_cons, G.an_map, G.id_b, G.bo_map, G.d_max, G.d_min, G.d_listL, G.d_listT, G.d_p18, G.d_p13, G.d_p12, G.d_is, G.d_abs, G.d_repr, G.d_eqS, G.d_neS, G.d_eqI, G.d_neI, G.d_isi, G.isy_int_none, G.isy_int_bool, G.isy_int_int, G.isy_int_str, G.isy_int_list, G.isy_int_tuple, G.isy_int_dict, G.isy_bool_none, G.isy_bool_bool, G.isy_bool_int, G.isy_bool_str, G.isy_bool_list, G.isy_bool_tuple, G.isy_bool_dict, G.isy_tuple_none, G.isy_tuple_bool, G.isy_tuple_int, G.isy_tuple_str, G.isy_tuple_list, G.isy_tuple_tuple, G.isy_tuple_dict, G.isy_list_none, G.isy_list_bool, G.isy_list_int, G.isy_list_str, G.isy_list_list, G.isy_list_tuple, G.isy_list_dict, G.isy_str_none, G.isy_str_bool, G.isy_str_int, G.isy_str_str, G.isy_str_list, G.isy_str_tuple, G.isy_str_dict, G.isy_dict_none, G.isy_dict_bool, G.isy_dict_int, G.isy_dict_str, G.isy_dict_list, G.isy_dict_tuple, G.isy_dict_dict, G.it_t, G.it_f, G.b_tt, G.b_ft, G.b_nt, G.b_nf, G.b_ta, G.b_fa, G.b_at, G.b_to, G.b_fo, G.lI_0, G.lI_1, G.lI_2, G.lI_3, G.lI_4, G.lI_5, G.lI_m, G.bs_f, G.es_f, G.bb_tt, G.bb_tf, G.bb_ft, G.bb_ff, G.bq_s, G.r_dic, G.k_dic1, G.k_dic2, G.k_dic3, G.k_dic4, G.k_kD1, G.k_kD2, G.k_fl0, G.k_fl1, G.k_pr0, G.k_pr1, G.k_pr2, G.r_dic0, G.d_ixDi, G.d_ixDs, G.d_inGT, G.d_inGL, G.d_ninGT, G.d_ninGL, G.d_inGi, G.d_ninGi, G.k_vals, G.k_items, G.d_setDi, G.dg_nil, G.dg_i, G.dg_s, G.mg_0, G.mg_s, G.dpk_n, G.ky_i, G.ky_s, G.d_eqX, G.d_neX, G.d_inT, G.d_inL, G.d_ninT, G.d_ninL, G.ev_ii, G.ev_bb, G.ev_ss, G.ev_nn, G.ev_tt, G.ev_ll, G.ev_0, G.ev_c, G.ev_c0, G.ev_0c, G.ev_none_bool, G.ev_none_int, G.ev_none_str, G.ev_none_list, G.ev_none_tuple, G.ev_bool_none, G.ev_bool_str, G.ev_bool_list, G.ev_bool_tuple, G.ev_int_none, G.ev_int_str, G.ev_int_list, G.ev_int_tuple, G.ev_str_none, G.ev_str_bool, G.ev_str_int, G.ev_str_list, G.ev_str_tuple, G.ev_list_none, G.ev_list_bool, G.ev_list_int, G.ev_list_str, G.ev_list_tuple, G.ev_tuple_none, G.ev_tuple_bool, G.ev_tuple_int, G.ev_tuple_str, G.ev_tuple_list, G.dec_t, G.not_dec, G.k_popA, G.k_popZ, G.k_pop1, G.r_ext, G.k_ext1, G.k_ext2, G.k_ext3, G.k_ext4, G.r_items, G.k_itemsJ, G.d_listD, G.d_intI, G.d_intB, G.d_strI, G.r_subG, G.k_sub1, G.k_sub2, G.k_sub3, G.k_sub4, G.k_sub5, G.k_sub6, G.k_sub7, G.r_tupL1, G.r_tupL2, G.r_tupL3, G.r_tupL4, G.d_isB, G.d_isnB, G.d_isnN, G.d_revL, G.d_revT, G.r_permA, G.k_perm1, G.k_perm2, G.k_perm3a, G.k_perm3b, G.k_perm3c, G.k_perm3d, G.k_perm3e, Int.reduceEq, Int.reduceLE, Int.reduceLT, Int.reduceAdd, Int.reduceSub, Int.reduceMul, Int.reduceNeg, Nat.reduceAdd, List.nil_append, not_true_eq_false, not_false_eq_true, and_true, true_and, and_false, false_and, or_true, true_or, or_false, false_or, decide_true, decide_false, eq_self, Bool.and_true, Bool.and_false, $ls,*])
  | `(tactic| simp? [$ls,*] at $h:ident) => `(tactic| simp (maxSteps := 1000000) (disch := first | assumption | (simp (disch := decide +kernel) only [G.sl_nil, G.sl_cons, List.cons_append, List.nil_append, G.shN_str, G.shN_tup, G.shN_lst, G.shN_int, G.shN_bool, G.shN_none, G.shA_nil, G.shA_cons, G.b_ta, G.ky_i, G.ky_s]; done) | exact G.len_ok (by simp only [G.sl_nil, G.sl_cons]) | decide | decide +kernel | exact G.mulOk_l (by decide) | exact G.mulOk_r (by decide) | omega) only [G.rb_ok, G.rb_ex, G.rb_bad, G.rb_ite, G.lz, G.ls, G.sz, G.ss, G.r_seq, G.k_seq1, G.k_seq2, G.k_seq3, G.k_seq4, G.r_nx, G.r_bk, G.r_ct, G.r_retN, G.r_ret, G.k_ret, G.r_drop, G.k_drop, G.r_if, G.r_ife, G.k_if, G.r_asg, G.k_asg1, G.k_asg2, G.k_asg3, G.k_sl1, G.k_sl2, G.k_sh1, G.k_sh2, G.k_sh3, G.k_sh4, G.k_sh5, G.r_asgG, G.k_asgG, G.k_asgL, G.k_tg, G.r_nm, G.r_tup, G.r_tup1, G.r_tup3, G.r_tup4, G.r_nil, G.r_cons, G.r_V, G.k_V1, G.k_V2, G.k_V4, G.k_V3, G.r_C, G.p_val, G.p_fr, G.p_sl, G.pb_1, G.pb_2, G.pb_3, G.od_1, G.od_2, G.p_1, G.p_2, G.p_3, G.q_1, G.q_2, G.q_3, G.re_1, G.re_2, G.re_ite, G.st_1, G.st_2, G.st_3, G.r_op2, G.k_op2a, G.k_op2b, G.k_op2c, G.r_op1, G.k_op1, G.ob_some, G.r_said, G.k_said1, G.r_opN, G.k_opN, G.r_pk0, G.r_pk1, G.k_pk, G.r_anil, G.r_acons, G.k_acons, G.k_acons2, G.shs_v0, G.shs_v1, G.shs_v2, G.shs_v3, G.shs_v4, G.om_some, G.r_tupT, G.r_lstT, G.k_dt, G.k_dl, G.k_d1, G.k_d2, G.r_fB, G.k_fB, G.r_and, G.r_or, G.r_andV, G.r_orV, G.r_not, G.r_notV, G.k_not, G.k_notV, G.r_yes, G.r_ch, G.k_ch1, G.k_ch2, G.k_ch3, G.k_ch4, G.k_ch5, G.r_call, G.c1_nil, G.c1_t, G.c1_f, G.c1_s, G.c1_s1, G.c1_s2, G.k_ca, G.k_c1, G.k_c2, G.c2_nil, G.c2_v, G.c2_s, G.c2_s1, G.c2_s3, G.c2_s2, G.k_call, G.k_w1, G.k_w2, G.k_w3, G.k_wite, G.wb_nil, G.wb_none, G.wb_some, G.k_wb1, G.k_wb2, G.wbx_nil, G.wbx_none, G.ap_nil, G.ap_nil2, G.ap_cons, G.ma_nil, G.ma_cons, G.ds_nil, G.ds_none, G.ds_some, G.me_nil, G.me_none, G.me_some, G.ou_0, G.ou_s, G.ob_val, G.ob_own, G.ob_un, G.ob_exc, G.ob_prm, G.le_0, G.le_s, G.k_rf1, G.k_rf2, G.k_rf3, G.k_rf4, G.k_rs1, G.k_rs2, G.r_set, G.k_set1, G.k_set2, G.k_set3, G.k_set4, G.k_set5, G.k_set6, G.k_set7, G.k_set8, G.k_set9, G.r_mut, G.k_mu1, G.k_mu2, G.k_mu3, G.k_mu4, G.k_mu5, G.k_mu6, G.k_mu7, G.k_app, G.k_apps, G.r_par, G.k_par1, G.k_par2, G.k_par3, G.k_par4, G.k_par5, G.r_par3, G.k_p3a, G.k_p3b, G.r_parN, G.k_pn1, G.k_pn2, G.k_nx, G.ev_nil, G.ev_cons, G.k_ev1, G.k_ev2, G.rs_nil, G.rs_val, G.rs_fr, G.rs_sl, G.k_rsS1, G.k_rsS2, G.bn_nil, G.bn_val, G.bn_fr, G.r_rep, G.k_rp1, G.k_rp2, G.k_rp3, G.ixN_last, G.set_last, G.ix_last, G.r_for, G.k_for, G.fo_nil, G.fo_cons, G.k_fo0, G.k_fo1, G.k_fo2, G.k_fo3, G.k_fo4, G.r_turn, G.k_tu0, G.k_tu1, G.k_tu2, G.k_tu3, G.k_tu4, G.r_seqI, G.k_seqI, G.k_seqI1, G.k_seqI3, G.k_seqI5, G.k_seqI6, G.k_seqI4, G.k_seqI2, G.r_rng1, G.k_rng1, G.k_rng1b, G.r_rng2, G.k_rng2, G.k_rng2b, G.rgl_0, G.rgl_1, G.rgl_2, G.rgl_3, G.rgl_4, G.rgl_5, G.rgl_6, G.rgl_7, G.rgl_8, G.rgl_9, G.rgl_10, G.rgl_12, G.rgl_16, G.r1l_1, G.r1l_2, G.r1l_3, G.r1l_4, G.r1l_5, G.r1l_6, G.r1l_8, G.rpl_0, G.rpl_1, G.rpl_2, G.rpl_3, G.rpl_4, G.rpl_5, G.rpl_6, G.rpl_7, G.rpl_8, G.r_lc, G.k_lc, G.l_nil, G.l_cons, G.l_A, G.l_B, G.l_C, G.l_C2, G.l_C3, G.l_S1, G.l_S2, G.l_D, G.k_lc1, G.wi_nil, G.wi_cons, G.mulOk_l, G.mulOk_r, G.r_sl, G.k_sla, G.k_slb, G.k_slc, G.k_sld, G.pt_n, G.pt_s, G.k_pt, G.cu_t, G.cu_l, G.cu_1n, G.cu_2n, G.cu_n1, G.d_add, G.d_addT, G.d_addTs, G.d_addL, G.d_addLs, G.d_sub, G.d_mul, G.d_fdiv, G.d_mod, G.d_neg, G.d_cmp, G.d_ixT, G.d_ixL, G.at_0, G.at_1, G.at_2, G.at_3, G.d_lenL, G.d_lenT, G.d_tupL, G.d_tupT, G.d_all, G.k_all, G.d_any, G.k_any, G.bo_nil, G.bo_cons, G.al_nil, G.al_cons, G.al_map, G.an_nil, G.an_cons, G.an_map, G.id_b, G.bo_map, G.d_max, G.d_min, G.d_listL, G.d_listT, G.d_p18, G.d_p13, G.d_p12, G.d_is, G.d_abs, G.d_repr, G.d_eqS, G.d_neS, G.d_eqI, G.d_neI, G.d_isi, G.isy_int_none, G.isy_int_bool, G.isy_int_int, G.isy_int_str, G.isy_int_list, G.isy_int_tuple, G.isy_int_dict, G.isy_bool_none, G.isy_bool_bool, G.isy_bool_int, G.isy_bool_str, G.isy_bool_list, G.isy_bool_tuple, G.isy_bool_dict, G.isy_tuple_none, G.isy_tuple_bool, G.isy_tuple_int, G.isy_tuple_str, G.isy_tuple_list, G.isy_tuple_tuple, G.isy_tuple_dict, G.isy_list_none, G.isy_list_bool, G.isy_list_int, G.isy_list_str, G.isy_list_list, G.isy_list_tuple, G.isy_list_dict, G.isy_str_none, G.isy_str_bool, G.isy_str_int, G.isy_str_str, G.isy_str_list, G.isy_str_tuple, G.isy_str_dict, G.isy_dict_none, G.isy_dict_bool, G.isy_dict_int, G.isy_dict_str, G.isy_dict_list, G.isy_dict_tuple, G.isy_dict_dict, G.it_t, G.it_f, G.b_tt, G.b_ft, G.b_nt, G.b_nf, G.b_ta, G.b_fa, G.b_at, G.b_to, G.b_fo, G.lI_0, G.lI_1, G.lI_2, G.lI_3, G.lI_4, G.lI_5, G.lI_m, G.bs_f, G.es_f, G.bb_tt, G.bb_tf, G.bb_ft, G.bb_ff, G.bq_s, G.r_dic, G.k_dic1, G.k_dic2, G.k_dic3, G.k_dic4, G.k_kD1, G.k_kD2, G.k_fl0, G.k_fl1, G.k_pr0, G.k_pr1, G.k_pr2, G.r_dic0, G.d_ixDi, G.d_ixDs, G.d_inGT, G.d_inGL, G.d_ninGT, G.d_ninGL, G.d_inGi, G.d_ninGi, G.k_vals, G.k_items, G.d_setDi, G.dg_nil, G.dg_i, G.dg_s, G.mg_0, G.mg_s, G.dpk_n, G.ky_i, G.ky_s, G.d_eqX, G.d_neX, G.d_inT, G.d_inL, G.d_ninT, G.d_ninL, G.ev_ii, G.ev_bb, G.ev_ss, G.ev_nn, G.ev_tt, G.ev_ll, G.ev_0, G.ev_c, G.ev_c0, G.ev_0c, G.ev_none_bool, G.ev_none_int, G.ev_none_str, G.ev_none_list, G.ev_none_tuple, G.ev_bool_none, G.ev_bool_str, G.ev_bool_list, G.ev_bool_tuple, G.ev_int_none, G.ev_int_str, G.ev_int_list, G.ev_int_tuple, G.ev_str_none, G.ev_str_bool, G.ev_str_int, G.ev_str_list, G.ev_str_tuple, G.ev_list_none, G.ev_list_bool, G.ev_list_int, G.ev_list_str, G.ev_list_tuple, G.ev_tuple_none, G.ev_tuple_bool, G.ev_tuple_int, G.ev_tuple_str, G.ev_tuple_list, G.dec_t, G.not_dec, G.k_popA, G.k_popZ, G.k_pop1, G.r_ext, G.k_ext1, G.k_ext2, G.k_ext3, G.k_ext4, G.r_items, G.k_itemsJ, G.d_listD, G.d_intI, G.d_intB, G.d_strI, G.r_subG, G.k_sub1, G.k_sub2, G.k_sub3, G.k_sub4, G.k_sub5, G.k_sub6, G.k_sub7, G.r_tupL1, G.r_tupL2, G.r_tupL3, G.r_tupL4, G.d_isB, G.d_isnB, G.d_isnN, G.d_revL, G.d_revT, G.r_permA, G.k_perm1, G.k_perm2, G.k_perm3a, G.k_perm3b, G.k_perm3c, G.k_perm3d, G.k_perm3e, Int.reduceEq, Int.reduceLE, Int.reduceLT, Int.reduceAdd, Int.reduceSub, Int.reduceMul, Int.reduceNeg, Nat.reduceAdd, List.nil_append, not_true_eq_false, not_false_eq_true, and_true, true_and, and_false, false_and, or_true, true_or, or_false, false_or, decide_true, decide_false, eq_self, Bool.and_true, Bool.and_false, $ls,*] at $h:ident)
/-! ### powers -/
/-! ### bounds -/
/-! ### the laws' own powers -/
end M
namespace M
open PySem PySem.Spec PyProof.Rows L2 G
local macro_rules
  | `(tactic| simp? [$ls,*]) => `(tactic| simp (maxSteps := 1000000) (disch := first | assumption | (simp (disch := decide +kernel) only [G.sl_nil, G.sl_cons, List.cons_append, List.nil_append, G.shN_str, G.shN_tup, G.shN_lst, G.shN_int, G.shN_bool, G.shN_none, G.shA_nil, G.shA_cons, G.b_ta, G.ky_i, G.ky_s]; done) | exact G.len_ok (by simp only [G.sl_nil, G.sl_cons]) | decide | decide +kernel | exact G.mulOk_l (by decide) | exact G.mulOk_r (by decide) | omega) only [G.rb_ok, G.rb_ex, G.rb_bad, G.rb_ite, G.lz, G.ls, G.sz, G.ss, G.r_seq, G.k_seq1, G.k_seq2, G.k_seq3, G.k_seq4, G.r_nx, G.r_bk, G.r_ct, G.r_retN, G.r_ret, G.k_ret, G.r_drop, G.k_drop, G.r_if, G.r_ife, G.k_if, G.r_asg, G.k_asg1, G.k_asg2, G.k_asg3, G.k_sl1, G.k_sl2, G.k_sh1, G.k_sh2, G.k_sh3, G.k_sh4, G.k_sh5, G.r_asgG, G.k_asgG, G.k_asgL, G.k_tg, G.r_nm, G.r_tup, G.r_tup1, G.r_tup3, G.r_tup4, G.r_nil, G.r_cons, G.r_V, G.k_V1, G.k_V2, G.k_V4, G.k_V3, G.r_C, G.p_val, G.p_fr, G.p_sl, G.pb_1, G.pb_2, G.pb_3, G.od_1, G.od_2, G.p_1, G.p_2, G.p_3, G.q_1, G.q_2, G.q_3, G.re_1, G.re_2, G.re_ite, G.st_1, G.st_2, G.st_3, G.r_op2, G.k_op2a, G.k_op2b, G.k_op2c, G.r_op1, G.k_op1, G.ob_some, G.r_said, G.k_said1, G.r_opN, G.k_opN, G.r_pk0, G.r_pk1, G.k_pk, G.r_anil, G.r_acons, G.k_acons, G.k_acons2, G.shs_v0, G.shs_v1, G.shs_v2, G.shs_v3, G.shs_v4, G.om_some, G.r_tupT, G.r_lstT, G.k_dt, G.k_dl, G.k_d1, G.k_d2, G.r_fB, G.k_fB, G.r_and, G.r_or, G.r_andV, G.r_orV, G.r_not, G.r_notV, G.k_not, G.k_notV, G.r_yes, G.r_ch, G.k_ch1, G.k_ch2, G.k_ch3, G.k_ch4, G.k_ch5, G.r_call, G.c1_nil, G.c1_t, G.c1_f, G.c1_s, G.c1_s1, G.c1_s2, G.k_ca, G.k_c1, G.k_c2, G.c2_nil, G.c2_v, G.c2_s, G.c2_s1, G.c2_s3, G.c2_s2, G.k_call, G.k_w1, G.k_w2, G.k_w3, G.k_wite, G.wb_nil, G.wb_none, G.wb_some, G.k_wb1, G.k_wb2, G.wbx_nil, G.wbx_none, G.ap_nil, G.ap_nil2, G.ap_cons, G.ma_nil, G.ma_cons, G.ds_nil, G.ds_none, G.ds_some, G.me_nil, G.me_none, G.me_some, G.ou_0, G.ou_s, G.ob_val, G.ob_own, G.ob_un, G.ob_exc, G.ob_prm, G.le_0, G.le_s, G.k_rf1, G.k_rf2, G.k_rf3, G.k_rf4, G.k_rs1, G.k_rs2, G.r_set, G.k_set1, G.k_set2, G.k_set3, G.k_set4, G.k_set5, G.k_set6, G.k_set7, G.k_set8, G.k_set9, G.r_mut, G.k_mu1, G.k_mu2, G.k_mu3, G.k_mu4, G.k_mu5, G.k_mu6, G.k_mu7, G.k_app, G.k_apps, G.r_par, G.k_par1, G.k_par2, G.k_par3, G.k_par4, G.k_par5, G.r_par3, G.k_p3a, G.k_p3b, G.r_parN, G.k_pn1, G.k_pn2, G.k_nx, G.ev_nil, G.ev_cons, G.k_ev1, G.k_ev2, G.rs_nil, G.rs_val, G.rs_fr, G.rs_sl, G.k_rsS1, G.k_rsS2, G.bn_nil, G.bn_val, G.bn_fr, G.r_rep, G.k_rp1, G.k_rp2, G.k_rp3, G.ixN_last, G.set_last, G.ix_last, G.r_for, G.k_for, G.fo_nil, G.fo_cons, G.k_fo0, G.k_fo1, G.k_fo2, G.k_fo3, G.k_fo4, G.r_turn, G.k_tu0, G.k_tu1, G.k_tu2, G.k_tu3, G.k_tu4, G.r_seqI, G.k_seqI, G.k_seqI1, G.k_seqI3, G.k_seqI5, G.k_seqI6, G.k_seqI4, G.k_seqI2, G.r_rng1, G.k_rng1, G.k_rng1b, G.r_rng2, G.k_rng2, G.k_rng2b, G.rgl_0, G.rgl_1, G.rgl_2, G.rgl_3, G.rgl_4, G.rgl_5, G.rgl_6, G.rgl_7, G.rgl_8, G.rgl_9, G.rgl_10, G.rgl_12, G.rgl_16, G.r1l_1, G.r1l_2, G.r1l_3, G.r1l_4, G.r1l_5, G.r1l_6, G.r1l_8, G.rpl_0, G.rpl_1, G.rpl_2, G.rpl_3, G.rpl_4, G.rpl_5, G.rpl_6, G.rpl_7, G.rpl_8, G.r_lc, G.k_lc, G.l_nil, G.l_cons, G.l_A, G.l_B, G.l_C, G.l_C2, G.l_C3, G.l_S1, G.l_S2, G.l_D, G.k_lc1, G.wi_nil, G.wi_cons, G.mulOk_l, G.mulOk_r, G.r_sl, G.k_sla, G.k_slb, G.k_slc, G.k_sld, G.pt_n, G.pt_s, G.k_pt, G.cu_t, G.cu_l, G.cu_1n, G.cu_2n, G.cu_n1, G.d_add, G.d_addT, G.d_addTs, G.d_addL, G.d_addLs, G.d_sub, G.d_mul, G.d_fdiv, G.d_mod, G.d_neg, G.d_cmp, G.d_ixT, G.d_ixL, G.at_0, G.at_1, G.at_2, G.at_3, G.d_lenL, G.d_lenT, G.d_tupL, G.d_tupT, G.d_all, G.k_all, G.d_any, G.k_any, G.bo_nil, G.bo_cons, G.al_nil, G.al_cons, G.al_map, G.an_nil, G.an_cons, G.an_map, G.id_b, G.bo_map, G.d_max, G.d_min, G.d_listL, G.d_listT, G.d_p18, G.d_p13, G.d_p12, G.d_is, G.d_abs, G.d_repr, G.d_eqS, G.d_neS, G.d_eqI, G.d_neI, G.d_isi, G.isy_int_none, G.isy_int_bool, G.isy_int_int, G.isy_int_str, G.isy_int_list, G.isy_int_tuple, G.isy_int_dict, G.isy_bool_none, G.isy_bool_bool, G.isy_bool_int, G.isy_bool_str, G.isy_bool_list, G.isy_bool_tuple, G.isy_bool_dict, G.isy_tuple_none, G.isy_tuple_bool, G.isy_tuple_int, G.isy_tuple_str, G.isy_tuple_list, G.isy_tuple_tuple, G.isy_tuple_dict, G.isy_list_none, G.isy_list_bool, G.isy_list_int, G.isy_list_str, G.isy_list_list, G.isy_list_tuple, G.isy_list_dict, G.isy_str_none, G.isy_str_bool, G.isy_str_int, G.isy_str_str, G.isy_str_list, G.isy_str_tuple, G.isy_str_dict, G.isy_dict_none, G.isy_dict_bool, G.isy_dict_int, G.isy_dict_str, G.isy_dict_list, G.isy_dict_tuple, G.isy_dict_dict, G.it_t, G.it_f, G.b_tt, G.b_ft, G.b_nt, G.b_nf, G.b_ta, G.b_fa, G.b_at, G.b_to, G.b_fo, G.lI_0, G.lI_1, G.lI_2, G.lI_3, G.lI_4, G.lI_5, G.lI_m, G.bs_f, G.es_f, G.bb_tt, G.bb_tf, G.bb_ft, G.bb_ff, G.bq_s, G.r_dic, G.k_dic1, G.k_dic2, G.k_dic3, G.k_dic4, G.k_kD1, G.k_kD2, G.k_fl0, G.k_fl1, G.k_pr0, G.k_pr1, G.k_pr2, G.r_dic0, G.d_ixDi, G.d_ixDs, G.d_inGT, G.d_inGL, G.d_ninGT, G.d_ninGL, G.d_inGi, G.d_ninGi, G.k_vals, G.k_items, G.d_setDi, G.dg_nil, G.dg_i, G.dg_s, G.mg_0, G.mg_s, G.dpk_n, G.ky_i, G.ky_s, G.d_eqX, G.d_neX, G.d_inT, G.d_inL, G.d_ninT, G.d_ninL, G.ev_ii, G.ev_bb, G.ev_ss, G.ev_nn, G.ev_tt, G.ev_ll, G.ev_0, G.ev_c, G.ev_c0, G.ev_0c, G.ev_none_bool, G.ev_none_int, G.ev_none_str, G.ev_none_list, G.ev_none_tuple, G.ev_bool_none, G.ev_bool_str, G.ev_bool_list, G.ev_bool_tuple, G.ev_int_none, G.ev_int_str, G.ev_int_list, G.ev_int_tuple, G.ev_str_none, G.ev_str_bool, G.ev_str_int, G.ev_str_list, G.ev_str_tuple, G.ev_list_none, G.ev_list_bool, G.ev_list_int, G.ev_list_str, G.ev_list_tuple, G.ev_tuple_none, G.ev_tuple_bool, G.ev_tuple_int, G.ev_tuple_str, G.ev_tuple_list, G.dec_t, G.not_dec, G.k_popA, G.k_popZ, G.k_pop1, G.r_ext, G.k_ext1, G.k_ext2, G.k_ext3, G.k_ext4, G.r_items, G.k_itemsJ, G.d_listD, G.d_intI, G.d_intB, G.d_strI, G.r_subG, G.k_sub1, G.k_sub2, G.k_sub3, G.k_sub4, G.k_sub5, G.k_sub6, G.k_sub7, G.r_tupL1, G.r_tupL2, G.r_tupL3, G.r_tupL4, G.d_isB, G.d_isnB, G.d_isnN, G.d_revL, G.d_revT, G.r_permA, G.k_perm1, G.k_perm2, G.k_perm3a, G.k_perm3b, G.k_perm3c, G.k_perm3d, G.k_perm3e, Int.reduceEq, Int.reduceLE, Int.reduceLT, Int.reduceAdd, Int.reduceSub, Int.reduceMul, Int.reduceNeg, Nat.reduceAdd, List.nil_append, not_true_eq_false, not_false_eq_true, and_true, true_and, and_false, false_and, or_true, true_or, or_false, false_or, decide_true, decide_false, eq_self, Bool.and_true, Bool.and_false, $ls,*])
  | `(tactic| simp? [$ls,*] at $h:ident) => `(tactic| simp (maxSteps := 1000000) (disch := first | assumption | (simp (disch := decide +kernel) only [G.sl_nil, G.sl_cons, List.cons_append, List.nil_append, G.shN_str, G.shN_tup, G.shN_lst, G.shN_int, G.shN_bool, G.shN_none, G.shA_nil, G.shA_cons, G.b_ta, G.ky_i, G.ky_s]; done) | exact G.len_ok (by simp only [G.sl_nil, G.sl_cons]) | decide | decide +kernel | exact G.mulOk_l (by decide) | exact G.mulOk_r (by decide) | omega) only [G.rb_ok, G.rb_ex, G.rb_bad, G.rb_ite, G.lz, G.ls, G.sz, G.ss, G.r_seq, G.k_seq1, G.k_seq2, G.k_seq3, G.k_seq4, G.r_nx, G.r_bk, G.r_ct, G.r_retN, G.r_ret, G.k_ret, G.r_drop, G.k_drop, G.r_if, G.r_ife, G.k_if, G.r_asg, G.k_asg1, G.k_asg2, G.k_asg3, G.k_sl1, G.k_sl2, G.k_sh1, G.k_sh2, G.k_sh3, G.k_sh4, G.k_sh5, G.r_asgG, G.k_asgG, G.k_asgL, G.k_tg, G.r_nm, G.r_tup, G.r_tup1, G.r_tup3, G.r_tup4, G.r_nil, G.r_cons, G.r_V, G.k_V1, G.k_V2, G.k_V4, G.k_V3, G.r_C, G.p_val, G.p_fr, G.p_sl, G.pb_1, G.pb_2, G.pb_3, G.od_1, G.od_2, G.p_1, G.p_2, G.p_3, G.q_1, G.q_2, G.q_3, G.re_1, G.re_2, G.re_ite, G.st_1, G.st_2, G.st_3, G.r_op2, G.k_op2a, G.k_op2b, G.k_op2c, G.r_op1, G.k_op1, G.ob_some, G.r_said, G.k_said1, G.r_opN, G.k_opN, G.r_pk0, G.r_pk1, G.k_pk, G.r_anil, G.r_acons, G.k_acons, G.k_acons2, G.shs_v0, G.shs_v1, G.shs_v2, G.shs_v3, G.shs_v4, G.om_some, G.r_tupT, G.r_lstT, G.k_dt, G.k_dl, G.k_d1, G.k_d2, G.r_fB, G.k_fB, G.r_and, G.r_or, G.r_andV, G.r_orV, G.r_not, G.r_notV, G.k_not, G.k_notV, G.r_yes, G.r_ch, G.k_ch1, G.k_ch2, G.k_ch3, G.k_ch4, G.k_ch5, G.r_call, G.c1_nil, G.c1_t, G.c1_f, G.c1_s, G.c1_s1, G.c1_s2, G.k_ca, G.k_c1, G.k_c2, G.c2_nil, G.c2_v, G.c2_s, G.c2_s1, G.c2_s3, G.c2_s2, G.k_call, G.k_w1, G.k_w2, G.k_w3, G.k_wite, G.wb_nil, G.wb_none, G.wb_some, G.k_wb1, G.k_wb2, G.wbx_nil, G.wbx_none, G.ap_nil, G.ap_nil2, G.ap_cons, G.ma_nil, G.ma_cons, G.ds_nil, G.ds_none, G.ds_some, G.me_nil, G.me_none, G.me_some, G.ou_0, G.ou_s, G.ob_val, G.ob_own, G.ob_un, G.ob_exc, G.ob_prm, G.le_0, G.le_s, G.k_rf1, G.k_rf2, G.k_rf3, G.k_rf4, G.k_rs1, G.k_rs2, G.r_set, G.k_set1, G.k_set2, G.k_set3, G.k_set4, G.k_set5, G.k_set6, G.k_set7, G.k_set8, G.k_set9, G.r_mut, G.k_mu1, G.k_mu2, G.k_mu3, G.k_mu4, G.k_mu5, G.k_mu6, G.k_mu7, G.k_app, G.k_apps, G.r_par, G.k_par1, G.k_par2, G.k_par3, G.k_par4, G.k_par5, G.r_par3, G.k_p3a, G.k_p3b, G.r_parN, G.k_pn1, G.k_pn2, G.k_nx, G.ev_nil, G.ev_cons, G.k_ev1, G.k_ev2, G.rs_nil, G.rs_val, G.rs_fr, G.rs_sl, G.k_rsS1, G.k_rsS2, G.bn_nil, G.bn_val, G.bn_fr, G.r_rep, G.k_rp1, G.k_rp2, G.k_rp3, G.ixN_last, G.set_last, G.ix_last, G.r_for, G.k_for, G.fo_nil, G.fo_cons, G.k_fo0, G.k_fo1, G.k_fo2, G.k_fo3, G.k_fo4, G.r_turn, G.k_tu0, G.k_tu1, G.k_tu2, G.k_tu3, G.k_tu4, G.r_seqI, G.k_seqI, G.k_seqI1, G.k_seqI3, G.k_seqI5, G.k_seqI6, G.k_seqI4, G.k_seqI2, G.r_rng1, G.k_rng1, G.k_rng1b, G.r_rng2, G.k_rng2, G.k_rng2b, G.rgl_0, G.rgl_1, G.rgl_2, G.rgl_3, G.rgl_4, G.rgl_5, G.rgl_6, G.rgl_7, G.rgl_8, G.rgl_9, G.rgl_10, G.rgl_12, G.rgl_16, G.r1l_1, G.r1l_2, G.r1l_3, G.r1l_4, G.r1l_5, G.r1l_6, G.r1l_8, G.rpl_0, G.rpl_1, G.rpl_2, G.rpl_3, G.rpl_4, G.rpl_5, G.rpl_6, G.rpl_7, G.rpl_8, G.r_lc, G.k_lc, G.l_nil, G.l_cons, G.l_A, G.l_B, G.l_C, G.l_C2, G.l_C3, G.l_S1, G.l_S2, G.l_D, G.k_lc1, G.wi_nil, G.wi_cons, G.mulOk_l, G.mulOk_r, G.r_sl, G.k_sla, G.k_slb, G.k_slc, G.k_sld, G.pt_n, G.pt_s, G.k_pt, G.cu_t, G.cu_l, G.cu_1n, G.cu_2n, G.cu_n1, G.d_add, G.d_addT, G.d_addTs, G.d_addL, G.d_addLs, G.d_sub, G.d_mul, G.d_fdiv, G.d_mod, G.d_neg, G.d_cmp, G.d_ixT, G.d_ixL, G.at_0, G.at_1, G.at_2, G.at_3, G.d_lenL, G.d_lenT, G.d_tupL, G.d_tupT, G.d_all, G.k_all, G.d_any, G.k_any, G.bo_nil, G.bo_cons, G.al_nil, G.al_cons, G.al_map, G.an_nil, G.an_cons, G.an_map, G.id_b, G.bo_map, G.d_max, G.d_min, G.d_listL, G.d_listT, G.d_p18, G.d_p13, G.d_p12, G.d_is, G.d_abs, G.d_repr, G.d_eqS, G.d_neS, G.d_eqI, G.d_neI, G.d_isi, G.isy_int_none, G.isy_int_bool, G.isy_int_int, G.isy_int_str, G.isy_int_list, G.isy_int_tuple, G.isy_int_dict, G.isy_bool_none, G.isy_bool_bool, G.isy_bool_int, G.isy_bool_str, G.isy_bool_list, G.isy_bool_tuple, G.isy_bool_dict, G.isy_tuple_none, G.isy_tuple_bool, G.isy_tuple_int, G.isy_tuple_str, G.isy_tuple_list, G.isy_tuple_tuple, G.isy_tuple_dict, G.isy_list_none, G.isy_list_bool, G.isy_list_int, G.isy_list_str, G.isy_list_list, G.isy_list_tuple, G.isy_list_dict, G.isy_str_none, G.isy_str_bool, G.isy_str_int, G.isy_str_str, G.isy_str_list, G.isy_str_tuple, G.isy_str_dict, G.isy_dict_none, G.isy_dict_bool, G.isy_dict_int, G.isy_dict_str, G.isy_dict_list, G.isy_dict_tuple, G.isy_dict_dict, G.it_t, G.it_f, G.b_tt, G.b_ft, G.b_nt, G.b_nf, G.b_ta, G.b_fa, G.b_at, G.b_to, G.b_fo, G.lI_0, G.lI_1, G.lI_2, G.lI_3, G.lI_4, G.lI_5, G.lI_m, G.bs_f, G.es_f, G.bb_tt, G.bb_tf, G.bb_ft, G.bb_ff, G.bq_s, G.r_dic, G.k_dic1, G.k_dic2, G.k_dic3, G.k_dic4, G.k_kD1, G.k_kD2, G.k_fl0, G.k_fl1, G.k_pr0, G.k_pr1, G.k_pr2, G.r_dic0, G.d_ixDi, G.d_ixDs, G.d_inGT, G.d_inGL, G.d_ninGT, G.d_ninGL, G.d_inGi, G.d_ninGi, G.k_vals, G.k_items, G.d_setDi, G.dg_nil, G.dg_i, G.dg_s, G.mg_0, G.mg_s, G.dpk_n, G.ky_i, G.ky_s, G.d_eqX, G.d_neX, G.d_inT, G.d_inL, G.d_ninT, G.d_ninL, G.ev_ii, G.ev_bb, G.ev_ss, G.ev_nn, G.ev_tt, G.ev_ll, G.ev_0, G.ev_c, G.ev_c0, G.ev_0c, G.ev_none_bool, G.ev_none_int, G.ev_none_str, G.ev_none_list, G.ev_none_tuple, G.ev_bool_none, G.ev_bool_str, G.ev_bool_list, G.ev_bool_tuple, G.ev_int_none, G.ev_int_str, G.ev_int_list, G.ev_int_tuple, G.ev_str_none, G.ev_str_bool, G.ev_str_int, G.ev_str_list, G.ev_str_tuple, G.ev_list_none, G.ev_list_bool, G.ev_list_int, G.ev_list_str, G.ev_list_tuple, G.ev_tuple_none, G.ev_tuple_bool, G.ev_tuple_int, G.ev_tuple_str, G.ev_tuple_list, G.dec_t, G.not_dec, G.k_popA, G.k_popZ, G.k_pop1, G.r_ext, G.k_ext1, G.k_ext2, G.k_ext3, G.k_ext4, G.r_items, G.k_itemsJ, G.d_listD, G.d_intI, G.d_intB, G.d_strI, G.r_subG, G.k_sub1, G.k_sub2, G.k_sub3, G.k_sub4, G.k_sub5, G.k_sub6, G.k_sub7, G.r_tupL1, G.r_tupL2, G.r_tupL3, G.r_tupL4, G.d_isB, G.d_isnB, G.d_isnN, G.d_revL, G.d_revT, G.r_permA, G.k_perm1, G.k_perm2, G.k_perm3a, G.k_perm3b, G.k_perm3c, G.k_perm3d, G.k_perm3e, Int.reduceEq, Int.reduceLE, Int.reduceLT, Int.reduceAdd, Int.reduceSub, Int.reduceMul, Int.reduceNeg, Nat.reduceAdd, List.nil_append, not_true_eq_false, not_false_eq_true, and_true, true_and, and_false, false_and, or_true, true_or, or_false, false_or, decide_true, decide_false, eq_self, Bool.and_true, Bool.and_false, $ls,*] at $h:ident)
/-! ### features -/
def Sym.axis (s : Sym) : PyData := match s.k with
  | .k4 => SQ0 "vertical" s.x
  | .k5 => SQ0 "falling" (s.x + s.y)
  | .k6 => SQ0 "horizontal" s.y
  | _ => SQ0 "rising" (s.y - s.x)
where SQ0 (n : Str) (z : Int) : PyData := .tuple [.str n, .int z]
def Sym.way (s : Sym) : Int × Int := match s.k with
  | .k4 => (0, 2 * s.y)
  | .k5 => (s.x - s.y, s.y - s.x)
  | .k6 => (2 * s.x, 0)
  | _ => (s.x + s.y, s.x + s.y)
def Sym.centre (s : Sym) : Int × Int := match s.k with
  | .k2 => (s.x, s.y)
  | .k1 => (s.x - s.y, s.x + s.y)
  | _ => (s.x + s.y, s.y - s.x)
def Sym.cls (s : Sym) : PyData := match s.k with
  | .k0 => if s.x = 0 ∧ s.y = 0 then .tuple [.str "identity"] else .tuple [.str "shift", SQ s.x s.y]
  | .k2 => .tuple [.str "half turn", sqd s.centre]
  | .k1 => .tuple [.str "quarter turn", sqd s.centre, .int 1]
  | .k3 => .tuple [.str "quarter turn", sqd s.centre, .int 3]
  | _ => if s.way = (0, 0) then .tuple [.str "mirror", s.axis] else .tuple [.str "glide", s.axis, sqd s.way]
def hd (n : Str) : PyData := if n = "shift" ∨ n = "glide" then .none else if n = "identity" then .int 1 else if n = "quarter turn" then .int 4 else .int 2
end M
namespace M
open PySem PySem.Spec PyProof.Rows L2 G
local macro_rules
  | `(tactic| simp? [$ls,*]) => `(tactic| simp (maxSteps := 1000000) (disch := first | assumption | (simp (disch := decide +kernel) only [G.sl_nil, G.sl_cons, List.cons_append, List.nil_append, G.shN_str, G.shN_tup, G.shN_lst, G.shN_int, G.shN_bool, G.shN_none, G.shA_nil, G.shA_cons, G.b_ta, G.ky_i, G.ky_s]; done) | exact G.len_ok (by simp only [G.sl_nil, G.sl_cons]) | decide | decide +kernel | exact G.mulOk_l (by decide) | exact G.mulOk_r (by decide) | omega) only [G.rb_ok, G.rb_ex, G.rb_bad, G.rb_ite, G.lz, G.ls, G.sz, G.ss, G.r_seq, G.k_seq1, G.k_seq2, G.k_seq3, G.k_seq4, G.r_nx, G.r_bk, G.r_ct, G.r_retN, G.r_ret, G.k_ret, G.r_drop, G.k_drop, G.r_if, G.r_ife, G.k_if, G.r_asg, G.k_asg1, G.k_asg2, G.k_asg3, G.k_sl1, G.k_sl2, G.k_sh1, G.k_sh2, G.k_sh3, G.k_sh4, G.k_sh5, G.r_asgG, G.k_asgG, G.k_asgL, G.k_tg, G.r_nm, G.r_tup, G.r_tup1, G.r_tup3, G.r_tup4, G.r_nil, G.r_cons, G.r_V, G.k_V1, G.k_V2, G.k_V4, G.k_V3, G.r_C, G.p_val, G.p_fr, G.p_sl, G.pb_1, G.pb_2, G.pb_3, G.od_1, G.od_2, G.p_1, G.p_2, G.p_3, G.q_1, G.q_2, G.q_3, G.re_1, G.re_2, G.re_ite, G.st_1, G.st_2, G.st_3, G.r_op2, G.k_op2a, G.k_op2b, G.k_op2c, G.r_op1, G.k_op1, G.ob_some, G.r_said, G.k_said1, G.r_opN, G.k_opN, G.r_pk0, G.r_pk1, G.k_pk, G.r_anil, G.r_acons, G.k_acons, G.k_acons2, G.shs_v0, G.shs_v1, G.shs_v2, G.shs_v3, G.shs_v4, G.om_some, G.r_tupT, G.r_lstT, G.k_dt, G.k_dl, G.k_d1, G.k_d2, G.r_fB, G.k_fB, G.r_and, G.r_or, G.r_andV, G.r_orV, G.r_not, G.r_notV, G.k_not, G.k_notV, G.r_yes, G.r_ch, G.k_ch1, G.k_ch2, G.k_ch3, G.k_ch4, G.k_ch5, G.r_call, G.c1_nil, G.c1_t, G.c1_f, G.c1_s, G.c1_s1, G.c1_s2, G.k_ca, G.k_c1, G.k_c2, G.c2_nil, G.c2_v, G.c2_s, G.c2_s1, G.c2_s3, G.c2_s2, G.k_call, G.k_w1, G.k_w2, G.k_w3, G.k_wite, G.wb_nil, G.wb_none, G.wb_some, G.k_wb1, G.k_wb2, G.wbx_nil, G.wbx_none, G.ap_nil, G.ap_nil2, G.ap_cons, G.ma_nil, G.ma_cons, G.ds_nil, G.ds_none, G.ds_some, G.me_nil, G.me_none, G.me_some, G.ou_0, G.ou_s, G.ob_val, G.ob_own, G.ob_un, G.ob_exc, G.ob_prm, G.le_0, G.le_s, G.k_rf1, G.k_rf2, G.k_rf3, G.k_rf4, G.k_rs1, G.k_rs2, G.r_set, G.k_set1, G.k_set2, G.k_set3, G.k_set4, G.k_set5, G.k_set6, G.k_set7, G.k_set8, G.k_set9, G.r_mut, G.k_mu1, G.k_mu2, G.k_mu3, G.k_mu4, G.k_mu5, G.k_mu6, G.k_mu7, G.k_app, G.k_apps, G.r_par, G.k_par1, G.k_par2, G.k_par3, G.k_par4, G.k_par5, G.r_par3, G.k_p3a, G.k_p3b, G.r_parN, G.k_pn1, G.k_pn2, G.k_nx, G.ev_nil, G.ev_cons, G.k_ev1, G.k_ev2, G.rs_nil, G.rs_val, G.rs_fr, G.rs_sl, G.k_rsS1, G.k_rsS2, G.bn_nil, G.bn_val, G.bn_fr, G.r_rep, G.k_rp1, G.k_rp2, G.k_rp3, G.ixN_last, G.set_last, G.ix_last, G.r_for, G.k_for, G.fo_nil, G.fo_cons, G.k_fo0, G.k_fo1, G.k_fo2, G.k_fo3, G.k_fo4, G.r_turn, G.k_tu0, G.k_tu1, G.k_tu2, G.k_tu3, G.k_tu4, G.r_seqI, G.k_seqI, G.k_seqI1, G.k_seqI3, G.k_seqI5, G.k_seqI6, G.k_seqI4, G.k_seqI2, G.r_rng1, G.k_rng1, G.k_rng1b, G.r_rng2, G.k_rng2, G.k_rng2b, G.rgl_0, G.rgl_1, G.rgl_2, G.rgl_3, G.rgl_4, G.rgl_5, G.rgl_6, G.rgl_7, G.rgl_8, G.rgl_9, G.rgl_10, G.rgl_12, G.rgl_16, G.r1l_1, G.r1l_2, G.r1l_3, G.r1l_4, G.r1l_5, G.r1l_6, G.r1l_8, G.rpl_0, G.rpl_1, G.rpl_2, G.rpl_3, G.rpl_4, G.rpl_5, G.rpl_6, G.rpl_7, G.rpl_8, G.r_lc, G.k_lc, G.l_nil, G.l_cons, G.l_A, G.l_B, G.l_C, G.l_C2, G.l_C3, G.l_S1, G.l_S2, G.l_D, G.k_lc1, G.wi_nil, G.wi_cons, G.mulOk_l, G.mulOk_r, G.r_sl, G.k_sla, G.k_slb, G.k_slc, G.k_sld, G.pt_n, G.pt_s, G.k_pt, G.cu_t, G.cu_l, G.cu_1n, G.cu_2n, G.cu_n1, G.d_add, G.d_addT, G.d_addTs, G.d_addL, G.d_addLs, G.d_sub, G.d_mul, G.d_fdiv, G.d_mod, G.d_neg, G.d_cmp, G.d_ixT, G.d_ixL, G.at_0, G.at_1, G.at_2, G.at_3, G.d_lenL, G.d_lenT, G.d_tupL, G.d_tupT, G.d_all, G.k_all, G.d_any, G.k_any, G.bo_nil, G.bo_cons, G.al_nil, G.al_cons, G.al_map, G.an_nil, G.an_cons, G.an_map, G.id_b, G.bo_map, G.d_max, G.d_min, G.d_listL, G.d_listT, G.d_p18, G.d_p13, G.d_p12, G.d_is, G.d_abs, G.d_repr, G.d_eqS, G.d_neS, G.d_eqI, G.d_neI, G.d_isi, G.isy_int_none, G.isy_int_bool, G.isy_int_int, G.isy_int_str, G.isy_int_list, G.isy_int_tuple, G.isy_int_dict, G.isy_bool_none, G.isy_bool_bool, G.isy_bool_int, G.isy_bool_str, G.isy_bool_list, G.isy_bool_tuple, G.isy_bool_dict, G.isy_tuple_none, G.isy_tuple_bool, G.isy_tuple_int, G.isy_tuple_str, G.isy_tuple_list, G.isy_tuple_tuple, G.isy_tuple_dict, G.isy_list_none, G.isy_list_bool, G.isy_list_int, G.isy_list_str, G.isy_list_list, G.isy_list_tuple, G.isy_list_dict, G.isy_str_none, G.isy_str_bool, G.isy_str_int, G.isy_str_str, G.isy_str_list, G.isy_str_tuple, G.isy_str_dict, G.isy_dict_none, G.isy_dict_bool, G.isy_dict_int, G.isy_dict_str, G.isy_dict_list, G.isy_dict_tuple, G.isy_dict_dict, G.it_t, G.it_f, G.b_tt, G.b_ft, G.b_nt, G.b_nf, G.b_ta, G.b_fa, G.b_at, G.b_to, G.b_fo, G.lI_0, G.lI_1, G.lI_2, G.lI_3, G.lI_4, G.lI_5, G.lI_m, G.bs_f, G.es_f, G.bb_tt, G.bb_tf, G.bb_ft, G.bb_ff, G.bq_s, G.r_dic, G.k_dic1, G.k_dic2, G.k_dic3, G.k_dic4, G.k_kD1, G.k_kD2, G.k_fl0, G.k_fl1, G.k_pr0, G.k_pr1, G.k_pr2, G.r_dic0, G.d_ixDi, G.d_ixDs, G.d_inGT, G.d_inGL, G.d_ninGT, G.d_ninGL, G.d_inGi, G.d_ninGi, G.k_vals, G.k_items, G.d_setDi, G.dg_nil, G.dg_i, G.dg_s, G.mg_0, G.mg_s, G.dpk_n, G.ky_i, G.ky_s, G.d_eqX, G.d_neX, G.d_inT, G.d_inL, G.d_ninT, G.d_ninL, G.ev_ii, G.ev_bb, G.ev_ss, G.ev_nn, G.ev_tt, G.ev_ll, G.ev_0, G.ev_c, G.ev_c0, G.ev_0c, G.ev_none_bool, G.ev_none_int, G.ev_none_str, G.ev_none_list, G.ev_none_tuple, G.ev_bool_none, G.ev_bool_str, G.ev_bool_list, G.ev_bool_tuple, G.ev_int_none, G.ev_int_str, G.ev_int_list, G.ev_int_tuple, G.ev_str_none, G.ev_str_bool, G.ev_str_int, G.ev_str_list, G.ev_str_tuple, G.ev_list_none, G.ev_list_bool, G.ev_list_int, G.ev_list_str, G.ev_list_tuple, G.ev_tuple_none, G.ev_tuple_bool, G.ev_tuple_int, G.ev_tuple_str, G.ev_tuple_list, G.dec_t, G.not_dec, G.k_popA, G.k_popZ, G.k_pop1, G.r_ext, G.k_ext1, G.k_ext2, G.k_ext3, G.k_ext4, G.r_items, G.k_itemsJ, G.d_listD, G.d_intI, G.d_intB, G.d_strI, G.r_subG, G.k_sub1, G.k_sub2, G.k_sub3, G.k_sub4, G.k_sub5, G.k_sub6, G.k_sub7, G.r_tupL1, G.r_tupL2, G.r_tupL3, G.r_tupL4, G.d_isB, G.d_isnB, G.d_isnN, G.d_revL, G.d_revT, G.r_permA, G.k_perm1, G.k_perm2, G.k_perm3a, G.k_perm3b, G.k_perm3c, G.k_perm3d, G.k_perm3e, Int.reduceEq, Int.reduceLE, Int.reduceLT, Int.reduceAdd, Int.reduceSub, Int.reduceMul, Int.reduceNeg, Nat.reduceAdd, List.nil_append, not_true_eq_false, not_false_eq_true, and_true, true_and, and_false, false_and, or_true, true_or, or_false, false_or, decide_true, decide_false, eq_self, Bool.and_true, Bool.and_false, $ls,*])
  | `(tactic| simp? [$ls,*] at $h:ident) => `(tactic| simp (maxSteps := 1000000) (disch := first | assumption | (simp (disch := decide +kernel) only [G.sl_nil, G.sl_cons, List.cons_append, List.nil_append, G.shN_str, G.shN_tup, G.shN_lst, G.shN_int, G.shN_bool, G.shN_none, G.shA_nil, G.shA_cons, G.b_ta, G.ky_i, G.ky_s]; done) | exact G.len_ok (by simp only [G.sl_nil, G.sl_cons]) | decide | decide +kernel | exact G.mulOk_l (by decide) | exact G.mulOk_r (by decide) | omega) only [G.rb_ok, G.rb_ex, G.rb_bad, G.rb_ite, G.lz, G.ls, G.sz, G.ss, G.r_seq, G.k_seq1, G.k_seq2, G.k_seq3, G.k_seq4, G.r_nx, G.r_bk, G.r_ct, G.r_retN, G.r_ret, G.k_ret, G.r_drop, G.k_drop, G.r_if, G.r_ife, G.k_if, G.r_asg, G.k_asg1, G.k_asg2, G.k_asg3, G.k_sl1, G.k_sl2, G.k_sh1, G.k_sh2, G.k_sh3, G.k_sh4, G.k_sh5, G.r_asgG, G.k_asgG, G.k_asgL, G.k_tg, G.r_nm, G.r_tup, G.r_tup1, G.r_tup3, G.r_tup4, G.r_nil, G.r_cons, G.r_V, G.k_V1, G.k_V2, G.k_V4, G.k_V3, G.r_C, G.p_val, G.p_fr, G.p_sl, G.pb_1, G.pb_2, G.pb_3, G.od_1, G.od_2, G.p_1, G.p_2, G.p_3, G.q_1, G.q_2, G.q_3, G.re_1, G.re_2, G.re_ite, G.st_1, G.st_2, G.st_3, G.r_op2, G.k_op2a, G.k_op2b, G.k_op2c, G.r_op1, G.k_op1, G.ob_some, G.r_said, G.k_said1, G.r_opN, G.k_opN, G.r_pk0, G.r_pk1, G.k_pk, G.r_anil, G.r_acons, G.k_acons, G.k_acons2, G.shs_v0, G.shs_v1, G.shs_v2, G.shs_v3, G.shs_v4, G.om_some, G.r_tupT, G.r_lstT, G.k_dt, G.k_dl, G.k_d1, G.k_d2, G.r_fB, G.k_fB, G.r_and, G.r_or, G.r_andV, G.r_orV, G.r_not, G.r_notV, G.k_not, G.k_notV, G.r_yes, G.r_ch, G.k_ch1, G.k_ch2, G.k_ch3, G.k_ch4, G.k_ch5, G.r_call, G.c1_nil, G.c1_t, G.c1_f, G.c1_s, G.c1_s1, G.c1_s2, G.k_ca, G.k_c1, G.k_c2, G.c2_nil, G.c2_v, G.c2_s, G.c2_s1, G.c2_s3, G.c2_s2, G.k_call, G.k_w1, G.k_w2, G.k_w3, G.k_wite, G.wb_nil, G.wb_none, G.wb_some, G.k_wb1, G.k_wb2, G.wbx_nil, G.wbx_none, G.ap_nil, G.ap_nil2, G.ap_cons, G.ma_nil, G.ma_cons, G.ds_nil, G.ds_none, G.ds_some, G.me_nil, G.me_none, G.me_some, G.ou_0, G.ou_s, G.ob_val, G.ob_own, G.ob_un, G.ob_exc, G.ob_prm, G.le_0, G.le_s, G.k_rf1, G.k_rf2, G.k_rf3, G.k_rf4, G.k_rs1, G.k_rs2, G.r_set, G.k_set1, G.k_set2, G.k_set3, G.k_set4, G.k_set5, G.k_set6, G.k_set7, G.k_set8, G.k_set9, G.r_mut, G.k_mu1, G.k_mu2, G.k_mu3, G.k_mu4, G.k_mu5, G.k_mu6, G.k_mu7, G.k_app, G.k_apps, G.r_par, G.k_par1, G.k_par2, G.k_par3, G.k_par4, G.k_par5, G.r_par3, G.k_p3a, G.k_p3b, G.r_parN, G.k_pn1, G.k_pn2, G.k_nx, G.ev_nil, G.ev_cons, G.k_ev1, G.k_ev2, G.rs_nil, G.rs_val, G.rs_fr, G.rs_sl, G.k_rsS1, G.k_rsS2, G.bn_nil, G.bn_val, G.bn_fr, G.r_rep, G.k_rp1, G.k_rp2, G.k_rp3, G.ixN_last, G.set_last, G.ix_last, G.r_for, G.k_for, G.fo_nil, G.fo_cons, G.k_fo0, G.k_fo1, G.k_fo2, G.k_fo3, G.k_fo4, G.r_turn, G.k_tu0, G.k_tu1, G.k_tu2, G.k_tu3, G.k_tu4, G.r_seqI, G.k_seqI, G.k_seqI1, G.k_seqI3, G.k_seqI5, G.k_seqI6, G.k_seqI4, G.k_seqI2, G.r_rng1, G.k_rng1, G.k_rng1b, G.r_rng2, G.k_rng2, G.k_rng2b, G.rgl_0, G.rgl_1, G.rgl_2, G.rgl_3, G.rgl_4, G.rgl_5, G.rgl_6, G.rgl_7, G.rgl_8, G.rgl_9, G.rgl_10, G.rgl_12, G.rgl_16, G.r1l_1, G.r1l_2, G.r1l_3, G.r1l_4, G.r1l_5, G.r1l_6, G.r1l_8, G.rpl_0, G.rpl_1, G.rpl_2, G.rpl_3, G.rpl_4, G.rpl_5, G.rpl_6, G.rpl_7, G.rpl_8, G.r_lc, G.k_lc, G.l_nil, G.l_cons, G.l_A, G.l_B, G.l_C, G.l_C2, G.l_C3, G.l_S1, G.l_S2, G.l_D, G.k_lc1, G.wi_nil, G.wi_cons, G.mulOk_l, G.mulOk_r, G.r_sl, G.k_sla, G.k_slb, G.k_slc, G.k_sld, G.pt_n, G.pt_s, G.k_pt, G.cu_t, G.cu_l, G.cu_1n, G.cu_2n, G.cu_n1, G.d_add, G.d_addT, G.d_addTs, G.d_addL, G.d_addLs, G.d_sub, G.d_mul, G.d_fdiv, G.d_mod, G.d_neg, G.d_cmp, G.d_ixT, G.d_ixL, G.at_0, G.at_1, G.at_2, G.at_3, G.d_lenL, G.d_lenT, G.d_tupL, G.d_tupT, G.d_all, G.k_all, G.d_any, G.k_any, G.bo_nil, G.bo_cons, G.al_nil, G.al_cons, G.al_map, G.an_nil, G.an_cons, G.an_map, G.id_b, G.bo_map, G.d_max, G.d_min, G.d_listL, G.d_listT, G.d_p18, G.d_p13, G.d_p12, G.d_is, G.d_abs, G.d_repr, G.d_eqS, G.d_neS, G.d_eqI, G.d_neI, G.d_isi, G.isy_int_none, G.isy_int_bool, G.isy_int_int, G.isy_int_str, G.isy_int_list, G.isy_int_tuple, G.isy_int_dict, G.isy_bool_none, G.isy_bool_bool, G.isy_bool_int, G.isy_bool_str, G.isy_bool_list, G.isy_bool_tuple, G.isy_bool_dict, G.isy_tuple_none, G.isy_tuple_bool, G.isy_tuple_int, G.isy_tuple_str, G.isy_tuple_list, G.isy_tuple_tuple, G.isy_tuple_dict, G.isy_list_none, G.isy_list_bool, G.isy_list_int, G.isy_list_str, G.isy_list_list, G.isy_list_tuple, G.isy_list_dict, G.isy_str_none, G.isy_str_bool, G.isy_str_int, G.isy_str_str, G.isy_str_list, G.isy_str_tuple, G.isy_str_dict, G.isy_dict_none, G.isy_dict_bool, G.isy_dict_int, G.isy_dict_str, G.isy_dict_list, G.isy_dict_tuple, G.isy_dict_dict, G.it_t, G.it_f, G.b_tt, G.b_ft, G.b_nt, G.b_nf, G.b_ta, G.b_fa, G.b_at, G.b_to, G.b_fo, G.lI_0, G.lI_1, G.lI_2, G.lI_3, G.lI_4, G.lI_5, G.lI_m, G.bs_f, G.es_f, G.bb_tt, G.bb_tf, G.bb_ft, G.bb_ff, G.bq_s, G.r_dic, G.k_dic1, G.k_dic2, G.k_dic3, G.k_dic4, G.k_kD1, G.k_kD2, G.k_fl0, G.k_fl1, G.k_pr0, G.k_pr1, G.k_pr2, G.r_dic0, G.d_ixDi, G.d_ixDs, G.d_inGT, G.d_inGL, G.d_ninGT, G.d_ninGL, G.d_inGi, G.d_ninGi, G.k_vals, G.k_items, G.d_setDi, G.dg_nil, G.dg_i, G.dg_s, G.mg_0, G.mg_s, G.dpk_n, G.ky_i, G.ky_s, G.d_eqX, G.d_neX, G.d_inT, G.d_inL, G.d_ninT, G.d_ninL, G.ev_ii, G.ev_bb, G.ev_ss, G.ev_nn, G.ev_tt, G.ev_ll, G.ev_0, G.ev_c, G.ev_c0, G.ev_0c, G.ev_none_bool, G.ev_none_int, G.ev_none_str, G.ev_none_list, G.ev_none_tuple, G.ev_bool_none, G.ev_bool_str, G.ev_bool_list, G.ev_bool_tuple, G.ev_int_none, G.ev_int_str, G.ev_int_list, G.ev_int_tuple, G.ev_str_none, G.ev_str_bool, G.ev_str_int, G.ev_str_list, G.ev_str_tuple, G.ev_list_none, G.ev_list_bool, G.ev_list_int, G.ev_list_str, G.ev_list_tuple, G.ev_tuple_none, G.ev_tuple_bool, G.ev_tuple_int, G.ev_tuple_str, G.ev_tuple_list, G.dec_t, G.not_dec, G.k_popA, G.k_popZ, G.k_pop1, G.r_ext, G.k_ext1, G.k_ext2, G.k_ext3, G.k_ext4, G.r_items, G.k_itemsJ, G.d_listD, G.d_intI, G.d_intB, G.d_strI, G.r_subG, G.k_sub1, G.k_sub2, G.k_sub3, G.k_sub4, G.k_sub5, G.k_sub6, G.k_sub7, G.r_tupL1, G.r_tupL2, G.r_tupL3, G.r_tupL4, G.d_isB, G.d_isnB, G.d_isnN, G.d_revL, G.d_revT, G.r_permA, G.k_perm1, G.k_perm2, G.k_perm3a, G.k_perm3b, G.k_perm3c, G.k_perm3d, G.k_perm3e, Int.reduceEq, Int.reduceLE, Int.reduceLT, Int.reduceAdd, Int.reduceSub, Int.reduceMul, Int.reduceNeg, Nat.reduceAdd, List.nil_append, not_true_eq_false, not_false_eq_true, and_true, true_and, and_false, false_and, or_true, true_or, or_false, false_or, decide_true, decide_false, eq_self, Bool.and_true, Bool.and_false, $ls,*] at $h:ident)
/-! ### orders -/
end M
namespace M
open PySem PySem.Spec PyProof.Rows L2 G
local macro_rules
  | `(tactic| simp? [$ls,*]) => `(tactic| simp (maxSteps := 1000000) (disch := first | assumption | (simp (disch := decide +kernel) only [G.sl_nil, G.sl_cons, List.cons_append, List.nil_append, G.shN_str, G.shN_tup, G.shN_lst, G.shN_int, G.shN_bool, G.shN_none, G.shA_nil, G.shA_cons, G.b_ta, G.ky_i, G.ky_s]; done) | exact G.len_ok (by simp only [G.sl_nil, G.sl_cons]) | decide | decide +kernel | exact G.mulOk_l (by decide) | exact G.mulOk_r (by decide) | omega) only [G.rb_ok, G.rb_ex, G.rb_bad, G.rb_ite, G.lz, G.ls, G.sz, G.ss, G.r_seq, G.k_seq1, G.k_seq2, G.k_seq3, G.k_seq4, G.r_nx, G.r_bk, G.r_ct, G.r_retN, G.r_ret, G.k_ret, G.r_drop, G.k_drop, G.r_if, G.r_ife, G.k_if, G.r_asg, G.k_asg1, G.k_asg2, G.k_asg3, G.k_sl1, G.k_sl2, G.k_sh1, G.k_sh2, G.k_sh3, G.k_sh4, G.k_sh5, G.r_asgG, G.k_asgG, G.k_asgL, G.k_tg, G.r_nm, G.r_tup, G.r_tup1, G.r_tup3, G.r_tup4, G.r_nil, G.r_cons, G.r_V, G.k_V1, G.k_V2, G.k_V4, G.k_V3, G.r_C, G.p_val, G.p_fr, G.p_sl, G.pb_1, G.pb_2, G.pb_3, G.od_1, G.od_2, G.p_1, G.p_2, G.p_3, G.q_1, G.q_2, G.q_3, G.re_1, G.re_2, G.re_ite, G.st_1, G.st_2, G.st_3, G.r_op2, G.k_op2a, G.k_op2b, G.k_op2c, G.r_op1, G.k_op1, G.ob_some, G.r_said, G.k_said1, G.r_opN, G.k_opN, G.r_pk0, G.r_pk1, G.k_pk, G.r_anil, G.r_acons, G.k_acons, G.k_acons2, G.shs_v0, G.shs_v1, G.shs_v2, G.shs_v3, G.shs_v4, G.om_some, G.r_tupT, G.r_lstT, G.k_dt, G.k_dl, G.k_d1, G.k_d2, G.r_fB, G.k_fB, G.r_and, G.r_or, G.r_andV, G.r_orV, G.r_not, G.r_notV, G.k_not, G.k_notV, G.r_yes, G.r_ch, G.k_ch1, G.k_ch2, G.k_ch3, G.k_ch4, G.k_ch5, G.r_call, G.c1_nil, G.c1_t, G.c1_f, G.c1_s, G.c1_s1, G.c1_s2, G.k_ca, G.k_c1, G.k_c2, G.c2_nil, G.c2_v, G.c2_s, G.c2_s1, G.c2_s3, G.c2_s2, G.k_call, G.k_w1, G.k_w2, G.k_w3, G.k_wite, G.wb_nil, G.wb_none, G.wb_some, G.k_wb1, G.k_wb2, G.wbx_nil, G.wbx_none, G.ap_nil, G.ap_nil2, G.ap_cons, G.ma_nil, G.ma_cons, G.ds_nil, G.ds_none, G.ds_some, G.me_nil, G.me_none, G.me_some, G.ou_0, G.ou_s, G.ob_val, G.ob_own, G.ob_un, G.ob_exc, G.ob_prm, G.le_0, G.le_s, G.k_rf1, G.k_rf2, G.k_rf3, G.k_rf4, G.k_rs1, G.k_rs2, G.r_set, G.k_set1, G.k_set2, G.k_set3, G.k_set4, G.k_set5, G.k_set6, G.k_set7, G.k_set8, G.k_set9, G.r_mut, G.k_mu1, G.k_mu2, G.k_mu3, G.k_mu4, G.k_mu5, G.k_mu6, G.k_mu7, G.k_app, G.k_apps, G.r_par, G.k_par1, G.k_par2, G.k_par3, G.k_par4, G.k_par5, G.r_par3, G.k_p3a, G.k_p3b, G.r_parN, G.k_pn1, G.k_pn2, G.k_nx, G.ev_nil, G.ev_cons, G.k_ev1, G.k_ev2, G.rs_nil, G.rs_val, G.rs_fr, G.rs_sl, G.k_rsS1, G.k_rsS2, G.bn_nil, G.bn_val, G.bn_fr, G.r_rep, G.k_rp1, G.k_rp2, G.k_rp3, G.ixN_last, G.set_last, G.ix_last, G.r_for, G.k_for, G.fo_nil, G.fo_cons, G.k_fo0, G.k_fo1, G.k_fo2, G.k_fo3, G.k_fo4, G.r_turn, G.k_tu0, G.k_tu1, G.k_tu2, G.k_tu3, G.k_tu4, G.r_seqI, G.k_seqI, G.k_seqI1, G.k_seqI3, G.k_seqI5, G.k_seqI6, G.k_seqI4, G.k_seqI2, G.r_rng1, G.k_rng1, G.k_rng1b, G.r_rng2, G.k_rng2, G.k_rng2b, G.rgl_0, G.rgl_1, G.rgl_2, G.rgl_3, G.rgl_4, G.rgl_5, G.rgl_6, G.rgl_7, G.rgl_8, G.rgl_9, G.rgl_10, G.rgl_12, G.rgl_16, G.r1l_1, G.r1l_2, G.r1l_3, G.r1l_4, G.r1l_5, G.r1l_6, G.r1l_8, G.rpl_0, G.rpl_1, G.rpl_2, G.rpl_3, G.rpl_4, G.rpl_5, G.rpl_6, G.rpl_7, G.rpl_8, G.r_lc, G.k_lc, G.l_nil, G.l_cons, G.l_A, G.l_B, G.l_C, G.l_C2, G.l_C3, G.l_S1, G.l_S2, G.l_D, G.k_lc1, G.wi_nil, G.wi_cons, G.mulOk_l, G.mulOk_r, G.r_sl, G.k_sla, G.k_slb, G.k_slc, G.k_sld, G.pt_n, G.pt_s, G.k_pt, G.cu_t, G.cu_l, G.cu_1n, G.cu_2n, G.cu_n1, G.d_add, G.d_addT, G.d_addTs, G.d_addL, G.d_addLs, G.d_sub, G.d_mul, G.d_fdiv, G.d_mod, G.d_neg, G.d_cmp, G.d_ixT, G.d_ixL, G.at_0, G.at_1, G.at_2, G.at_3, G.d_lenL, G.d_lenT, G.d_tupL, G.d_tupT, G.d_all, G.k_all, G.d_any, G.k_any, G.bo_nil, G.bo_cons, G.al_nil, G.al_cons, G.al_map, G.an_nil, G.an_cons, G.an_map, G.id_b, G.bo_map, G.d_max, G.d_min, G.d_listL, G.d_listT, G.d_p18, G.d_p13, G.d_p12, G.d_is, G.d_abs, G.d_repr, G.d_eqS, G.d_neS, G.d_eqI, G.d_neI, G.d_isi, G.isy_int_none, G.isy_int_bool, G.isy_int_int, G.isy_int_str, G.isy_int_list, G.isy_int_tuple, G.isy_int_dict, G.isy_bool_none, G.isy_bool_bool, G.isy_bool_int, G.isy_bool_str, G.isy_bool_list, G.isy_bool_tuple, G.isy_bool_dict, G.isy_tuple_none, G.isy_tuple_bool, G.isy_tuple_int, G.isy_tuple_str, G.isy_tuple_list, G.isy_tuple_tuple, G.isy_tuple_dict, G.isy_list_none, G.isy_list_bool, G.isy_list_int, G.isy_list_str, G.isy_list_list, G.isy_list_tuple, G.isy_list_dict, G.isy_str_none, G.isy_str_bool, G.isy_str_int, G.isy_str_str, G.isy_str_list, G.isy_str_tuple, G.isy_str_dict, G.isy_dict_none, G.isy_dict_bool, G.isy_dict_int, G.isy_dict_str, G.isy_dict_list, G.isy_dict_tuple, G.isy_dict_dict, G.it_t, G.it_f, G.b_tt, G.b_ft, G.b_nt, G.b_nf, G.b_ta, G.b_fa, G.b_at, G.b_to, G.b_fo, G.lI_0, G.lI_1, G.lI_2, G.lI_3, G.lI_4, G.lI_5, G.lI_m, G.bs_f, G.es_f, G.bb_tt, G.bb_tf, G.bb_ft, G.bb_ff, G.bq_s, G.r_dic, G.k_dic1, G.k_dic2, G.k_dic3, G.k_dic4, G.k_kD1, G.k_kD2, G.k_fl0, G.k_fl1, G.k_pr0, G.k_pr1, G.k_pr2, G.r_dic0, G.d_ixDi, G.d_ixDs, G.d_inGT, G.d_inGL, G.d_ninGT, G.d_ninGL, G.d_inGi, G.d_ninGi, G.k_vals, G.k_items, G.d_setDi, G.dg_nil, G.dg_i, G.dg_s, G.mg_0, G.mg_s, G.dpk_n, G.ky_i, G.ky_s, G.d_eqX, G.d_neX, G.d_inT, G.d_inL, G.d_ninT, G.d_ninL, G.ev_ii, G.ev_bb, G.ev_ss, G.ev_nn, G.ev_tt, G.ev_ll, G.ev_0, G.ev_c, G.ev_c0, G.ev_0c, G.ev_none_bool, G.ev_none_int, G.ev_none_str, G.ev_none_list, G.ev_none_tuple, G.ev_bool_none, G.ev_bool_str, G.ev_bool_list, G.ev_bool_tuple, G.ev_int_none, G.ev_int_str, G.ev_int_list, G.ev_int_tuple, G.ev_str_none, G.ev_str_bool, G.ev_str_int, G.ev_str_list, G.ev_str_tuple, G.ev_list_none, G.ev_list_bool, G.ev_list_int, G.ev_list_str, G.ev_list_tuple, G.ev_tuple_none, G.ev_tuple_bool, G.ev_tuple_int, G.ev_tuple_str, G.ev_tuple_list, G.dec_t, G.not_dec, G.k_popA, G.k_popZ, G.k_pop1, G.r_ext, G.k_ext1, G.k_ext2, G.k_ext3, G.k_ext4, G.r_items, G.k_itemsJ, G.d_listD, G.d_intI, G.d_intB, G.d_strI, G.r_subG, G.k_sub1, G.k_sub2, G.k_sub3, G.k_sub4, G.k_sub5, G.k_sub6, G.k_sub7, G.r_tupL1, G.r_tupL2, G.r_tupL3, G.r_tupL4, G.d_isB, G.d_isnB, G.d_isnN, G.d_revL, G.d_revT, G.r_permA, G.k_perm1, G.k_perm2, G.k_perm3a, G.k_perm3b, G.k_perm3c, G.k_perm3d, G.k_perm3e, Int.reduceEq, Int.reduceLE, Int.reduceLT, Int.reduceAdd, Int.reduceSub, Int.reduceMul, Int.reduceNeg, Nat.reduceAdd, List.nil_append, not_true_eq_false, not_false_eq_true, and_true, true_and, and_false, false_and, or_true, true_or, or_false, false_or, decide_true, decide_false, eq_self, Bool.and_true, Bool.and_false, $ls,*])
  | `(tactic| simp? [$ls,*] at $h:ident) => `(tactic| simp (maxSteps := 1000000) (disch := first | assumption | (simp (disch := decide +kernel) only [G.sl_nil, G.sl_cons, List.cons_append, List.nil_append, G.shN_str, G.shN_tup, G.shN_lst, G.shN_int, G.shN_bool, G.shN_none, G.shA_nil, G.shA_cons, G.b_ta, G.ky_i, G.ky_s]; done) | exact G.len_ok (by simp only [G.sl_nil, G.sl_cons]) | decide | decide +kernel | exact G.mulOk_l (by decide) | exact G.mulOk_r (by decide) | omega) only [G.rb_ok, G.rb_ex, G.rb_bad, G.rb_ite, G.lz, G.ls, G.sz, G.ss, G.r_seq, G.k_seq1, G.k_seq2, G.k_seq3, G.k_seq4, G.r_nx, G.r_bk, G.r_ct, G.r_retN, G.r_ret, G.k_ret, G.r_drop, G.k_drop, G.r_if, G.r_ife, G.k_if, G.r_asg, G.k_asg1, G.k_asg2, G.k_asg3, G.k_sl1, G.k_sl2, G.k_sh1, G.k_sh2, G.k_sh3, G.k_sh4, G.k_sh5, G.r_asgG, G.k_asgG, G.k_asgL, G.k_tg, G.r_nm, G.r_tup, G.r_tup1, G.r_tup3, G.r_tup4, G.r_nil, G.r_cons, G.r_V, G.k_V1, G.k_V2, G.k_V4, G.k_V3, G.r_C, G.p_val, G.p_fr, G.p_sl, G.pb_1, G.pb_2, G.pb_3, G.od_1, G.od_2, G.p_1, G.p_2, G.p_3, G.q_1, G.q_2, G.q_3, G.re_1, G.re_2, G.re_ite, G.st_1, G.st_2, G.st_3, G.r_op2, G.k_op2a, G.k_op2b, G.k_op2c, G.r_op1, G.k_op1, G.ob_some, G.r_said, G.k_said1, G.r_opN, G.k_opN, G.r_pk0, G.r_pk1, G.k_pk, G.r_anil, G.r_acons, G.k_acons, G.k_acons2, G.shs_v0, G.shs_v1, G.shs_v2, G.shs_v3, G.shs_v4, G.om_some, G.r_tupT, G.r_lstT, G.k_dt, G.k_dl, G.k_d1, G.k_d2, G.r_fB, G.k_fB, G.r_and, G.r_or, G.r_andV, G.r_orV, G.r_not, G.r_notV, G.k_not, G.k_notV, G.r_yes, G.r_ch, G.k_ch1, G.k_ch2, G.k_ch3, G.k_ch4, G.k_ch5, G.r_call, G.c1_nil, G.c1_t, G.c1_f, G.c1_s, G.c1_s1, G.c1_s2, G.k_ca, G.k_c1, G.k_c2, G.c2_nil, G.c2_v, G.c2_s, G.c2_s1, G.c2_s3, G.c2_s2, G.k_call, G.k_w1, G.k_w2, G.k_w3, G.k_wite, G.wb_nil, G.wb_none, G.wb_some, G.k_wb1, G.k_wb2, G.wbx_nil, G.wbx_none, G.ap_nil, G.ap_nil2, G.ap_cons, G.ma_nil, G.ma_cons, G.ds_nil, G.ds_none, G.ds_some, G.me_nil, G.me_none, G.me_some, G.ou_0, G.ou_s, G.ob_val, G.ob_own, G.ob_un, G.ob_exc, G.ob_prm, G.le_0, G.le_s, G.k_rf1, G.k_rf2, G.k_rf3, G.k_rf4, G.k_rs1, G.k_rs2, G.r_set, G.k_set1, G.k_set2, G.k_set3, G.k_set4, G.k_set5, G.k_set6, G.k_set7, G.k_set8, G.k_set9, G.r_mut, G.k_mu1, G.k_mu2, G.k_mu3, G.k_mu4, G.k_mu5, G.k_mu6, G.k_mu7, G.k_app, G.k_apps, G.r_par, G.k_par1, G.k_par2, G.k_par3, G.k_par4, G.k_par5, G.r_par3, G.k_p3a, G.k_p3b, G.r_parN, G.k_pn1, G.k_pn2, G.k_nx, G.ev_nil, G.ev_cons, G.k_ev1, G.k_ev2, G.rs_nil, G.rs_val, G.rs_fr, G.rs_sl, G.k_rsS1, G.k_rsS2, G.bn_nil, G.bn_val, G.bn_fr, G.r_rep, G.k_rp1, G.k_rp2, G.k_rp3, G.ixN_last, G.set_last, G.ix_last, G.r_for, G.k_for, G.fo_nil, G.fo_cons, G.k_fo0, G.k_fo1, G.k_fo2, G.k_fo3, G.k_fo4, G.r_turn, G.k_tu0, G.k_tu1, G.k_tu2, G.k_tu3, G.k_tu4, G.r_seqI, G.k_seqI, G.k_seqI1, G.k_seqI3, G.k_seqI5, G.k_seqI6, G.k_seqI4, G.k_seqI2, G.r_rng1, G.k_rng1, G.k_rng1b, G.r_rng2, G.k_rng2, G.k_rng2b, G.rgl_0, G.rgl_1, G.rgl_2, G.rgl_3, G.rgl_4, G.rgl_5, G.rgl_6, G.rgl_7, G.rgl_8, G.rgl_9, G.rgl_10, G.rgl_12, G.rgl_16, G.r1l_1, G.r1l_2, G.r1l_3, G.r1l_4, G.r1l_5, G.r1l_6, G.r1l_8, G.rpl_0, G.rpl_1, G.rpl_2, G.rpl_3, G.rpl_4, G.rpl_5, G.rpl_6, G.rpl_7, G.rpl_8, G.r_lc, G.k_lc, G.l_nil, G.l_cons, G.l_A, G.l_B, G.l_C, G.l_C2, G.l_C3, G.l_S1, G.l_S2, G.l_D, G.k_lc1, G.wi_nil, G.wi_cons, G.mulOk_l, G.mulOk_r, G.r_sl, G.k_sla, G.k_slb, G.k_slc, G.k_sld, G.pt_n, G.pt_s, G.k_pt, G.cu_t, G.cu_l, G.cu_1n, G.cu_2n, G.cu_n1, G.d_add, G.d_addT, G.d_addTs, G.d_addL, G.d_addLs, G.d_sub, G.d_mul, G.d_fdiv, G.d_mod, G.d_neg, G.d_cmp, G.d_ixT, G.d_ixL, G.at_0, G.at_1, G.at_2, G.at_3, G.d_lenL, G.d_lenT, G.d_tupL, G.d_tupT, G.d_all, G.k_all, G.d_any, G.k_any, G.bo_nil, G.bo_cons, G.al_nil, G.al_cons, G.al_map, G.an_nil, G.an_cons, G.an_map, G.id_b, G.bo_map, G.d_max, G.d_min, G.d_listL, G.d_listT, G.d_p18, G.d_p13, G.d_p12, G.d_is, G.d_abs, G.d_repr, G.d_eqS, G.d_neS, G.d_eqI, G.d_neI, G.d_isi, G.isy_int_none, G.isy_int_bool, G.isy_int_int, G.isy_int_str, G.isy_int_list, G.isy_int_tuple, G.isy_int_dict, G.isy_bool_none, G.isy_bool_bool, G.isy_bool_int, G.isy_bool_str, G.isy_bool_list, G.isy_bool_tuple, G.isy_bool_dict, G.isy_tuple_none, G.isy_tuple_bool, G.isy_tuple_int, G.isy_tuple_str, G.isy_tuple_list, G.isy_tuple_tuple, G.isy_tuple_dict, G.isy_list_none, G.isy_list_bool, G.isy_list_int, G.isy_list_str, G.isy_list_list, G.isy_list_tuple, G.isy_list_dict, G.isy_str_none, G.isy_str_bool, G.isy_str_int, G.isy_str_str, G.isy_str_list, G.isy_str_tuple, G.isy_str_dict, G.isy_dict_none, G.isy_dict_bool, G.isy_dict_int, G.isy_dict_str, G.isy_dict_list, G.isy_dict_tuple, G.isy_dict_dict, G.it_t, G.it_f, G.b_tt, G.b_ft, G.b_nt, G.b_nf, G.b_ta, G.b_fa, G.b_at, G.b_to, G.b_fo, G.lI_0, G.lI_1, G.lI_2, G.lI_3, G.lI_4, G.lI_5, G.lI_m, G.bs_f, G.es_f, G.bb_tt, G.bb_tf, G.bb_ft, G.bb_ff, G.bq_s, G.r_dic, G.k_dic1, G.k_dic2, G.k_dic3, G.k_dic4, G.k_kD1, G.k_kD2, G.k_fl0, G.k_fl1, G.k_pr0, G.k_pr1, G.k_pr2, G.r_dic0, G.d_ixDi, G.d_ixDs, G.d_inGT, G.d_inGL, G.d_ninGT, G.d_ninGL, G.d_inGi, G.d_ninGi, G.k_vals, G.k_items, G.d_setDi, G.dg_nil, G.dg_i, G.dg_s, G.mg_0, G.mg_s, G.dpk_n, G.ky_i, G.ky_s, G.d_eqX, G.d_neX, G.d_inT, G.d_inL, G.d_ninT, G.d_ninL, G.ev_ii, G.ev_bb, G.ev_ss, G.ev_nn, G.ev_tt, G.ev_ll, G.ev_0, G.ev_c, G.ev_c0, G.ev_0c, G.ev_none_bool, G.ev_none_int, G.ev_none_str, G.ev_none_list, G.ev_none_tuple, G.ev_bool_none, G.ev_bool_str, G.ev_bool_list, G.ev_bool_tuple, G.ev_int_none, G.ev_int_str, G.ev_int_list, G.ev_int_tuple, G.ev_str_none, G.ev_str_bool, G.ev_str_int, G.ev_str_list, G.ev_str_tuple, G.ev_list_none, G.ev_list_bool, G.ev_list_int, G.ev_list_str, G.ev_list_tuple, G.ev_tuple_none, G.ev_tuple_bool, G.ev_tuple_int, G.ev_tuple_str, G.ev_tuple_list, G.dec_t, G.not_dec, G.k_popA, G.k_popZ, G.k_pop1, G.r_ext, G.k_ext1, G.k_ext2, G.k_ext3, G.k_ext4, G.r_items, G.k_itemsJ, G.d_listD, G.d_intI, G.d_intB, G.d_strI, G.r_subG, G.k_sub1, G.k_sub2, G.k_sub3, G.k_sub4, G.k_sub5, G.k_sub6, G.k_sub7, G.r_tupL1, G.r_tupL2, G.r_tupL3, G.r_tupL4, G.d_isB, G.d_isnB, G.d_isnN, G.d_revL, G.d_revT, G.r_permA, G.k_perm1, G.k_perm2, G.k_perm3a, G.k_perm3b, G.k_perm3c, G.k_perm3d, G.k_perm3e, Int.reduceEq, Int.reduceLE, Int.reduceLT, Int.reduceAdd, Int.reduceSub, Int.reduceMul, Int.reduceNeg, Nat.reduceAdd, List.nil_append, not_true_eq_false, not_false_eq_true, and_true, true_and, and_false, false_and, or_true, true_or, or_false, false_or, decide_true, decide_false, eq_self, Bool.and_true, Bool.and_false, $ls,*] at $h:ident)
/-! ### patterns drawn -/
def RL (r : List Int) : PyData := .list (r.map PyData.int)
def RW (r : List Int) : PyData := .tuple (r.map PyData.int)
theorem atI_in {α : Type} {enc : α → PyData} {L : List α} {z : Int} (h0 : 0 ≤ z) (h1 : z < L.length) : ∃ r ∈ L, atI (L.map enc) z = some (enc r) := by
  have hi : z.toNat < L.length := by omega
  refine ⟨L[z.toNat], List.getElem_mem hi, ?_⟩
  have := atI_nat (xs := L.map enc) (j := z.toNat) (v := enc L[z.toNat]) (by rw [List.getElem?_map, List.getElem?_eq_getElem hi]; rfl)
  rwa [show ((z.toNat : Nat) : Int) = z by omega] at this
structure Good (W : Nat) (C : Int) (r : List Int) : Prop where
  len : r.length = W
  col : ∀ c ∈ r, 0 ≤ c ∧ c < C
theorem row_drawn (s : Src) {W : Nat} {C : Int} (hW : W ≤ 12) (h0 : 0 < C) (h1 : C < 1000000) {b2 b4 b9 : B} : ∃ (s' : Src) (r : List Int), Good W C r ∧ lcL (nmG 11) yesB (callF [true, false] F__law_draw [] (aCons (fV 0) (aCons (fV 3) aNil))) [11] 0 ((List.range W).map fun i : Nat => PyData.int (0 + i)) [.prm s.d, .val (.int W), b2, .val (.int C), b4, .un, .un, .un, .un, b9, .un, .un] = some (r.map PyData.int, [.prm s'.d, .val (.int W), b2, .val (.int C), b4, .un, .un, .un, .un, b9, .un, .un]) := by
  obtain ⟨ys, ρ', yl, yP, ⟨s', rfl⟩, ye⟩ := lc_ind (enc := fun i : Nat => PyData.int (0 + i)) (t := nmG 11) (c := yesB) (fe := callF [true, false] F__law_draw [] (aCons (fV 0) (aCons (fV 3) aNil))) (vs := [11]) (fun ρ => ∃ s : Src, ρ = [.prm s.d, .val (.int W), b2, .val (.int C), b4, .un, .un, .un, .un, b9, .un, .un]) (fun y => ∃ c : Int, (0 ≤ c ∧ c < C) ∧ y = .int c) (xs := List.range W) (n := 0) ⟨s, rfl⟩ (by
    rintro x hx _ ⟨s, rfl⟩
    have e := draw_ok s (m := C) h0 (divOk_of h0 (by omega))
    refine ⟨.int (s.v C), _, ⟨s.v C, ⟨s.v_nn h0, s.v_lt h0⟩, rfl⟩, ⟨s.nx C, rfl⟩, ?_⟩
    simp? [e]) (by simp [sizeLine]; omega)
  obtain ⟨r, rfl, rl, rq⟩ := exists_map yP
  exact ⟨s', r, ⟨by rw [rl, yl, List.length_range], rq⟩, ye⟩
theorem piece_drawn (s : Src) {W H : Nat} {C : Int} (hW : W ≤ 12) (hH : H ≤ 12) (h0 : 0 < C) (h1 : C < 1000000) {b4 : B} : ∃ (s' : Src) (L : List (List Int)), L.length = H ∧ (∀ r ∈ L, Good W C r) ∧ lcL (nmG 9) yesB (lcE (rng1I (aCons (fV 1) aNil)) (nmG 11) yesB (callF [true, false] F__law_draw [] (aCons (fV 0) (aCons (fV 3) aNil))) [11]) [9] 0 ((List.range H).map fun i : Nat => PyData.int (0 + i)) [.prm s.d, .val (.int W), .val (.int H), .val (.int C), b4, .un, .un, .un, .un, .un, .un, .un] = some (L.map RL, [.prm s'.d, .val (.int W), .val (.int H), .val (.int C), b4, .un, .un, .un, .un, .un, .un, .un]) := by
  obtain ⟨ys, ρ', yl, yP, ⟨s', rfl⟩, ye⟩ := lc_ind (enc := fun i : Nat => PyData.int (0 + i)) (t := nmG 9) (c := yesB) (fe := lcE (rng1I (aCons (fV 1) aNil)) (nmG 11) yesB (callF [true, false] F__law_draw [] (aCons (fV 0) (aCons (fV 3) aNil))) [11]) (vs := [9]) (fun ρ => ∃ s : Src, ρ = [.prm s.d, .val (.int W), .val (.int H), .val (.int C), b4, .un, .un, .un, .un, .un, .un, .un]) (fun y => ∃ r : List Int, Good W C r ∧ y = RL r) (xs := List.range H) (n := 0) ⟨s, rfl⟩ (by
    rintro x hx _ ⟨s, rfl⟩
    have hr : rngOk (W : Int) = true := rngOk_nat (by omega)
    obtain ⟨s1, r, gr, e⟩ := row_drawn s hW h0 h1 (b2 := .val (.int H)) (b4 := b4) (b9 := .val (.int (0 + x)))
    refine ⟨RL r, _, ⟨r, gr, rfl⟩, ⟨s1, rfl⟩, ?_⟩
    unfold RL
    simp? [e, Int.toNat_natCast]) (by simp [sizeLine]; omega)
  obtain ⟨L, rfl, rl, rq⟩ := exists_map yP
  exact ⟨s', L, by rw [rl, yl, List.length_range], rq, ye⟩
theorem atI_good {L : List (List Int)} {W : Nat} {C : Int} (hg : ∀ r ∈ L, Good W C r) {z : Int} (h0 : 0 ≤ z) (h1 : z < L.length) : ∃ r : List Int, Good W C r ∧ atI (L.map RL) z = some (.list (r.map PyData.int)) := by
  obtain ⟨r, hr, e⟩ := atI_in (enc := RL) h0 h1
  exact ⟨r, hg r hr, e⟩
theorem Good.at {r : List Int} {W : Nat} {C : Int} (h : Good W C r) {z : Int} (h0 : 0 ≤ z) (h1 : z < W) : ∃ c : Int, (0 ≤ c ∧ c < C) ∧ atI (r.map PyData.int) z = some (.int c) := by
  obtain ⟨c, hc, e⟩ := atI_in (enc := PyData.int) (L := r) h0 (by rw [h.len]; exact h1)
  exact ⟨c, h.col c hc, e⟩
/-- a comprehension that reads one colour in each turn -/
theorem row_read {W : Nat} {C : Int} (hW : W ≤ 12) {fe : SE} {ρ : List B} (st : ∀ x : Nat, x < W → ∃ c : Int, (0 ≤ c ∧ c < C) ∧ lcL (nmG 11) yesB fe [11] 0 [PyData.int (0 + x)] ρ = some ([.int c], ρ)) : ∃ r : List Int, Good W C r ∧ lcL (nmG 11) yesB fe [11] 0 ((List.range W).map fun i : Nat => PyData.int (0 + i)) ρ = some (r.map PyData.int, ρ) := by
  obtain ⟨ys, ρ', yl, yP, rfl, ye⟩ := lc_ind (enc := fun i : Nat => PyData.int (0 + i)) (t := nmG 11) (c := yesB) (fe := fe) (vs := [11]) (fun ρ' => ρ' = ρ) (fun y => ∃ c : Int, (0 ≤ c ∧ c < C) ∧ y = .int c) (xs := List.range W) (n := 0) (ρ := ρ) rfl (by
    rintro x hx _ rfl
    obtain ⟨c, hc, e⟩ := st x (List.mem_range.mp hx)
    exact ⟨.int c, _, ⟨c, hc, rfl⟩, rfl, e⟩) (by simp [sizeLine]; omega)
  obtain ⟨r, rfl, rl, rq⟩ := exists_map yP
  exact ⟨r, ⟨by rw [rl, yl, List.length_range], rq⟩, ye⟩
theorem rowsTurn {s : Src} {W H : Nat} {C way a u : Int} {L : List (List Int)} (hW1 : 1 ≤ W) (hW : W ≤ 12) (hH1 : 1 ≤ H) (hH : H ≤ 12) (hL : L.length = H) (hg : ∀ r ∈ L, Good W C r) (ha : 1 ≤ a) (ha' : a ≤ W) (hu : 1 ≤ u) (hu' : u ≤ H) (y : Nat) (hy : y < H) (fd : List PyData) (hf : fd.length < 100) (c9 c10 : B) : ∃ (r : List Int) (c9' c10' : B), Good W C r ∧ turn (nmG 9) L1__law_rows (.int (0 + y)) [.prm s.d, .val (.int W), .val (.int H), .val (.int C), .val (.int way), .own (.list (L.map RL)), .val (.int a), .val (.int u), .own (.list fd), c9, c10, .un] = .ok (.nx [.prm s.d, .val (.int W), .val (.int H), .val (.int C), .val (.int way), .own (.list (L.map RL)), .val (.int a), .val (.int u), .own (.list (fd ++ [RW r])), c9', c10', .un]) := by
  obtain ⟨r0, g0, e0⟩ := atI_good hg (z := (0 : Int) + y) (by omega) (by omega)
  have hr : rngOk (W : Int) = true := rngOk_nat (by omega)
  have hlf : fd.length < sizeLine := lt_line (by omega)
  have hz : ∃ r, Good W C r ∧ atI (L.map RL) 0 = some (.list (r.map PyData.int)) := atI_good hg (by omega) (by omega)
  have md : ∀ z m : Int, 0 < m → 0 ≤ z.fmod m ∧ z.fmod m < m := fun z m h => ⟨Int.fmod_nonneg_of_pos _ h, Int.fmod_lt_of_pos _ h⟩
  have ha0 : a ≠ 0 := by omega
  have hu0 : u ≠ 0 := by omega
  have hW0 : (W : Int) ≠ 0 := by omega
  by_cases w1 : way = 1
  · subst w1
    obtain ⟨r1, g1, e1⟩ := atI_good hg (z := ((0 : Int) + y).fmod u) (md _ _ (by omega)).1 (by have := (md (0 + y) u (by omega)).2; omega)
    obtain ⟨r, gr, er⟩ := row_read (C := C) hW (fe := op2 ixD (op2 ixD (fV 5) (op2 modD (fV 9) (fV 7))) (op2 modD (fV 11) (fV 6))) (ρ := [.prm s.d, .val (.int W), .val (.int H), .val (.int C), .val (.int 1), .own (.list (L.map RL)), .val (.int a), .val (.int u), .own (.list fd), .val (.int (0 + y)), .val (.list (r0.map PyData.int)), .un]) (fun x hx => by
      obtain ⟨c, hc, e⟩ := g1.at (z := ((0 : Int) + x).fmod a) (md _ _ (by omega)).1 (by have := (md (0 + x) a (by omega)).2; omega)
      refine ⟨c, hc, ?_⟩
      simp? [e1, e])
    refine ⟨r, .val (.int (0 + y)), .own (.list (r.map PyData.int)), gr, ?_⟩
    unfold L1__law_rows RW
    simp? [e0, er, Int.toNat_natCast]
  by_cases w2 : way = 2
  · subst w2
    obtain ⟨r1, g1, e1⟩ := hz
    obtain ⟨r, gr, er⟩ := row_read (C := C) hW (fe := op2 ixD (op2 ixD (fV 5) (fC (.int 0))) (op2 modD (op2 addD (fV 11) (fV 9)) (fV 1))) (ρ := [.prm s.d, .val (.int W), .val (.int H), .val (.int C), .val (.int 2), .own (.list (L.map RL)), .val (.int a), .val (.int u), .own (.list fd), .val (.int (0 + y)), .val (.list (r0.map PyData.int)), .un]) (fun x hx => by
      obtain ⟨c, hc, e⟩ := g1.at (z := ((0 : Int) + x + (0 + y)).fmod W) (md _ _ (by omega)).1 (md _ _ (by omega)).2
      refine ⟨c, hc, ?_⟩
      simp? [e1, e])
    refine ⟨r, .val (.int (0 + y)), .own (.list (r.map PyData.int)), gr, ?_⟩
    unfold L1__law_rows RW
    simp? [e0, er, Int.toNat_natCast]
  by_cases w3 : way = 3
  · subst w3
    obtain ⟨r, gr, er⟩ := row_read (C := C) hW (fe := op2 ixD (op2 ixD (fV 5) (fV 9)) (opN min2D (aCons (fV 11) (aCons (op2 subD (op2 subD (fV 1) (fC (.int 1))) (fV 11)) aNil)))) (ρ := [.prm s.d, .val (.int W), .val (.int H), .val (.int C), .val (.int 3), .own (.list (L.map RL)), .val (.int a), .val (.int u), .own (.list fd), .val (.int (0 + y)), .val (.list (r0.map PyData.int)), .un]) (fun x hx => by
      obtain ⟨c, hc, e⟩ := g0.at (z := if (W : Int) - 1 - (0 + x) < 0 + x then (W : Int) - 1 - (0 + x) else 0 + x) (by split <;> omega) (by split <;> omega)
      refine ⟨c, hc, ?_⟩
      simp? [e0, e])
    refine ⟨r, .val (.int (0 + y)), .own (.list (r.map PyData.int)), gr, ?_⟩
    unfold L1__law_rows RW
    simp? [e0, er, Int.toNat_natCast]
  by_cases w4 : way = 4
  · subst w4
    obtain ⟨r1, g1, e1⟩ := atI_good hg (z := if (H : Int) - 1 - (0 + y) < 0 + y then (H : Int) - 1 - (0 + y) else 0 + y) (by split <;> omega) (by split <;> omega)
    obtain ⟨r, gr, er⟩ := row_read (C := C) hW (fe := op2 ixD (op2 ixD (fV 5) (opN min2D (aCons (fV 9) (aCons (op2 subD (op2 subD (fV 2) (fC (.int 1))) (fV 9)) aNil)))) (fV 11)) (ρ := [.prm s.d, .val (.int W), .val (.int H), .val (.int C), .val (.int 4), .own (.list (L.map RL)), .val (.int a), .val (.int u), .own (.list fd), .val (.int (0 + y)), .val (.list (r0.map PyData.int)), .un]) (fun x hx => by
      obtain ⟨c, hc, e⟩ := g1.at (z := (0 : Int) + x) (by omega) (by omega)
      refine ⟨c, hc, ?_⟩
      simp? [e1, e])
    refine ⟨r, .val (.int (0 + y)), .own (.list (r.map PyData.int)), gr, ?_⟩
    unfold L1__law_rows RW
    simp? [e0, er, Int.toNat_natCast]
  by_cases w5 : way = 5
  · subst w5
    obtain ⟨r1, g1, e1⟩ := hz
    obtain ⟨r, gr, er⟩ := row_read (C := C) hW (fe := op2 ixD (op2 ixD (fV 5) (fC (.int 0))) (fC (.int 0))) (ρ := [.prm s.d, .val (.int W), .val (.int H), .val (.int C), .val (.int 5), .own (.list (L.map RL)), .val (.int a), .val (.int u), .own (.list fd), .val (.int (0 + y)), .val (.list (r0.map PyData.int)), .un]) (fun x hx => by
      obtain ⟨c, hc, e⟩ := g1.at (z := 0) (by omega) (by omega)
      refine ⟨c, hc, ?_⟩
      simp? [e1, e])
    refine ⟨r, .val (.int (0 + y)), .own (.list (r.map PyData.int)), gr, ?_⟩
    unfold L1__law_rows RW
    simp? [e0, er, Int.toNat_natCast]
  · refine ⟨r0, .val (.int (0 + y)), .val (.list (r0.map PyData.int)), g0, ?_⟩
    unfold L1__law_rows RW
    simp? [e0, w1, w2, w3, w4, w5]
structure Pat (W H : Nat) (C : Int) (P : List (List Int)) : Prop where
  len : P.length = H
  row : ∀ r ∈ P, Good W C r
def PT (P : List (List Int)) : PyData := .tuple (P.map RW)
theorem rows_ok (s : Src) {W H : Nat} {C : Int} (hW1 : 1 ≤ W) (hW : W ≤ 12) (hH1 : 1 ≤ H) (hH : H ≤ 12) (h0 : 0 < C) (h1 : C < 1000000) : ∃ (s' : Src) (P : List (List Int)), Pat W H C P ∧ F__law_rows [.prm s.d, .val (.int W), .val (.int H), .val (.int C)] = .ok (.val (PT P), [.prm s'.d, .un, .un, .un]) := by
  have d7 := draw_ok s (m := 7) (by decide) (by decide)
  generalize s.v 7 = way at d7
  generalize s.nx 7 = s1 at d7
  obtain ⟨s2, L, hL, hg, pe⟩ := piece_drawn s1 (W := W) (H := H) (C := C) hW hH h0 h1 (b4 := .val (.int way))
  have dW := draw_ok s2 (m := (W : Int)) (by omega) (divOk_of (by omega) (by omega))
  have aW := s2.v_nn (m := (W : Int)) (by omega)
  have bW := s2.v_lt (m := (W : Int)) (by omega)
  generalize s2.v W = a at dW aW bW
  generalize s2.nx W = s3 at dW
  have dH := draw_ok s3 (m := (H : Int)) (by omega) (divOk_of (by omega) (by omega))
  have aH := s3.v_nn (m := (H : Int)) (by omega)
  have bH := s3.v_lt (m := (H : Int)) (by omega)
  generalize s3.v H = u at dH aH bH
  generalize s3.nx H = s4 at dH
  obtain ⟨ρ', fe, P, c9, c10, hP, hPg, rfl⟩ := fo_range (enc := fun i : Nat => PyData.int (0 + i)) (t := nmG 9) (b := L1__law_rows) (fun n ρ => ∃ (P : List (List Int)) (c9 c10 : B), P.length = n ∧ (∀ r ∈ P, Good W C r) ∧ ρ = [.prm s4.d, .val (.int W), .val (.int H), .val (.int C), .val (.int way), .own (.list (L.map RL)), .val (.int (1 + a)), .val (.int (1 + u)), .own (.list (P.map RW)), c9, c10, .un]) (m := H) ⟨[], .un, .un, rfl, (fun r h => by cases h), rfl⟩ (by
    rintro i hi _ ⟨P, c9, c10, hP, hPg, rfl⟩
    obtain ⟨r, c9', c10', gr, e⟩ := rowsTurn (s := s4) (way := way) (a := 1 + a) (u := 1 + u) hW1 hW hH1 hH hL hg (by omega) (by omega) (by omega) (by omega) i hi (P.map RW) (by rw [List.length_map]; omega) c9 c10
    refine ⟨_, e, P ++ [r], c9', c10', by simp [hP], ?_, by rw [List.map_append]; rfl⟩
    intro z hz
    rcases List.mem_append.mp hz with hz | hz
    · exact hPg z hz
    · rcases List.mem_singleton.mp hz with rfl
      exact gr)
  have hr : rngOk (H : Int) = true := rngOk_nat (by omega)
  rw [List.map_nil] at fe
  refine ⟨s4, P, ⟨hP, hPg⟩, ?_⟩
  rw [r__law_rows]
  unfold B__law_rows PT
  simp? [d7, pe, dW, dH, fe, Int.toNat_natCast]
theorem Pat.w {W H : Nat} {C : Int} {P : List (List Int)} (h : Pat W H C P) {r : List Int} (hr : r ∈ P) : (r.map PyData.int).length = W := by rw [List.length_map, (h.row r hr).len]
theorem is_row_ok {W : Nat} {C : Int} {r : List Int} (hW1 : 1 ≤ W) (hW : W ≤ 12) (hC : C ≤ 1000) (h : Good W C r) : F_is_row [.val (RW r)] = .ok (.val (.bool true), [.un]) := by
  have lc : ∀ b0 : B, lcL (nmG 1) yesB (callF [false, false, false] F_is_between [] (aCons (fV 1) (aCons (fC (.int 0)) (aCons (fC c_MOST_COLOUR) aNil)))) [1] 0 (r.map PyData.int) [b0, .un] = some (r.map fun _ => PyData.bool true, [b0, .un]) := fun b0 => lc_map (fun _ => PyData.bool true) (fun c hc => by
    have b := h.col c hc
    have hb : decide (0 ≤ c ∧ c ≤ 999) = true := decide_eq_true ⟨b.1, by omega⟩
    have e := is_between_ok (z := c) (a := 0) (b := 999)
    rw [hb] at e
    unfold c_MOST_COLOUR
    simp? [e]) (Nat.le_of_lt (lt_line (by rw [h.len]; omega)))
  have hb : (r.all fun _ => true) = true := by simp
  have h2 : (1 : Int) ≤ W := by omega
  have h3 : (W : Int) ≤ 12 := by omega
  rw [r_is_row]
  unfold B_is_row RW c_MOST_SIDE
  simp? [List.length_map, h.len, h2, h3, lc, hb]
theorem is_pattern_ok {W H : Nat} {C : Int} {P : List (List Int)} (hW1 : 1 ≤ W) (hW : W ≤ 12) (hH1 : 1 ≤ H) (hH : H ≤ 12) (hC : C ≤ 1000) (h : Pat W H C P) : F_is_pattern [.val (PT P)] = .ok (.val (.bool true), [.un]) := by
  have lc : ∀ b0 : B, lcL (nmG 1) yesB (callF [false] F_is_row [] (aCons (fV 1) aNil)) [1] 0 (P.map RW) [b0, .un] = some (P.map fun _ => PyData.bool true, [b0, .un]) := fun b0 => lc_map (fun _ => PyData.bool true) (fun r hr => by
    have e := is_row_ok hW1 hW hC (h.row r hr)
    unfold RW at e ⊢
    simp? [e]) (Nat.le_of_lt (lt_line (by rw [h.len]; omega)))
  obtain ⟨r0, hr0, e0⟩ := atI_in (enc := RW) (L := P) (z := 0) (by omega) (by rw [h.len]; omega)
  have lc2 : lcL (nmG 1) yesB (op2 eqD (opN lenD (aCons (fV 1) aNil)) (opN lenD (aCons (op2 ixD (fV 0) (fC (.int 0))) aNil))) [1] 0 (P.map RW) [.val (.tuple (P.map RW)), .un] = some (P.map fun _ => PyData.bool true, [.val (.tuple (P.map RW)), .un]) := lc_map (fun _ => PyData.bool true) (fun r hr => by
    unfold RW at e0 ⊢
    simp? [e0, List.length_map, (h.row r hr).len, (h.row r0 hr0).len]) (Nat.le_of_lt (lt_line (by rw [h.len]; omega)))
  have hb : (P.all fun _ => true) = true := by simp
  have h2 : (1 : Int) ≤ H := by omega
  have h3 : (H : Int) ≤ 12 := by omega
  rw [r_is_pattern]
  unfold B_is_pattern PT c_MOST_SIDE
  simp? [List.length_map, h.len, h2, h3, lc, lc2, hb]
theorem need_pattern_ok {W H : Nat} {C : Int} {P : List (List Int)} (hW1 : 1 ≤ W) (hW : W ≤ 12) (hH1 : 1 ≤ H) (hH : H ≤ 12) (hC : C ≤ 1000) (h : Pat W H C P) : F_need_pattern [.val (PT P)] = .ok (.val .none, [.un]) := by
  have e := is_pattern_ok hW1 hW hH1 hH hC h
  rw [r_need_pattern]
  unfold B_need_pattern
  simp? [e]
theorem RP.pat {W H : Nat} {C : Int} {P : List (List Int)} (hW : W ≤ 12) (hH : H ≤ 12) (hC : C ≤ 1000) (h : Pat W H C P) : RP 2 300000 (PT P) := by
  refine (RP.tup (n := 1) (z := 23100) fun d hd => ?_).mono (by decide) (by rw [List.length_map, h.len]; omega)
  obtain ⟨r, hr, rfl⟩ := List.mem_map.mp hd
  refine (RP.tup (n := 0) (z := 1921) fun d hd => ?_).mono (by decide) (by rw [h.w hr]; omega)
  obtain ⟨c, hc, rfl⟩ := List.mem_map.mp hd
  have b := (h.row r hr).col c hc
  exact RP.int (by omega)
end M
namespace M
open PySem PySem.Spec PyProof.Rows L2 G
local macro_rules
  | `(tactic| simp? [$ls,*]) => `(tactic| simp (maxSteps := 1000000) (disch := first | assumption | (simp (disch := decide +kernel) only [G.sl_nil, G.sl_cons, List.cons_append, List.nil_append, G.shN_str, G.shN_tup, G.shN_lst, G.shN_int, G.shN_bool, G.shN_none, G.shA_nil, G.shA_cons, G.b_ta, G.ky_i, G.ky_s]; done) | exact G.len_ok (by simp only [G.sl_nil, G.sl_cons]) | decide | decide +kernel | exact G.mulOk_l (by decide) | exact G.mulOk_r (by decide) | omega) only [G.rb_ok, G.rb_ex, G.rb_bad, G.rb_ite, G.lz, G.ls, G.sz, G.ss, G.r_seq, G.k_seq1, G.k_seq2, G.k_seq3, G.k_seq4, G.r_nx, G.r_bk, G.r_ct, G.r_retN, G.r_ret, G.k_ret, G.r_drop, G.k_drop, G.r_if, G.r_ife, G.k_if, G.r_asg, G.k_asg1, G.k_asg2, G.k_asg3, G.k_sl1, G.k_sl2, G.k_sh1, G.k_sh2, G.k_sh3, G.k_sh4, G.k_sh5, G.r_asgG, G.k_asgG, G.k_asgL, G.k_tg, G.r_nm, G.r_tup, G.r_tup1, G.r_tup3, G.r_tup4, G.r_nil, G.r_cons, G.r_V, G.k_V1, G.k_V2, G.k_V4, G.k_V3, G.r_C, G.p_val, G.p_fr, G.p_sl, G.pb_1, G.pb_2, G.pb_3, G.od_1, G.od_2, G.p_1, G.p_2, G.p_3, G.q_1, G.q_2, G.q_3, G.re_1, G.re_2, G.re_ite, G.st_1, G.st_2, G.st_3, G.r_op2, G.k_op2a, G.k_op2b, G.k_op2c, G.r_op1, G.k_op1, G.ob_some, G.r_said, G.k_said1, G.r_opN, G.k_opN, G.r_pk0, G.r_pk1, G.k_pk, G.r_anil, G.r_acons, G.k_acons, G.k_acons2, G.shs_v0, G.shs_v1, G.shs_v2, G.shs_v3, G.shs_v4, G.om_some, G.r_tupT, G.r_lstT, G.k_dt, G.k_dl, G.k_d1, G.k_d2, G.r_fB, G.k_fB, G.r_and, G.r_or, G.r_andV, G.r_orV, G.r_not, G.r_notV, G.k_not, G.k_notV, G.r_yes, G.r_ch, G.k_ch1, G.k_ch2, G.k_ch3, G.k_ch4, G.k_ch5, G.r_call, G.c1_nil, G.c1_t, G.c1_f, G.c1_s, G.c1_s1, G.c1_s2, G.k_ca, G.k_c1, G.k_c2, G.c2_nil, G.c2_v, G.c2_s, G.c2_s1, G.c2_s3, G.c2_s2, G.k_call, G.k_w1, G.k_w2, G.k_w3, G.k_wite, G.wb_nil, G.wb_none, G.wb_some, G.k_wb1, G.k_wb2, G.wbx_nil, G.wbx_none, G.ap_nil, G.ap_nil2, G.ap_cons, G.ma_nil, G.ma_cons, G.ds_nil, G.ds_none, G.ds_some, G.me_nil, G.me_none, G.me_some, G.ou_0, G.ou_s, G.ob_val, G.ob_own, G.ob_un, G.ob_exc, G.ob_prm, G.le_0, G.le_s, G.k_rf1, G.k_rf2, G.k_rf3, G.k_rf4, G.k_rs1, G.k_rs2, G.r_set, G.k_set1, G.k_set2, G.k_set3, G.k_set4, G.k_set5, G.k_set6, G.k_set7, G.k_set8, G.k_set9, G.r_mut, G.k_mu1, G.k_mu2, G.k_mu3, G.k_mu4, G.k_mu5, G.k_mu6, G.k_mu7, G.k_app, G.k_apps, G.r_par, G.k_par1, G.k_par2, G.k_par3, G.k_par4, G.k_par5, G.r_par3, G.k_p3a, G.k_p3b, G.r_parN, G.k_pn1, G.k_pn2, G.k_nx, G.ev_nil, G.ev_cons, G.k_ev1, G.k_ev2, G.rs_nil, G.rs_val, G.rs_fr, G.rs_sl, G.k_rsS1, G.k_rsS2, G.bn_nil, G.bn_val, G.bn_fr, G.r_rep, G.k_rp1, G.k_rp2, G.k_rp3, G.ixN_last, G.set_last, G.ix_last, G.r_for, G.k_for, G.fo_nil, G.fo_cons, G.k_fo0, G.k_fo1, G.k_fo2, G.k_fo3, G.k_fo4, G.r_turn, G.k_tu0, G.k_tu1, G.k_tu2, G.k_tu3, G.k_tu4, G.r_seqI, G.k_seqI, G.k_seqI1, G.k_seqI3, G.k_seqI5, G.k_seqI6, G.k_seqI4, G.k_seqI2, G.r_rng1, G.k_rng1, G.k_rng1b, G.r_rng2, G.k_rng2, G.k_rng2b, G.rgl_0, G.rgl_1, G.rgl_2, G.rgl_3, G.rgl_4, G.rgl_5, G.rgl_6, G.rgl_7, G.rgl_8, G.rgl_9, G.rgl_10, G.rgl_12, G.rgl_16, G.r1l_1, G.r1l_2, G.r1l_3, G.r1l_4, G.r1l_5, G.r1l_6, G.r1l_8, G.rpl_0, G.rpl_1, G.rpl_2, G.rpl_3, G.rpl_4, G.rpl_5, G.rpl_6, G.rpl_7, G.rpl_8, G.r_lc, G.k_lc, G.l_nil, G.l_cons, G.l_A, G.l_B, G.l_C, G.l_C2, G.l_C3, G.l_S1, G.l_S2, G.l_D, G.k_lc1, G.wi_nil, G.wi_cons, G.mulOk_l, G.mulOk_r, G.r_sl, G.k_sla, G.k_slb, G.k_slc, G.k_sld, G.pt_n, G.pt_s, G.k_pt, G.cu_t, G.cu_l, G.cu_1n, G.cu_2n, G.cu_n1, G.d_add, G.d_addT, G.d_addTs, G.d_addL, G.d_addLs, G.d_sub, G.d_mul, G.d_fdiv, G.d_mod, G.d_neg, G.d_cmp, G.d_ixT, G.d_ixL, G.at_0, G.at_1, G.at_2, G.at_3, G.d_lenL, G.d_lenT, G.d_tupL, G.d_tupT, G.d_all, G.k_all, G.d_any, G.k_any, G.bo_nil, G.bo_cons, G.al_nil, G.al_cons, G.al_map, G.an_nil, G.an_cons, G.an_map, G.id_b, G.bo_map, G.d_max, G.d_min, G.d_listL, G.d_listT, G.d_p18, G.d_p13, G.d_p12, G.d_is, G.d_abs, G.d_repr, G.d_eqS, G.d_neS, G.d_eqI, G.d_neI, G.d_isi, G.isy_int_none, G.isy_int_bool, G.isy_int_int, G.isy_int_str, G.isy_int_list, G.isy_int_tuple, G.isy_int_dict, G.isy_bool_none, G.isy_bool_bool, G.isy_bool_int, G.isy_bool_str, G.isy_bool_list, G.isy_bool_tuple, G.isy_bool_dict, G.isy_tuple_none, G.isy_tuple_bool, G.isy_tuple_int, G.isy_tuple_str, G.isy_tuple_list, G.isy_tuple_tuple, G.isy_tuple_dict, G.isy_list_none, G.isy_list_bool, G.isy_list_int, G.isy_list_str, G.isy_list_list, G.isy_list_tuple, G.isy_list_dict, G.isy_str_none, G.isy_str_bool, G.isy_str_int, G.isy_str_str, G.isy_str_list, G.isy_str_tuple, G.isy_str_dict, G.isy_dict_none, G.isy_dict_bool, G.isy_dict_int, G.isy_dict_str, G.isy_dict_list, G.isy_dict_tuple, G.isy_dict_dict, G.it_t, G.it_f, G.b_tt, G.b_ft, G.b_nt, G.b_nf, G.b_ta, G.b_fa, G.b_at, G.b_to, G.b_fo, G.lI_0, G.lI_1, G.lI_2, G.lI_3, G.lI_4, G.lI_5, G.lI_m, G.bs_f, G.es_f, G.bb_tt, G.bb_tf, G.bb_ft, G.bb_ff, G.bq_s, G.r_dic, G.k_dic1, G.k_dic2, G.k_dic3, G.k_dic4, G.k_kD1, G.k_kD2, G.k_fl0, G.k_fl1, G.k_pr0, G.k_pr1, G.k_pr2, G.r_dic0, G.d_ixDi, G.d_ixDs, G.d_inGT, G.d_inGL, G.d_ninGT, G.d_ninGL, G.d_inGi, G.d_ninGi, G.k_vals, G.k_items, G.d_setDi, G.dg_nil, G.dg_i, G.dg_s, G.mg_0, G.mg_s, G.dpk_n, G.ky_i, G.ky_s, G.d_eqX, G.d_neX, G.d_inT, G.d_inL, G.d_ninT, G.d_ninL, G.ev_ii, G.ev_bb, G.ev_ss, G.ev_nn, G.ev_tt, G.ev_ll, G.ev_0, G.ev_c, G.ev_c0, G.ev_0c, G.ev_none_bool, G.ev_none_int, G.ev_none_str, G.ev_none_list, G.ev_none_tuple, G.ev_bool_none, G.ev_bool_str, G.ev_bool_list, G.ev_bool_tuple, G.ev_int_none, G.ev_int_str, G.ev_int_list, G.ev_int_tuple, G.ev_str_none, G.ev_str_bool, G.ev_str_int, G.ev_str_list, G.ev_str_tuple, G.ev_list_none, G.ev_list_bool, G.ev_list_int, G.ev_list_str, G.ev_list_tuple, G.ev_tuple_none, G.ev_tuple_bool, G.ev_tuple_int, G.ev_tuple_str, G.ev_tuple_list, G.dec_t, G.not_dec, G.k_popA, G.k_popZ, G.k_pop1, G.r_ext, G.k_ext1, G.k_ext2, G.k_ext3, G.k_ext4, G.r_items, G.k_itemsJ, G.d_listD, G.d_intI, G.d_intB, G.d_strI, G.r_subG, G.k_sub1, G.k_sub2, G.k_sub3, G.k_sub4, G.k_sub5, G.k_sub6, G.k_sub7, G.r_tupL1, G.r_tupL2, G.r_tupL3, G.r_tupL4, G.d_isB, G.d_isnB, G.d_isnN, G.d_revL, G.d_revT, G.r_permA, G.k_perm1, G.k_perm2, G.k_perm3a, G.k_perm3b, G.k_perm3c, G.k_perm3d, G.k_perm3e, Int.reduceEq, Int.reduceLE, Int.reduceLT, Int.reduceAdd, Int.reduceSub, Int.reduceMul, Int.reduceNeg, Nat.reduceAdd, List.nil_append, not_true_eq_false, not_false_eq_true, and_true, true_and, and_false, false_and, or_true, true_or, or_false, false_or, decide_true, decide_false, eq_self, Bool.and_true, Bool.and_false, $ls,*])
  | `(tactic| simp? [$ls,*] at $h:ident) => `(tactic| simp (maxSteps := 1000000) (disch := first | assumption | (simp (disch := decide +kernel) only [G.sl_nil, G.sl_cons, List.cons_append, List.nil_append, G.shN_str, G.shN_tup, G.shN_lst, G.shN_int, G.shN_bool, G.shN_none, G.shA_nil, G.shA_cons, G.b_ta, G.ky_i, G.ky_s]; done) | exact G.len_ok (by simp only [G.sl_nil, G.sl_cons]) | decide | decide +kernel | exact G.mulOk_l (by decide) | exact G.mulOk_r (by decide) | omega) only [G.rb_ok, G.rb_ex, G.rb_bad, G.rb_ite, G.lz, G.ls, G.sz, G.ss, G.r_seq, G.k_seq1, G.k_seq2, G.k_seq3, G.k_seq4, G.r_nx, G.r_bk, G.r_ct, G.r_retN, G.r_ret, G.k_ret, G.r_drop, G.k_drop, G.r_if, G.r_ife, G.k_if, G.r_asg, G.k_asg1, G.k_asg2, G.k_asg3, G.k_sl1, G.k_sl2, G.k_sh1, G.k_sh2, G.k_sh3, G.k_sh4, G.k_sh5, G.r_asgG, G.k_asgG, G.k_asgL, G.k_tg, G.r_nm, G.r_tup, G.r_tup1, G.r_tup3, G.r_tup4, G.r_nil, G.r_cons, G.r_V, G.k_V1, G.k_V2, G.k_V4, G.k_V3, G.r_C, G.p_val, G.p_fr, G.p_sl, G.pb_1, G.pb_2, G.pb_3, G.od_1, G.od_2, G.p_1, G.p_2, G.p_3, G.q_1, G.q_2, G.q_3, G.re_1, G.re_2, G.re_ite, G.st_1, G.st_2, G.st_3, G.r_op2, G.k_op2a, G.k_op2b, G.k_op2c, G.r_op1, G.k_op1, G.ob_some, G.r_said, G.k_said1, G.r_opN, G.k_opN, G.r_pk0, G.r_pk1, G.k_pk, G.r_anil, G.r_acons, G.k_acons, G.k_acons2, G.shs_v0, G.shs_v1, G.shs_v2, G.shs_v3, G.shs_v4, G.om_some, G.r_tupT, G.r_lstT, G.k_dt, G.k_dl, G.k_d1, G.k_d2, G.r_fB, G.k_fB, G.r_and, G.r_or, G.r_andV, G.r_orV, G.r_not, G.r_notV, G.k_not, G.k_notV, G.r_yes, G.r_ch, G.k_ch1, G.k_ch2, G.k_ch3, G.k_ch4, G.k_ch5, G.r_call, G.c1_nil, G.c1_t, G.c1_f, G.c1_s, G.c1_s1, G.c1_s2, G.k_ca, G.k_c1, G.k_c2, G.c2_nil, G.c2_v, G.c2_s, G.c2_s1, G.c2_s3, G.c2_s2, G.k_call, G.k_w1, G.k_w2, G.k_w3, G.k_wite, G.wb_nil, G.wb_none, G.wb_some, G.k_wb1, G.k_wb2, G.wbx_nil, G.wbx_none, G.ap_nil, G.ap_nil2, G.ap_cons, G.ma_nil, G.ma_cons, G.ds_nil, G.ds_none, G.ds_some, G.me_nil, G.me_none, G.me_some, G.ou_0, G.ou_s, G.ob_val, G.ob_own, G.ob_un, G.ob_exc, G.ob_prm, G.le_0, G.le_s, G.k_rf1, G.k_rf2, G.k_rf3, G.k_rf4, G.k_rs1, G.k_rs2, G.r_set, G.k_set1, G.k_set2, G.k_set3, G.k_set4, G.k_set5, G.k_set6, G.k_set7, G.k_set8, G.k_set9, G.r_mut, G.k_mu1, G.k_mu2, G.k_mu3, G.k_mu4, G.k_mu5, G.k_mu6, G.k_mu7, G.k_app, G.k_apps, G.r_par, G.k_par1, G.k_par2, G.k_par3, G.k_par4, G.k_par5, G.r_par3, G.k_p3a, G.k_p3b, G.r_parN, G.k_pn1, G.k_pn2, G.k_nx, G.ev_nil, G.ev_cons, G.k_ev1, G.k_ev2, G.rs_nil, G.rs_val, G.rs_fr, G.rs_sl, G.k_rsS1, G.k_rsS2, G.bn_nil, G.bn_val, G.bn_fr, G.r_rep, G.k_rp1, G.k_rp2, G.k_rp3, G.ixN_last, G.set_last, G.ix_last, G.r_for, G.k_for, G.fo_nil, G.fo_cons, G.k_fo0, G.k_fo1, G.k_fo2, G.k_fo3, G.k_fo4, G.r_turn, G.k_tu0, G.k_tu1, G.k_tu2, G.k_tu3, G.k_tu4, G.r_seqI, G.k_seqI, G.k_seqI1, G.k_seqI3, G.k_seqI5, G.k_seqI6, G.k_seqI4, G.k_seqI2, G.r_rng1, G.k_rng1, G.k_rng1b, G.r_rng2, G.k_rng2, G.k_rng2b, G.rgl_0, G.rgl_1, G.rgl_2, G.rgl_3, G.rgl_4, G.rgl_5, G.rgl_6, G.rgl_7, G.rgl_8, G.rgl_9, G.rgl_10, G.rgl_12, G.rgl_16, G.r1l_1, G.r1l_2, G.r1l_3, G.r1l_4, G.r1l_5, G.r1l_6, G.r1l_8, G.rpl_0, G.rpl_1, G.rpl_2, G.rpl_3, G.rpl_4, G.rpl_5, G.rpl_6, G.rpl_7, G.rpl_8, G.r_lc, G.k_lc, G.l_nil, G.l_cons, G.l_A, G.l_B, G.l_C, G.l_C2, G.l_C3, G.l_S1, G.l_S2, G.l_D, G.k_lc1, G.wi_nil, G.wi_cons, G.mulOk_l, G.mulOk_r, G.r_sl, G.k_sla, G.k_slb, G.k_slc, G.k_sld, G.pt_n, G.pt_s, G.k_pt, G.cu_t, G.cu_l, G.cu_1n, G.cu_2n, G.cu_n1, G.d_add, G.d_addT, G.d_addTs, G.d_addL, G.d_addLs, G.d_sub, G.d_mul, G.d_fdiv, G.d_mod, G.d_neg, G.d_cmp, G.d_ixT, G.d_ixL, G.at_0, G.at_1, G.at_2, G.at_3, G.d_lenL, G.d_lenT, G.d_tupL, G.d_tupT, G.d_all, G.k_all, G.d_any, G.k_any, G.bo_nil, G.bo_cons, G.al_nil, G.al_cons, G.al_map, G.an_nil, G.an_cons, G.an_map, G.id_b, G.bo_map, G.d_max, G.d_min, G.d_listL, G.d_listT, G.d_p18, G.d_p13, G.d_p12, G.d_is, G.d_abs, G.d_repr, G.d_eqS, G.d_neS, G.d_eqI, G.d_neI, G.d_isi, G.isy_int_none, G.isy_int_bool, G.isy_int_int, G.isy_int_str, G.isy_int_list, G.isy_int_tuple, G.isy_int_dict, G.isy_bool_none, G.isy_bool_bool, G.isy_bool_int, G.isy_bool_str, G.isy_bool_list, G.isy_bool_tuple, G.isy_bool_dict, G.isy_tuple_none, G.isy_tuple_bool, G.isy_tuple_int, G.isy_tuple_str, G.isy_tuple_list, G.isy_tuple_tuple, G.isy_tuple_dict, G.isy_list_none, G.isy_list_bool, G.isy_list_int, G.isy_list_str, G.isy_list_list, G.isy_list_tuple, G.isy_list_dict, G.isy_str_none, G.isy_str_bool, G.isy_str_int, G.isy_str_str, G.isy_str_list, G.isy_str_tuple, G.isy_str_dict, G.isy_dict_none, G.isy_dict_bool, G.isy_dict_int, G.isy_dict_str, G.isy_dict_list, G.isy_dict_tuple, G.isy_dict_dict, G.it_t, G.it_f, G.b_tt, G.b_ft, G.b_nt, G.b_nf, G.b_ta, G.b_fa, G.b_at, G.b_to, G.b_fo, G.lI_0, G.lI_1, G.lI_2, G.lI_3, G.lI_4, G.lI_5, G.lI_m, G.bs_f, G.es_f, G.bb_tt, G.bb_tf, G.bb_ft, G.bb_ff, G.bq_s, G.r_dic, G.k_dic1, G.k_dic2, G.k_dic3, G.k_dic4, G.k_kD1, G.k_kD2, G.k_fl0, G.k_fl1, G.k_pr0, G.k_pr1, G.k_pr2, G.r_dic0, G.d_ixDi, G.d_ixDs, G.d_inGT, G.d_inGL, G.d_ninGT, G.d_ninGL, G.d_inGi, G.d_ninGi, G.k_vals, G.k_items, G.d_setDi, G.dg_nil, G.dg_i, G.dg_s, G.mg_0, G.mg_s, G.dpk_n, G.ky_i, G.ky_s, G.d_eqX, G.d_neX, G.d_inT, G.d_inL, G.d_ninT, G.d_ninL, G.ev_ii, G.ev_bb, G.ev_ss, G.ev_nn, G.ev_tt, G.ev_ll, G.ev_0, G.ev_c, G.ev_c0, G.ev_0c, G.ev_none_bool, G.ev_none_int, G.ev_none_str, G.ev_none_list, G.ev_none_tuple, G.ev_bool_none, G.ev_bool_str, G.ev_bool_list, G.ev_bool_tuple, G.ev_int_none, G.ev_int_str, G.ev_int_list, G.ev_int_tuple, G.ev_str_none, G.ev_str_bool, G.ev_str_int, G.ev_str_list, G.ev_str_tuple, G.ev_list_none, G.ev_list_bool, G.ev_list_int, G.ev_list_str, G.ev_list_tuple, G.ev_tuple_none, G.ev_tuple_bool, G.ev_tuple_int, G.ev_tuple_str, G.ev_tuple_list, G.dec_t, G.not_dec, G.k_popA, G.k_popZ, G.k_pop1, G.r_ext, G.k_ext1, G.k_ext2, G.k_ext3, G.k_ext4, G.r_items, G.k_itemsJ, G.d_listD, G.d_intI, G.d_intB, G.d_strI, G.r_subG, G.k_sub1, G.k_sub2, G.k_sub3, G.k_sub4, G.k_sub5, G.k_sub6, G.k_sub7, G.r_tupL1, G.r_tupL2, G.r_tupL3, G.r_tupL4, G.d_isB, G.d_isnB, G.d_isnN, G.d_revL, G.d_revT, G.r_permA, G.k_perm1, G.k_perm2, G.k_perm3a, G.k_perm3b, G.k_perm3c, G.k_perm3d, G.k_perm3e, Int.reduceEq, Int.reduceLE, Int.reduceLT, Int.reduceAdd, Int.reduceSub, Int.reduceMul, Int.reduceNeg, Nat.reduceAdd, List.nil_append, not_true_eq_false, not_false_eq_true, and_true, true_and, and_false, false_and, or_true, true_or, or_false, false_or, decide_true, decide_false, eq_self, Bool.and_true, Bool.and_false, $ls,*] at $h:ident)
/-! ### the colours of a pattern as a function -/
def colr (W H : Nat) (P : List (List Int)) (x y : Int) : Int := (P.getD (y.fmod H).toNat []).getD (x.fmod W).toNat 0
theorem atI_getD {α : Type} {enc : α → PyData} {L : List α} {z : Int} {d : α} (h0 : 0 ≤ z) (h1 : z < L.length) : atI (L.map enc) z = some (enc (L.getD z.toNat d)) := by
  have hi : z.toNat < L.length := by omega
  have := atI_nat (xs := L.map enc) (j := z.toNat) (v := enc (L.getD z.toNat d)) (by rw [List.getElem?_map, List.getD_eq_getElem?_getD, List.getElem?_eq_getElem hi]; rfl)
  rwa [show ((z.toNat : Nat) : Int) = z by omega] at this
theorem getD_mem {α : Type} {L : List α} {n : Nat} {d : α} (h : n < L.length) : L.getD n d ∈ L := by
  rw [List.getD_eq_getElem?_getD, List.getElem?_eq_getElem h]
  exact List.getElem_mem h
theorem colour_eq {W H : Nat} {C : Int} {P : List (List Int)} (hW1 : 1 ≤ W) (hW : W ≤ 12) (hH1 : 1 ≤ H) (hH : H ≤ 12) (hC : C ≤ 1000) (h : Pat W H C P) (x y : Int) : F_colour_by [.val (PT P), .val (SQ x y)] = .ok (.val (.int (colr W H P x y)), [.un, .un]) ∧ F__law_colour [.val (PT P), .val (SQ x y)] = .ok (.val (.int (colr W H P x y)), [.un, .un]) := by
  have y0 := Int.fmod_nonneg_of_pos y (b := (H : Int)) (by omega)
  have y1 := Int.fmod_lt_of_pos y (b := (H : Int)) (by omega)
  have x0 := Int.fmod_nonneg_of_pos x (b := (W : Int)) (by omega)
  have x1 := Int.fmod_lt_of_pos x (b := (W : Int)) (by omega)
  have er := atI_getD (enc := RW) (L := P) (d := []) y0 (by rw [h.len]; exact y1)
  have gr := h.row _ (getD_mem (L := P) (n := (y.fmod H).toNat) (d := []) (by rw [h.len]; omega))
  have ec := atI_getD (enc := PyData.int) (L := P.getD (y.fmod H).toNat []) (d := 0) x0 (by rw [gr.len]; exact x1)
  have gl := gr.len
  have hW0 : (W : Int) ≠ 0 := by omega
  have hH0 : (H : Int) ≠ 0 := by omega
  unfold colr
  generalize (P.getD (y.fmod H).toNat []).getD (x.fmod W).toNat 0 = c at ec
  generalize P.getD (y.fmod H).toNat [] = r at er ec gl
  unfold RW at er
  constructor
  · rw [r_colour_by]
    unfold B_colour_by PT RW
    simp? [List.length_map, h.len, gl, er, ec]
  · rw [r__law_colour]
    unfold B__law_colour PT RW
    simp? [List.length_map, h.len, gl, er, ec]
theorem fmod_addm (x a : Int) {W : Nat} (h : 1 ≤ W) : (x + W * a).fmod W = x.fmod W := by
  rw [Int.fmod_eq_emod_of_nonneg _ (by omega), Int.fmod_eq_emod_of_nonneg _ (by omega), Int.add_mul_emod_self_left]
theorem colr_per {W H : Nat} (hW : 1 ≤ W) (hH : 1 ≤ H) (P : List (List Int)) (x y a b : Int) : colr W H P (x + W * a) (y + H * b) = colr W H P x y := by
  unfold colr
  rw [fmod_addm x a hW, fmod_addm y b hH]
/-- a symmetry keeps the colours of all squares -/
def Keeps (W H : Nat) (P : List (List Int)) (s : Sym) : Prop := ∀ x y : Int, colr W H P (s.im (x, y)).1 (s.im (x, y)).2 = colr W H P x y
/-- one copy of the rows -/
def Agrees (W H : Nat) (P : List (List Int)) (s : Sym) : Prop := ∀ x y : Int, 0 ≤ x → x < W → 0 ≤ y → y < H → colr W H P (s.im (x, y)).1 (s.im (x, y)).2 = colr W H P x y
theorem im_def (s : Sym) (x y : Int) : s.im (x, y) = (s.k.u x y + s.x, s.k.v x y + s.y) := rfl
theorem split_fmod (x : Int) {W : Nat} (h : 1 ≤ W) : ∃ r a : Int, 0 ≤ r ∧ r < W ∧ x = r + W * a :=
  ⟨x.fmod W, x.fdiv W, Int.fmod_nonneg_of_pos _ (by omega), Int.fmod_lt_of_pos _ (by omega), by have := Int.fmod_add_mul_fdiv x W; omega⟩
/-- a shift that agrees on one copy agrees everywhere -/
theorem Agrees.shift {W H : Nat} (hW : 1 ≤ W) (hH : 1 ≤ H) {P : List (List Int)} {u v : Int} (h : Agrees W H P ⟨.k0, u, v⟩) : ∀ x y, colr W H P (x + u) (y + v) = colr W H P x y := by
  intro x y
  obtain ⟨r, a, r0, r1, rfl⟩ := split_fmod x hW
  obtain ⟨q, b, q0, q1, rfl⟩ := split_fmod y hH
  have e := h r q r0 r1 q0 q1
  have e' : colr W H P (r + u) (q + v) = colr W H P r q := e
  rw [colr_per hW hH, ← e', show r + W * a + u = (r + u) + W * a by omega, show q + H * b + v = (q + v) + H * b by omega, colr_per hW hH]
theorem shift_scale {W H : Nat} {P : List (List Int)} {u v : Int} (h : ∀ x y, colr W H P (x + u) (y + v) = colr W H P x y) (a : Int) : ∀ x y, colr W H P (x + u * a) (y + v * a) = colr W H P x y := by
  have nat : ∀ (n : Nat) (x y : Int), colr W H P (x + u * n) (y + v * n) = colr W H P x y := by
    intro n
    induction n with
    | zero => intro x y; simp
    | succ n ih =>
      intro x y
      rw [show x + u * ((n + 1 : Nat) : Int) = (x + u * n) + u by rw [Int.natCast_add, Int.mul_add]; simp; omega, show y + v * ((n + 1 : Nat) : Int) = (y + v * n) + v by rw [Int.natCast_add, Int.mul_add]; simp; omega, h, ih]
  intro x y
  by_cases q : 0 ≤ a
  · have := nat a.toNat x y
    rwa [show ((a.toNat : Nat) : Int) = a by omega] at this
  · have := nat (-a).toNat (x + u * a) (y + v * a)
    rw [show (((-a).toNat : Nat) : Int) = -a by omega] at this
    rw [← this]
    congr 1 <;> rw [Int.mul_neg] <;> omega
theorem Kd.u_lin (k : Kd) (w h a b : Int) : k.u (w * a) (h * b) = k.u w 0 * a + k.u 0 h * b := by cases k <;> simp [Kd.u, Int.neg_mul] <;> omega
theorem Kd.v_lin (k : Kd) (w h a b : Int) : k.v (w * a) (h * b) = k.v w 0 * a + k.v 0 h * b := by cases k <;> simp [Kd.v, Int.neg_mul] <;> omega
theorem Kd.u_scale (k : Kd) (l a b : Int) : k.u (l * a) (l * b) = l * k.u a b := by cases k <;> simp [Kd.u, Int.mul_neg]
theorem Kd.v_scale (k : Kd) (l a b : Int) : k.v (l * a) (l * b) = l * k.v a b := by cases k <;> simp [Kd.v, Int.mul_neg]
theorem im_add (s : Sym) (x y a b : Int) : s.im (x + a, y + b) = ((s.im (x, y)).1 + s.k.u a b, (s.im (x, y)).2 + s.k.v a b) := by
  rw [im_def, im_def, Kd.u_add, Kd.v_add]
  dsimp only
  congr 1 <;> omega
theorem keeps_of {W H : Nat} (hW : 1 ≤ W) (hH : 1 ≤ H) {P : List (List Int)} {s : Sym} (h1 : Agrees W H P ⟨.k0, s.k.u W 0, s.k.v W 0⟩) (h2 : Agrees W H P ⟨.k0, s.k.u 0 H, s.k.v 0 H⟩) (h3 : Agrees W H P s) : Keeps W H P s := by
  intro x y
  obtain ⟨r, a, r0, r1, rfl⟩ := split_fmod x hW
  obtain ⟨q, b, q0, q1, rfl⟩ := split_fmod y hH
  rw [colr_per hW hH, ← h3 r q r0 r1 q0 q1, im_add, Kd.u_lin, Kd.v_lin]
  dsimp only
  rw [← Int.add_assoc, ← Int.add_assoc, shift_scale (h2.shift hW hH) b, shift_scale (h1.shift hW hH) a]
theorem Keeps.shift {W H : Nat} {P : List (List Int)} {s : Sym} (h : Keeps W H P s) {a b : Int} (hp : ∀ x y, colr W H P (x + a) (y + b) = colr W H P x y) : Agrees W H P ⟨.k0, s.k.u a b, s.k.v a b⟩ := by
  have key : ∀ p : Int × Int, colr W H P ((s.im p).1 + s.k.u a b) ((s.im p).2 + s.k.v a b) = colr W H P (s.im p).1 (s.im p).2 := by
    rintro ⟨x, y⟩
    have e := h (x + a) (y + b)
    rw [im_add] at e
    rw [e, hp, h x y]
  intro x y _ _ _ _
  have e := key (s.inv.im (x, y))
  rw [← Sym.im_mul, Sym.inv_mul] at e
  have o : Sym.one.im (x, y) = (x, y) := by simp [im_def, Sym.one, Kd.u, Kd.v]
  rw [o] at e
  exact e
theorem Keeps.parts {W H : Nat} (hW : 1 ≤ W) (hH : 1 ≤ H) {P : List (List Int)} {s : Sym} (h : Keeps W H P s) : Agrees W H P ⟨.k0, s.k.u W 0, s.k.v W 0⟩ ∧ Agrees W H P ⟨.k0, s.k.u 0 H, s.k.v 0 H⟩ ∧ Agrees W H P s := by
  refine ⟨h.shift fun x y => ?_, h.shift fun x y => ?_, fun x y _ _ _ _ => h x y⟩
  · have := colr_per hW hH P x y 1 0
    simpa using this
  · have := colr_per hW hH P x y 0 1
    simpa using this
theorem keeps_law {W H L m n : Nat} (hW : 1 ≤ W) (hH : 1 ≤ H) (hL : 1 ≤ L) (hm : L = W * m) (hn : L = H * n) {P : List (List Int)} {s : Sym} (h : ∀ x y : Int, 0 ≤ x → x < L → 0 ≤ y → y < L → colr W H P (s.im (x, y)).1 (s.im (x, y)).2 = colr W H P x y) : Keeps W H P s := by
  intro x y
  obtain ⟨r, a, r0, r1, rfl⟩ := split_fmod x hL
  obtain ⟨q, b, q0, q1, rfl⟩ := split_fmod y hL
  have per : ∀ x y a b : Int, colr W H P (x + L * a) (y + L * b) = colr W H P x y := fun x y a b => by
    rw [show (L : Int) * a = W * (m * a) by rw [hm, Int.natCast_mul, Int.mul_assoc], show (L : Int) * b = H * (n * b) by rw [hn, Int.natCast_mul, Int.mul_assoc], colr_per hW hH]
  rw [per, ← h r q r0 r1 q0 q1, im_add, Kd.u_scale, Kd.v_scale]
  exact per _ _ _ _
/-! ### agrees, keeps -/
def enI (p : Int × Nat) : PyData := .tuple [.int p.2, .int p.1]
def enR (p : List Int × Nat) : PyData := .tuple [.int p.2, RW p.1]
theorem enD_map {α : Type} {enc : α → PyData} {L : List α} : enD (L.map enc) = L.zipIdx.map fun p => PyData.tuple [.int p.2, enc p.1] := by
  unfold enD
  rw [List.zipIdx_map, List.map_map]
  rfl
def okAt (W H : Nat) (P : List (List Int)) (s : Sym) (x y : Nat) : Bool := decide (colr W H P (s.im ((x : Int), (y : Int))).1 (s.im ((x : Int), (y : Int))).2 = colr W H P x y)
theorem colr_in {W H : Nat} {C : Int} {P : List (List Int)} (h : Pat W H C P) {r : List Int} {c : Int} {x y : Nat} (hr : P[y]? = some r) (hc : r[x]? = some c) : colr W H P x y = c := by
  have hy : y < H := by rw [← h.len]; exact (List.getElem?_eq_some_iff.mp hr).1
  have hx : x < W := by rw [← (h.row r (List.mem_of_getElem? hr)).len]; exact (List.getElem?_eq_some_iff.mp hc).1
  unfold colr
  rw [Int.fmod_eq_emod_of_nonneg _ (by omega), Int.fmod_eq_emod_of_nonneg _ (by omega), Int.emod_eq_of_lt (by omega) (by omega), Int.emod_eq_of_lt (by omega) (by omega), Int.toNat_natCast, Int.toNat_natCast, List.getD_eq_getElem?_getD, List.getD_eq_getElem?_getD, hr]
  show (r[x]?).getD 0 = c
  rw [hc]
  rfl
theorem agrees_row {W H : Nat} {C : Int} {P : List (List Int)} (hW1 : 1 ≤ W) (hW : W ≤ 12) (hH1 : 1 ≤ H) (hH : H ≤ 12) (hC : C ≤ 1000) (h : Pat W H C P) (s : Sym) {r : List Int} {y : Nat} (hr : P[y]? = some r) (b3 : B) (c4 c5 : B) : ∃ c4' c5' : B, forL (tupG 2 (consG (nmG 4) (consG (nmG 5) nilG))) L1_agrees (r.zipIdx.map enI) [.val (PT P), .val s.d, .val (.int y), b3, c4, c5] = (if r.zipIdx.all (fun p => okAt W H P s p.2 y) = true then .ok (.nx [.val (PT P), .val s.d, .val (.int y), b3, c4', c5']) else .ok (.rt (.val (.bool false)) [.val (PT P), .val s.d, .val (.int y), b3, c4', c5'])) := by
  obtain ⟨ρ', e, c4', c5', rfl⟩ := fo_all (enc := enI) (t := tupG 2 (consG (nmG 4) (consG (nmG 5) nilG))) (b := L1_agrees) (fun ρ => ∃ c4 c5 : B, ρ = [.val (PT P), .val s.d, .val (.int y), b3, c4, c5]) (fun p => okAt W H P s p.2 y) (.val (.bool false)) (xs := r.zipIdx) ⟨c4, c5, rfl⟩ (by
    rintro ⟨c, x⟩ hx _ ⟨c4, c5, rfl⟩
    have hc : r[x]? = some c := List.mk_mem_zipIdx_iff_getElem?.mp hx
    have cc := colr_in h hr hc
    have im := image_of_ok (k := s.k) (x := s.x) (y := s.y) (a := (x : Int)) (b := (y : Int))
    have ce := (colour_eq hW1 hW hH1 hH hC h (s.k.u x y + s.x) (s.k.v x y + s.y)).1
    refine ⟨_, ?_, .val (.int x), .val (.int c), rfl⟩
    unfold L1_agrees enI okAt
    dsimp only
    rw [im_def, cc]
    dsimp only
    simp? [im, ce]
    generalize colr W H P (s.k.u x y + s.x) (s.k.v x y + s.y) = z
    by_cases q : z = c
    · simp? [q]
    · simp? [q])
  exact ⟨c4', c5', e⟩
def agreesB (W H : Nat) (P : List (List Int)) (s : Sym) : Bool := P.zipIdx.all fun q => q.1.zipIdx.all fun p => okAt W H P s p.2 q.2
theorem agrees_ok {W H : Nat} {C : Int} {P : List (List Int)} (hW1 : 1 ≤ W) (hW : W ≤ 12) (hH1 : 1 ≤ H) (hH : H ≤ 12) (hC : C ≤ 1000) (h : Pat W H C P) (s : Sym) : F_agrees [.val (PT P), .val s.d] = .ok (.val (.bool (agreesB W H P s)), [.un, .un]) := by
  obtain ⟨ρ', e, c2', c3', c4', c5', rfl⟩ := fo_all (enc := enR) (t := tupG 2 (consG (nmG 2) (consG (nmG 3) nilG))) (b := L2_agrees) (fun ρ => ∃ c2 c3 c4 c5 : B, ρ = [.val (PT P), .val s.d, c2, c3, c4, c5]) (fun q => q.1.zipIdx.all fun p => okAt W H P s p.2 q.2) (.val (.bool false)) (xs := P.zipIdx) (ρ := [.val (PT P), .val s.d, .un, .un, .un, .un]) ⟨_, _, _, _, rfl⟩ (by
    rintro ⟨r, y⟩ hx _ ⟨c2, c3, c4, c5, rfl⟩
    have hr : P[y]? = some r := List.mk_mem_zipIdx_iff_getElem?.mp hx
    obtain ⟨c4', c5', e⟩ := agrees_row hW1 hW hH1 hH hC h s hr (.val (RW r)) c4 c5
    refine ⟨_, ?_, .val (.int y), .val (RW r), c4', c5', rfl⟩
    have en : enD (r.map PyData.int) = r.zipIdx.map enI := enD_map
    unfold L2_agrees enR
    dsimp only
    unfold RW at e ⊢
    simp? [en, e])
  have en : enD (P.map RW) = P.zipIdx.map enR := enD_map
  rw [r_agrees]
  unfold B_agrees agreesB
  unfold PT at e ⊢
  simp? [en, e]
  by_cases q : (P.zipIdx.all fun q => q.1.zipIdx.all fun p => okAt W H P s p.2 q.2) = true
  · rw [if_pos q, q]
  · rw [if_neg q, (Bool.not_eq_true _).mp q]
theorem agreesB_iff {W H : Nat} {C : Int} {P : List (List Int)} (h : Pat W H C P) (s : Sym) : agreesB W H P s = true ↔ Agrees W H P s := by
  unfold agreesB Agrees
  rw [List.all_eq_true]
  constructor
  · intro a x y x0 x1 y0 y1
    have hy : y.toNat < P.length := by rw [h.len]; omega
    have hr : P[y.toNat]? = some P[y.toNat] := List.getElem?_eq_getElem hy
    have gl := (h.row _ (List.getElem_mem hy)).len
    have hx : x.toNat < P[y.toNat].length := by rw [gl]; omega
    have b := a (P[y.toNat], y.toNat) (List.mk_mem_zipIdx_iff_getElem?.mpr hr)
    rw [List.all_eq_true] at b
    have c := b (P[y.toNat][x.toNat], x.toNat) (List.mk_mem_zipIdx_iff_getElem?.mpr (List.getElem?_eq_getElem hx))
    unfold okAt at c
    have d := of_decide_eq_true c
    rwa [show ((x.toNat : Nat) : Int) = x by omega, show ((y.toNat : Nat) : Int) = y by omega] at d
  · rintro a ⟨r, y⟩ hy
    have hr : P[y]? = some r := List.mk_mem_zipIdx_iff_getElem?.mp hy
    rw [List.all_eq_true]
    rintro ⟨c, x⟩ hx
    have hc : r[x]? = some c := List.mk_mem_zipIdx_iff_getElem?.mp hx
    have hyl : y < H := by rw [← h.len]; exact (List.getElem?_eq_some_iff.mp hr).1
    have hxl : x < W := by rw [← (h.row r (List.mem_of_getElem? hr)).len]; exact (List.getElem?_eq_some_iff.mp hc).1
    exact decide_eq_true (a x y (by omega) (by omega) (by omega) (by omega))
def keepsB (W H : Nat) (P : List (List Int)) (s : Sym) : Bool := agreesB W H P ⟨.k0, s.k.u W 0, s.k.v W 0⟩ && (agreesB W H P ⟨.k0, s.k.u 0 H, s.k.v 0 H⟩ && agreesB W H P s)
theorem pat0 {W H : Nat} {C : Int} {P : List (List Int)} (hH1 : 1 ≤ H) (h : Pat W H C P) : ∃ r0 : List Int, r0.length = W ∧ atI (P.map RW) 0 = some (.tuple (r0.map PyData.int)) := by
  obtain ⟨r0, hr, e⟩ := atI_in (enc := RW) (L := P) (z := 0) (by omega) (by rw [h.len]; omega)
  exact ⟨r0, (h.row r0 hr).len, e⟩
theorem keeps_ok {W H : Nat} {C : Int} {P : List (List Int)} (hW1 : 1 ≤ W) (hW : W ≤ 12) (hH1 : 1 ≤ H) (hH : H ≤ 12) (hC : C ≤ 1000) (h : Pat W H C P) (s : Sym) : F_keeps [.val (PT P), .val s.d] = .ok (.val (.bool (keepsB W H P s)), [.un, .un]) := by
  have np := need_pattern_ok hW1 hW hH1 hH hC h
  have ns := need_symmetry_ok (k := s.k) (x := s.x) (y := s.y)
  have a1 : F_agrees [.val (PT P), .val (.tuple [.int 0, .int (s.k.u W 0), .int (s.k.v W 0)])] = _ := agrees_ok hW1 hW hH1 hH hC h ⟨.k0, s.k.u W 0, s.k.v W 0⟩
  have a2 : F_agrees [.val (PT P), .val (.tuple [.int 0, .int (s.k.u 0 H), .int (s.k.v 0 H)])] = _ := agrees_ok hW1 hW hH1 hH hC h ⟨.k0, s.k.u 0 H, s.k.v 0 H⟩
  have a3 := agrees_ok hW1 hW hH1 hH hC h s
  have t1 := turned_ok (k := s.k) (x := (W : Int)) (y := 0)
  have t2 := turned_ok (k := s.k) (x := 0) (y := (H : Int))
  obtain ⟨r0, l0, e0⟩ := pat0 hH1 h
  have hz : Kd.i .k0 = 0 := rfl
  unfold keepsB
  generalize agreesB W H P ⟨.k0, s.k.u W 0, s.k.v W 0⟩ = b1 at a1
  generalize agreesB W H P ⟨.k0, s.k.u 0 H, s.k.v 0 H⟩ = b2 at a2
  generalize agreesB W H P s = b3 at a3
  rw [r_keeps]
  unfold B_keeps L1_keeps c_SHIFT
  unfold PT at np a1 a2 a3 ⊢
  cases b1 <;> cases b2 <;> simp? [List.length_map, np, ns, a1, a2, a3, t1, t2, e0, l0, h.len, hz]
theorem keepsB_iff {W H : Nat} {C : Int} {P : List (List Int)} (hW1 : 1 ≤ W) (hH1 : 1 ≤ H) (h : Pat W H C P) (s : Sym) : keepsB W H P s = true ↔ Keeps W H P s := by
  unfold keepsB
  rw [Bool.and_eq_true, Bool.and_eq_true, agreesB_iff h, agreesB_iff h, agreesB_iff h]
  exact ⟨fun ⟨a, b, c⟩ => keeps_of hW1 hH1 a b c, fun k => k.parts hW1 hH1⟩
theorem whF_stop {c : SB} {b : SS} {n : Nat} {ρ ρ' : List B} (h : c ρ = .ok (false, ρ')) : whF c b (n + 1) ρ = .ok (.nx ρ') := by
  unfold whF
  rw [h]
  rfl
theorem whF_go {c : SB} {b : SS} {n : Nat} {ρ ρ' ρ2 : List B} (h : c ρ = .ok (true, ρ')) (hb : b ρ' = .ok (.nx ρ2)) : whF c b (n + 1) ρ = whF c b n ρ2 := by
  conv => lhs; unfold whF
  rw [h]
  show (Rs.bind (.ok (true, ρ')) _) = _
  dsimp only [Rs.bind]
  rw [if_pos rfl, hb]
def sideC : SB := fB (op2 neD (op2 modD (fV 2) (opN lenD (aCons (fV 0) aNil))) (fC (.int 0)))
theorem sideC_ok {W H : Nat} {C : Int} {P : List (List Int)} (hH1 : 1 ≤ H) (h : Pat W H C P) (d : PyData) (z : Int) : sideC [.val (PT P), .val d, .val (.int z), .un, .un] = .ok (!decide (z.fmod H = 0), [.val (PT P), .val d, .val (.int z), .un, .un]) := by
  have hH0 : (H : Int) ≠ 0 := by omega
  unfold sideC PT
  simp? [List.length_map, h.len]
theorem side_loop {W H : Nat} {C : Int} {P : List (List Int)} (hH1 : 1 ≤ H) (h : Pat W H C P) (d : PyData) : ∀ (k j n : Nat), 1 ≤ j → j + k = H → k < n → ∃ m : Nat, 1 ≤ m ∧ m ≤ H ∧ H ∣ W * m ∧ whF sideC L1__law_keeps n [.val (PT P), .val d, .val (.int ((W * j : Nat) : Int)), .un, .un] = .ok (.nx [.val (PT P), .val d, .val (.int ((W * m : Nat) : Int)), .un, .un]) := by
  obtain ⟨r0, l0, e0⟩ := pat0 hH1 h
  intro k
  induction k with
  | zero =>
    intro j n hj hk hn
    obtain ⟨n, rfl⟩ : ∃ n', n = n' + 1 := ⟨n - 1, by omega⟩
    refine ⟨j, hj, by omega, ⟨W, by rw [show j = H by omega, Nat.mul_comm]⟩, ?_⟩
    have c := sideC_ok hH1 h d ((W * j : Nat) : Int)
    have q : ((W * j : Nat) : Int).fmod H = 0 := by
      rw [Int.fmod_eq_emod_of_nonneg _ (by omega), show j = H by omega, Int.natCast_mul, Int.mul_emod_left]
    rw [q] at c
    exact whF_stop c
  | succ k ih =>
    intro j n hj hk hn
    obtain ⟨n, rfl⟩ : ∃ n', n = n' + 1 := ⟨n - 1, by omega⟩
    have c := sideC_ok hH1 h d ((W * j : Nat) : Int)
    by_cases q : ((W * j : Nat) : Int).fmod H = 0
    · rw [q] at c
      refine ⟨j, hj, by omega, ?_, whF_stop c⟩
      rw [Int.fmod_eq_emod_of_nonneg _ (by omega)] at q
      exact Int.natCast_dvd_natCast.mp (Int.dvd_of_emod_eq_zero q)
    · rw [decide_eq_false q] at c
      obtain ⟨m, m1, m2, m3, e⟩ := ih (j + 1) n (by omega) (by omega) (by omega)
      refine ⟨m, m1, m2, m3, ?_⟩
      rw [whF_go c (ρ2 := [.val (PT P), .val d, .val (.int ((W * (j + 1) : Nat) : Int)), .un, .un]) ?_]
      · exact e
      · have z : ((W * j : Nat) : Int) + (W : Int) = ((W * (j + 1) : Nat) : Int) := by rw [Nat.mul_succ]; omega
        unfold L1__law_keeps PT
        simp? [List.length_map, e0, l0, z]
def lawB (W H : Nat) (P : List (List Int)) (s : Sym) (L : Nat) : Bool := (List.range L).all fun x => (List.range L).all fun y => okAt W H P s x y
theorem law_keeps_ok {W H : Nat} {C : Int} {P : List (List Int)} (hW1 : 1 ≤ W) (hW : W ≤ 12) (hH1 : 1 ≤ H) (hH : H ≤ 12) (hC : C ≤ 1000) (h : Pat W H C P) (s : Sym) : F__law_keeps [.val (PT P), .val s.d] = .ok (.val (.bool (keepsB W H P s)), [.un, .un]) := by
  obtain ⟨r0, l0, e0⟩ := pat0 hH1 h
  obtain ⟨m, m1, m2, ⟨n, hn⟩, ew⟩ := side_loop hH1 h s.d (H - 1) 1 1000000 (by omega) (by omega) (by omega)
  have hWm : 1 ≤ W * m := Nat.mul_pos hW1 m1
  have hWm2 : W * m ≤ 144 := Nat.mul_le_mul hW (Nat.le_trans m2 hH)
  have inner : ∀ (x : Nat) (c4 : B), ∃ c4' : B, forL (nmG 4) L2__law_keeps ((List.range (W * m)).map fun i : Nat => PyData.int (0 + i)) [.val (PT P), .val s.d, .val (.int ((W * m : Nat) : Int)), .val (.int (0 + x)), c4] = (if (List.range (W * m)).all (fun y => okAt W H P s x y) = true then .ok (.nx [.val (PT P), .val s.d, .val (.int ((W * m : Nat) : Int)), .val (.int (0 + x)), c4']) else .ok (.rt (.val (.bool false)) [.val (PT P), .val s.d, .val (.int ((W * m : Nat) : Int)), .val (.int (0 + x)), c4'])) := by
    intro x c4
    obtain ⟨ρ', e, c4', rfl⟩ := fo_all (enc := fun i : Nat => PyData.int (0 + i)) (t := nmG 4) (b := L2__law_keeps) (fun ρ => ∃ c4 : B, ρ = [.val (PT P), .val s.d, .val (.int ((W * m : Nat) : Int)), .val (.int (0 + x)), c4]) (fun y => okAt W H P s x y) (.val (.bool false)) (xs := List.range (W * m)) ⟨c4, rfl⟩ (by
      rintro y hy _ ⟨c4, rfl⟩
      refine ⟨_, ?_, .val (.int (0 + y)), rfl⟩
      have zx : (0 : Int) + x = x := by omega
      have zy : (0 : Int) + y = y := by omega
      have im := law_image_2_ok (k := s.k) (x := s.x) (y := s.y) (a := (x : Int)) (b := (y : Int))
      have ce := (colour_eq hW1 hW hH1 hH hC h (s.k.u x y + s.x) (s.k.v x y + s.y)).2
      have cp := (colour_eq hW1 hW hH1 hH hC h x y).2
      unfold L2__law_keeps okAt
      rw [im_def, zx, zy]
      dsimp only
      generalize colr W H P (s.k.u x y + s.x) (s.k.v x y + s.y) = z at ce ⊢
      generalize colr W H P x y = c at cp ⊢
      simp? [im, ce, cp]
      by_cases q : z = c
      · simp? [q]
      · simp? [q, Ne.symm q])
    exact ⟨c4', e⟩
  have hr : rngOk ((W * m : Nat) : Int) = true := rngOk_nat (by omega)
  obtain ⟨ρ', e, c3', c4', rfl⟩ := fo_all (enc := fun i : Nat => PyData.int (0 + i)) (t := nmG 3) (b := L3__law_keeps) (fun ρ => ∃ c3 c4 : B, ρ = [.val (PT P), .val s.d, .val (.int ((W * m : Nat) : Int)), c3, c4]) (fun x => (List.range (W * m)).all fun y => okAt W H P s x y) (.val (.bool false)) (xs := List.range (W * m)) (ρ := [.val (PT P), .val s.d, .val (.int ((W * m : Nat) : Int)), .un, .un]) ⟨_, _, rfl⟩ (by
    rintro x hx _ ⟨c3, c4, rfl⟩
    obtain ⟨c4', e⟩ := inner x c4
    refine ⟨_, ?_, .val (.int (0 + x)), c4', rfl⟩
    unfold L3__law_keeps
    simp? [e, Int.toNat_natCast])
  have same : lawB W H P s (W * m) = keepsB W H P s := by
    rw [Bool.eq_iff_iff, keepsB_iff hW1 hH1 h]
    unfold lawB
    constructor
    · intro a
      refine keeps_law hW1 hH1 hWm rfl hn fun x y x0 x1 y0 y1 => ?_
      rw [List.all_eq_true] at a
      have b := a x.toNat (List.mem_range.mpr (by omega))
      rw [List.all_eq_true] at b
      have c := of_decide_eq_true (b y.toNat (List.mem_range.mpr (by omega)))
      rwa [show ((x.toNat : Nat) : Int) = x by omega, show ((y.toNat : Nat) : Int) = y by omega] at c
    · intro k
      rw [List.all_eq_true]
      intro x _
      rw [List.all_eq_true]
      intro y _
      exact decide_eq_true (k x y)
  rw [← same]
  rw [Nat.mul_one] at ew
  have ew' : whS mu__law_keeps_1 sideC L1__law_keeps [.val (PT P), .val s.d, .val (.int (W : Int)), .un, .un] = _ := ew
  unfold sideC at ew'
  rw [r__law_keeps]
  unfold B__law_keeps lawB
  unfold PT at e ew' ⊢
  simp? [List.length_map, e0, l0, ew', e, Int.toNat_natCast]
  by_cases q : ((List.range (W * m)).all fun x => (List.range (W * m)).all fun y => okAt W H P s x y) = true
  · rw [if_pos q, q]
  · rw [if_neg q, (Bool.not_eq_true _).mp q]
end M
namespace L_k69
open PySem PySem.Spec PyProof.Rows L2 G M
local macro_rules
  | `(tactic| simp? [$ls,*]) => `(tactic| simp (maxSteps := 1000000) (disch := first | assumption | (simp (disch := decide +kernel) only [G.sl_nil, G.sl_cons, List.cons_append, List.nil_append, G.shN_str, G.shN_tup, G.shN_lst, G.shN_int, G.shN_bool, G.shN_none, G.shA_nil, G.shA_cons, G.b_ta, G.ky_i, G.ky_s]; done) | exact G.len_ok (by simp only [G.sl_nil, G.sl_cons]) | decide | decide +kernel | exact G.mulOk_l (by decide) | exact G.mulOk_r (by decide) | omega) only [G.rb_ok, G.rb_ex, G.rb_bad, G.rb_ite, G.lz, G.ls, G.sz, G.ss, G.r_seq, G.k_seq1, G.k_seq2, G.k_seq3, G.k_seq4, G.r_nx, G.r_bk, G.r_ct, G.r_retN, G.r_ret, G.k_ret, G.r_drop, G.k_drop, G.r_if, G.r_ife, G.k_if, G.r_asg, G.k_asg1, G.k_asg2, G.k_asg3, G.k_sl1, G.k_sl2, G.k_sh1, G.k_sh2, G.k_sh3, G.k_sh4, G.k_sh5, G.r_asgG, G.k_asgG, G.k_asgL, G.k_tg, G.r_nm, G.r_tup, G.r_tup1, G.r_tup3, G.r_tup4, G.r_nil, G.r_cons, G.r_V, G.k_V1, G.k_V2, G.k_V4, G.k_V3, G.r_C, G.p_val, G.p_fr, G.p_sl, G.pb_1, G.pb_2, G.pb_3, G.od_1, G.od_2, G.p_1, G.p_2, G.p_3, G.q_1, G.q_2, G.q_3, G.re_1, G.re_2, G.re_ite, G.st_1, G.st_2, G.st_3, G.r_op2, G.k_op2a, G.k_op2b, G.k_op2c, G.r_op1, G.k_op1, G.ob_some, G.r_said, G.k_said1, G.r_opN, G.k_opN, G.r_pk0, G.r_pk1, G.k_pk, G.r_anil, G.r_acons, G.k_acons, G.k_acons2, G.shs_v0, G.shs_v1, G.shs_v2, G.shs_v3, G.shs_v4, G.om_some, G.r_tupT, G.r_lstT, G.k_dt, G.k_dl, G.k_d1, G.k_d2, G.r_fB, G.k_fB, G.r_and, G.r_or, G.r_andV, G.r_orV, G.r_not, G.r_notV, G.k_not, G.k_notV, G.r_yes, G.r_ch, G.k_ch1, G.k_ch2, G.k_ch3, G.k_ch4, G.k_ch5, G.r_call, G.c1_nil, G.c1_t, G.c1_f, G.c1_s, G.c1_s1, G.c1_s2, G.k_ca, G.k_c1, G.k_c2, G.c2_nil, G.c2_v, G.c2_s, G.c2_s1, G.c2_s3, G.c2_s2, G.k_call, G.k_w1, G.k_w2, G.k_w3, G.k_wite, G.wb_nil, G.wb_none, G.wb_some, G.k_wb1, G.k_wb2, G.wbx_nil, G.wbx_none, G.ap_nil, G.ap_nil2, G.ap_cons, G.ma_nil, G.ma_cons, G.ds_nil, G.ds_none, G.ds_some, G.me_nil, G.me_none, G.me_some, G.ou_0, G.ou_s, G.ob_val, G.ob_own, G.ob_un, G.ob_exc, G.ob_prm, G.le_0, G.le_s, G.k_rf1, G.k_rf2, G.k_rf3, G.k_rf4, G.k_rs1, G.k_rs2, G.r_set, G.k_set1, G.k_set2, G.k_set3, G.k_set4, G.k_set5, G.k_set6, G.k_set7, G.k_set8, G.k_set9, G.r_mut, G.k_mu1, G.k_mu2, G.k_mu3, G.k_mu4, G.k_mu5, G.k_mu6, G.k_mu7, G.k_app, G.k_apps, G.r_par, G.k_par1, G.k_par2, G.k_par3, G.k_par4, G.k_par5, G.r_par3, G.k_p3a, G.k_p3b, G.r_parN, G.k_pn1, G.k_pn2, G.k_nx, G.ev_nil, G.ev_cons, G.k_ev1, G.k_ev2, G.rs_nil, G.rs_val, G.rs_fr, G.rs_sl, G.k_rsS1, G.k_rsS2, G.bn_nil, G.bn_val, G.bn_fr, G.r_rep, G.k_rp1, G.k_rp2, G.k_rp3, G.ixN_last, G.set_last, G.ix_last, G.r_for, G.k_for, G.fo_nil, G.fo_cons, G.k_fo0, G.k_fo1, G.k_fo2, G.k_fo3, G.k_fo4, G.r_turn, G.k_tu0, G.k_tu1, G.k_tu2, G.k_tu3, G.k_tu4, G.r_seqI, G.k_seqI, G.k_seqI1, G.k_seqI3, G.k_seqI5, G.k_seqI6, G.k_seqI4, G.k_seqI2, G.r_rng1, G.k_rng1, G.k_rng1b, G.r_rng2, G.k_rng2, G.k_rng2b, G.rgl_0, G.rgl_1, G.rgl_2, G.rgl_3, G.rgl_4, G.rgl_5, G.rgl_6, G.rgl_7, G.rgl_8, G.rgl_9, G.rgl_10, G.rgl_12, G.rgl_16, G.r1l_1, G.r1l_2, G.r1l_3, G.r1l_4, G.r1l_5, G.r1l_6, G.r1l_8, G.rpl_0, G.rpl_1, G.rpl_2, G.rpl_3, G.rpl_4, G.rpl_5, G.rpl_6, G.rpl_7, G.rpl_8, G.r_lc, G.k_lc, G.l_nil, G.l_cons, G.l_A, G.l_B, G.l_C, G.l_C2, G.l_C3, G.l_S1, G.l_S2, G.l_D, G.k_lc1, G.wi_nil, G.wi_cons, G.mulOk_l, G.mulOk_r, G.r_sl, G.k_sla, G.k_slb, G.k_slc, G.k_sld, G.pt_n, G.pt_s, G.k_pt, G.cu_t, G.cu_l, G.cu_1n, G.cu_2n, G.cu_n1, G.d_add, G.d_addT, G.d_addTs, G.d_addL, G.d_addLs, G.d_sub, G.d_mul, G.d_fdiv, G.d_mod, G.d_neg, G.d_cmp, G.d_ixT, G.d_ixL, G.at_0, G.at_1, G.at_2, G.at_3, G.d_lenL, G.d_lenT, G.d_tupL, G.d_tupT, G.d_all, G.k_all, G.d_any, G.k_any, G.bo_nil, G.bo_cons, G.al_nil, G.al_cons, G.al_map, G.an_nil, G.an_cons, G.an_map, G.id_b, G.bo_map, G.d_max, G.d_min, G.d_listL, G.d_listT, G.d_p18, G.d_p13, G.d_p12, G.d_is, G.d_abs, G.d_repr, G.d_eqS, G.d_neS, G.d_eqI, G.d_neI, G.d_isi, G.isy_int_none, G.isy_int_bool, G.isy_int_int, G.isy_int_str, G.isy_int_list, G.isy_int_tuple, G.isy_int_dict, G.isy_bool_none, G.isy_bool_bool, G.isy_bool_int, G.isy_bool_str, G.isy_bool_list, G.isy_bool_tuple, G.isy_bool_dict, G.isy_tuple_none, G.isy_tuple_bool, G.isy_tuple_int, G.isy_tuple_str, G.isy_tuple_list, G.isy_tuple_tuple, G.isy_tuple_dict, G.isy_list_none, G.isy_list_bool, G.isy_list_int, G.isy_list_str, G.isy_list_list, G.isy_list_tuple, G.isy_list_dict, G.isy_str_none, G.isy_str_bool, G.isy_str_int, G.isy_str_str, G.isy_str_list, G.isy_str_tuple, G.isy_str_dict, G.isy_dict_none, G.isy_dict_bool, G.isy_dict_int, G.isy_dict_str, G.isy_dict_list, G.isy_dict_tuple, G.isy_dict_dict, G.it_t, G.it_f, G.b_tt, G.b_ft, G.b_nt, G.b_nf, G.b_ta, G.b_fa, G.b_at, G.b_to, G.b_fo, G.lI_0, G.lI_1, G.lI_2, G.lI_3, G.lI_4, G.lI_5, G.lI_m, G.bs_f, G.es_f, G.bb_tt, G.bb_tf, G.bb_ft, G.bb_ff, G.bq_s, G.r_dic, G.k_dic1, G.k_dic2, G.k_dic3, G.k_dic4, G.k_kD1, G.k_kD2, G.k_fl0, G.k_fl1, G.k_pr0, G.k_pr1, G.k_pr2, G.r_dic0, G.d_ixDi, G.d_ixDs, G.d_inGT, G.d_inGL, G.d_ninGT, G.d_ninGL, G.d_inGi, G.d_ninGi, G.k_vals, G.k_items, G.d_setDi, G.dg_nil, G.dg_i, G.dg_s, G.mg_0, G.mg_s, G.dpk_n, G.ky_i, G.ky_s, G.d_eqX, G.d_neX, G.d_inT, G.d_inL, G.d_ninT, G.d_ninL, G.ev_ii, G.ev_bb, G.ev_ss, G.ev_nn, G.ev_tt, G.ev_ll, G.ev_0, G.ev_c, G.ev_c0, G.ev_0c, G.ev_none_bool, G.ev_none_int, G.ev_none_str, G.ev_none_list, G.ev_none_tuple, G.ev_bool_none, G.ev_bool_str, G.ev_bool_list, G.ev_bool_tuple, G.ev_int_none, G.ev_int_str, G.ev_int_list, G.ev_int_tuple, G.ev_str_none, G.ev_str_bool, G.ev_str_int, G.ev_str_list, G.ev_str_tuple, G.ev_list_none, G.ev_list_bool, G.ev_list_int, G.ev_list_str, G.ev_list_tuple, G.ev_tuple_none, G.ev_tuple_bool, G.ev_tuple_int, G.ev_tuple_str, G.ev_tuple_list, G.dec_t, G.not_dec, G.k_popA, G.k_popZ, G.k_pop1, G.r_ext, G.k_ext1, G.k_ext2, G.k_ext3, G.k_ext4, G.r_items, G.k_itemsJ, G.d_listD, G.d_intI, G.d_intB, G.d_strI, G.r_subG, G.k_sub1, G.k_sub2, G.k_sub3, G.k_sub4, G.k_sub5, G.k_sub6, G.k_sub7, G.r_tupL1, G.r_tupL2, G.r_tupL3, G.r_tupL4, G.d_isB, G.d_isnB, G.d_isnN, G.d_revL, G.d_revT, G.r_permA, G.k_perm1, G.k_perm2, G.k_perm3a, G.k_perm3b, G.k_perm3c, G.k_perm3d, G.k_perm3e, Int.reduceEq, Int.reduceLE, Int.reduceLT, Int.reduceAdd, Int.reduceSub, Int.reduceMul, Int.reduceNeg, Nat.reduceAdd, List.nil_append, not_true_eq_false, not_false_eq_true, and_true, true_and, and_false, false_and, or_true, true_or, or_false, false_or, decide_true, decide_false, eq_self, Bool.and_true, Bool.and_false, $ls,*])
  | `(tactic| simp? [$ls,*] at $h:ident) => `(tactic| simp (maxSteps := 1000000) (disch := first | assumption | (simp (disch := decide +kernel) only [G.sl_nil, G.sl_cons, List.cons_append, List.nil_append, G.shN_str, G.shN_tup, G.shN_lst, G.shN_int, G.shN_bool, G.shN_none, G.shA_nil, G.shA_cons, G.b_ta, G.ky_i, G.ky_s]; done) | exact G.len_ok (by simp only [G.sl_nil, G.sl_cons]) | decide | decide +kernel | exact G.mulOk_l (by decide) | exact G.mulOk_r (by decide) | omega) only [G.rb_ok, G.rb_ex, G.rb_bad, G.rb_ite, G.lz, G.ls, G.sz, G.ss, G.r_seq, G.k_seq1, G.k_seq2, G.k_seq3, G.k_seq4, G.r_nx, G.r_bk, G.r_ct, G.r_retN, G.r_ret, G.k_ret, G.r_drop, G.k_drop, G.r_if, G.r_ife, G.k_if, G.r_asg, G.k_asg1, G.k_asg2, G.k_asg3, G.k_sl1, G.k_sl2, G.k_sh1, G.k_sh2, G.k_sh3, G.k_sh4, G.k_sh5, G.r_asgG, G.k_asgG, G.k_asgL, G.k_tg, G.r_nm, G.r_tup, G.r_tup1, G.r_tup3, G.r_tup4, G.r_nil, G.r_cons, G.r_V, G.k_V1, G.k_V2, G.k_V4, G.k_V3, G.r_C, G.p_val, G.p_fr, G.p_sl, G.pb_1, G.pb_2, G.pb_3, G.od_1, G.od_2, G.p_1, G.p_2, G.p_3, G.q_1, G.q_2, G.q_3, G.re_1, G.re_2, G.re_ite, G.st_1, G.st_2, G.st_3, G.r_op2, G.k_op2a, G.k_op2b, G.k_op2c, G.r_op1, G.k_op1, G.ob_some, G.r_said, G.k_said1, G.r_opN, G.k_opN, G.r_pk0, G.r_pk1, G.k_pk, G.r_anil, G.r_acons, G.k_acons, G.k_acons2, G.shs_v0, G.shs_v1, G.shs_v2, G.shs_v3, G.shs_v4, G.om_some, G.r_tupT, G.r_lstT, G.k_dt, G.k_dl, G.k_d1, G.k_d2, G.r_fB, G.k_fB, G.r_and, G.r_or, G.r_andV, G.r_orV, G.r_not, G.r_notV, G.k_not, G.k_notV, G.r_yes, G.r_ch, G.k_ch1, G.k_ch2, G.k_ch3, G.k_ch4, G.k_ch5, G.r_call, G.c1_nil, G.c1_t, G.c1_f, G.c1_s, G.c1_s1, G.c1_s2, G.k_ca, G.k_c1, G.k_c2, G.c2_nil, G.c2_v, G.c2_s, G.c2_s1, G.c2_s3, G.c2_s2, G.k_call, G.k_w1, G.k_w2, G.k_w3, G.k_wite, G.wb_nil, G.wb_none, G.wb_some, G.k_wb1, G.k_wb2, G.wbx_nil, G.wbx_none, G.ap_nil, G.ap_nil2, G.ap_cons, G.ma_nil, G.ma_cons, G.ds_nil, G.ds_none, G.ds_some, G.me_nil, G.me_none, G.me_some, G.ou_0, G.ou_s, G.ob_val, G.ob_own, G.ob_un, G.ob_exc, G.ob_prm, G.le_0, G.le_s, G.k_rf1, G.k_rf2, G.k_rf3, G.k_rf4, G.k_rs1, G.k_rs2, G.r_set, G.k_set1, G.k_set2, G.k_set3, G.k_set4, G.k_set5, G.k_set6, G.k_set7, G.k_set8, G.k_set9, G.r_mut, G.k_mu1, G.k_mu2, G.k_mu3, G.k_mu4, G.k_mu5, G.k_mu6, G.k_mu7, G.k_app, G.k_apps, G.r_par, G.k_par1, G.k_par2, G.k_par3, G.k_par4, G.k_par5, G.r_par3, G.k_p3a, G.k_p3b, G.r_parN, G.k_pn1, G.k_pn2, G.k_nx, G.ev_nil, G.ev_cons, G.k_ev1, G.k_ev2, G.rs_nil, G.rs_val, G.rs_fr, G.rs_sl, G.k_rsS1, G.k_rsS2, G.bn_nil, G.bn_val, G.bn_fr, G.r_rep, G.k_rp1, G.k_rp2, G.k_rp3, G.ixN_last, G.set_last, G.ix_last, G.r_for, G.k_for, G.fo_nil, G.fo_cons, G.k_fo0, G.k_fo1, G.k_fo2, G.k_fo3, G.k_fo4, G.r_turn, G.k_tu0, G.k_tu1, G.k_tu2, G.k_tu3, G.k_tu4, G.r_seqI, G.k_seqI, G.k_seqI1, G.k_seqI3, G.k_seqI5, G.k_seqI6, G.k_seqI4, G.k_seqI2, G.r_rng1, G.k_rng1, G.k_rng1b, G.r_rng2, G.k_rng2, G.k_rng2b, G.rgl_0, G.rgl_1, G.rgl_2, G.rgl_3, G.rgl_4, G.rgl_5, G.rgl_6, G.rgl_7, G.rgl_8, G.rgl_9, G.rgl_10, G.rgl_12, G.rgl_16, G.r1l_1, G.r1l_2, G.r1l_3, G.r1l_4, G.r1l_5, G.r1l_6, G.r1l_8, G.rpl_0, G.rpl_1, G.rpl_2, G.rpl_3, G.rpl_4, G.rpl_5, G.rpl_6, G.rpl_7, G.rpl_8, G.r_lc, G.k_lc, G.l_nil, G.l_cons, G.l_A, G.l_B, G.l_C, G.l_C2, G.l_C3, G.l_S1, G.l_S2, G.l_D, G.k_lc1, G.wi_nil, G.wi_cons, G.mulOk_l, G.mulOk_r, G.r_sl, G.k_sla, G.k_slb, G.k_slc, G.k_sld, G.pt_n, G.pt_s, G.k_pt, G.cu_t, G.cu_l, G.cu_1n, G.cu_2n, G.cu_n1, G.d_add, G.d_addT, G.d_addTs, G.d_addL, G.d_addLs, G.d_sub, G.d_mul, G.d_fdiv, G.d_mod, G.d_neg, G.d_cmp, G.d_ixT, G.d_ixL, G.at_0, G.at_1, G.at_2, G.at_3, G.d_lenL, G.d_lenT, G.d_tupL, G.d_tupT, G.d_all, G.k_all, G.d_any, G.k_any, G.bo_nil, G.bo_cons, G.al_nil, G.al_cons, G.al_map, G.an_nil, G.an_cons, G.an_map, G.id_b, G.bo_map, G.d_max, G.d_min, G.d_listL, G.d_listT, G.d_p18, G.d_p13, G.d_p12, G.d_is, G.d_abs, G.d_repr, G.d_eqS, G.d_neS, G.d_eqI, G.d_neI, G.d_isi, G.isy_int_none, G.isy_int_bool, G.isy_int_int, G.isy_int_str, G.isy_int_list, G.isy_int_tuple, G.isy_int_dict, G.isy_bool_none, G.isy_bool_bool, G.isy_bool_int, G.isy_bool_str, G.isy_bool_list, G.isy_bool_tuple, G.isy_bool_dict, G.isy_tuple_none, G.isy_tuple_bool, G.isy_tuple_int, G.isy_tuple_str, G.isy_tuple_list, G.isy_tuple_tuple, G.isy_tuple_dict, G.isy_list_none, G.isy_list_bool, G.isy_list_int, G.isy_list_str, G.isy_list_list, G.isy_list_tuple, G.isy_list_dict, G.isy_str_none, G.isy_str_bool, G.isy_str_int, G.isy_str_str, G.isy_str_list, G.isy_str_tuple, G.isy_str_dict, G.isy_dict_none, G.isy_dict_bool, G.isy_dict_int, G.isy_dict_str, G.isy_dict_list, G.isy_dict_tuple, G.isy_dict_dict, G.it_t, G.it_f, G.b_tt, G.b_ft, G.b_nt, G.b_nf, G.b_ta, G.b_fa, G.b_at, G.b_to, G.b_fo, G.lI_0, G.lI_1, G.lI_2, G.lI_3, G.lI_4, G.lI_5, G.lI_m, G.bs_f, G.es_f, G.bb_tt, G.bb_tf, G.bb_ft, G.bb_ff, G.bq_s, G.r_dic, G.k_dic1, G.k_dic2, G.k_dic3, G.k_dic4, G.k_kD1, G.k_kD2, G.k_fl0, G.k_fl1, G.k_pr0, G.k_pr1, G.k_pr2, G.r_dic0, G.d_ixDi, G.d_ixDs, G.d_inGT, G.d_inGL, G.d_ninGT, G.d_ninGL, G.d_inGi, G.d_ninGi, G.k_vals, G.k_items, G.d_setDi, G.dg_nil, G.dg_i, G.dg_s, G.mg_0, G.mg_s, G.dpk_n, G.ky_i, G.ky_s, G.d_eqX, G.d_neX, G.d_inT, G.d_inL, G.d_ninT, G.d_ninL, G.ev_ii, G.ev_bb, G.ev_ss, G.ev_nn, G.ev_tt, G.ev_ll, G.ev_0, G.ev_c, G.ev_c0, G.ev_0c, G.ev_none_bool, G.ev_none_int, G.ev_none_str, G.ev_none_list, G.ev_none_tuple, G.ev_bool_none, G.ev_bool_str, G.ev_bool_list, G.ev_bool_tuple, G.ev_int_none, G.ev_int_str, G.ev_int_list, G.ev_int_tuple, G.ev_str_none, G.ev_str_bool, G.ev_str_int, G.ev_str_list, G.ev_str_tuple, G.ev_list_none, G.ev_list_bool, G.ev_list_int, G.ev_list_str, G.ev_list_tuple, G.ev_tuple_none, G.ev_tuple_bool, G.ev_tuple_int, G.ev_tuple_str, G.ev_tuple_list, G.dec_t, G.not_dec, G.k_popA, G.k_popZ, G.k_pop1, G.r_ext, G.k_ext1, G.k_ext2, G.k_ext3, G.k_ext4, G.r_items, G.k_itemsJ, G.d_listD, G.d_intI, G.d_intB, G.d_strI, G.r_subG, G.k_sub1, G.k_sub2, G.k_sub3, G.k_sub4, G.k_sub5, G.k_sub6, G.k_sub7, G.r_tupL1, G.r_tupL2, G.r_tupL3, G.r_tupL4, G.d_isB, G.d_isnB, G.d_isnN, G.d_revL, G.d_revT, G.r_permA, G.k_perm1, G.k_perm2, G.k_perm3a, G.k_perm3b, G.k_perm3c, G.k_perm3d, G.k_perm3e, Int.reduceEq, Int.reduceLE, Int.reduceLT, Int.reduceAdd, Int.reduceSub, Int.reduceMul, Int.reduceNeg, Nat.reduceAdd, List.nil_append, not_true_eq_false, not_false_eq_true, and_true, true_and, and_false, false_and, or_true, true_or, or_false, false_or, decide_true, decide_false, eq_self, Bool.and_true, Bool.and_false, $ls,*] at $h:ident)
def pairs : List (Int × Int) := [(1, 1), (2, 2), (3, 3), (4, 4), (5, 5), (6, 6), (8, 8), (12, 12), (2, 4), (4, 2), (3, 6), (6, 4), (12, 3), (1, 12), (11, 1), (7, 7), (10, 5), (9, 3), (4, 12), (1, 2), (2, 1), (3, 1)]
theorem sizes_ok (s : Src) : ∃ (s' : Src) (W H : Nat), (1 ≤ W ∧ W ≤ 12 ∧ 1 ≤ H ∧ H ≤ 12) ∧ F__law_sizes [.prm s.d] = .ok (.val (SQ W H), [.prm s'.d]) := by
  obtain ⟨d, hd, e⟩ := choose_ok s (ds := pairs.map sqd) (by simp [pairs]) (by simp [pairs])
  obtain ⟨p, hp, rfl⟩ := List.mem_map.mp hd
  have b : ∀ p ∈ pairs, 1 ≤ p.1 ∧ p.1 ≤ 12 ∧ 1 ≤ p.2 ∧ p.2 ≤ 12 := by decide
  obtain ⟨b1, b2, b3, b4⟩ := b p hp
  refine ⟨s.nx (pairs.map sqd).length, p.1.toNat, p.2.toNat, by omega, ?_⟩
  rw [show ((p.1.toNat : Nat) : Int) = p.1 by omega, show ((p.2.toNat : Nat) : Int) = p.2 by omega]
  generalize s.nx _ = s1 at e ⊢
  unfold pairs sqd at e
  simp only [List.map_cons, List.map_nil] at e
  rw [r__law_sizes]
  unfold B__law_sizes
  simp? [e]
def Sm (s : Sym) : Prop := s.x.natAbs ≤ 1000 ∧ s.y.natAbs ≤ 1000
theorem kinds_drawn (s : Src) {b1 b2 : B} : ∃ (s' : Src) (gs : List Sym), gs.length = 8 ∧ (∀ g ∈ gs, Sm g) ∧ lcE (rng1I (aCons (fC (.int 8)) aNil)) (nmG 4) yesB (op2 addD (tupE (aCons (fV 4) aNil)) (callF [true, false] F__law_square [] (aCons (fV 0) (aCons (fC (.int 12)) aNil)))) [4] [.prm s.d, b1, b2, .un, .un, .un] = .ok (.fr (.list (gs.map Sym.d)), [.prm s'.d, b1, b2, .un, .un, .un]) := by
  obtain ⟨ys, ρ', yl, yP, ⟨s', rfl⟩, ye⟩ := lc_ind (enc := fun i : Nat => PyData.int (0 + i)) (t := nmG 4) (c := yesB) (fe := op2 addD (tupE (aCons (fV 4) aNil)) (callF [true, false] F__law_square [] (aCons (fV 0) (aCons (fC (.int 12)) aNil)))) (vs := [4]) (fun ρ => ∃ s : Src, ρ = [.prm s.d, b1, b2, .un, .un, .un]) (fun y => ∃ g : Sym, Sm g ∧ y = g.d) (xs := List.range 8) (n := 0) ⟨s, rfl⟩ (by
    rintro i hi _ ⟨s, rfl⟩
    have hk : (0 : Int) + i = (Kd.ofI (0 + i)).i := (Kd.ofI_i (by omega) (by have := List.mem_range.mp hi; omega)).symm
    generalize Kd.ofI (0 + (i : Int)) = k at hk
    have sq := square_ok s (far := 12) (by decide) (by decide)
    have ab := s.sq_abs (far := 12) (by decide)
    refine ⟨SY k (s.sq 12).1 (s.sq 12).2, _, ⟨⟨k, (s.sq 12).1, (s.sq 12).2⟩, ⟨by dsimp only; omega, by dsimp only; omega⟩, rfl⟩, ⟨s.nx2 12, rfl⟩, ?_⟩
    simp? [hk, sq]) (by simp [sizeLine])
  obtain ⟨gs, rfl, gl, gP⟩ := exists_map yP
  refine ⟨s', gs, by rw [gl, yl, List.length_range], gP, ?_⟩
  rw [r_lc, r_rng1]
  show lcK1 [4] (lcL _ _ _ [4] 0 ((List.range 8).map fun i : Nat => PyData.int (0 + i)) [.prm s.d, b1, b2, .un, .un, .un]) = _
  rw [ye]
  rfl
theorem far_drawn (s : Src) {b1 b2 b3 b4 : B} : ∃ (s' : Src) (gs : List Sym), gs.length = 3 ∧ (∀ g ∈ gs, Sm g) ∧ lcE (rng1I (aCons (fC (.int 3)) aNil)) (nmG 5) yesB (callF [true, false] F__law_symmetry [] (aCons (fV 0) (aCons (fC (.int 1000)) aNil))) [5] [.prm s.d, b1, b2, b3, b4, .un] = .ok (.fr (.list (gs.map Sym.d)), [.prm s'.d, b1, b2, b3, b4, .un]) := by
  obtain ⟨ys, ρ', yl, yP, ⟨s', rfl⟩, ye⟩ := lc_ind (enc := fun i : Nat => PyData.int (0 + i)) (t := nmG 5) (c := yesB) (fe := callF [true, false] F__law_symmetry [] (aCons (fV 0) (aCons (fC (.int 1000)) aNil))) (vs := [5]) (fun ρ => ∃ s : Src, ρ = [.prm s.d, b1, b2, b3, b4, .un]) (fun y => ∃ g : Sym, Sm g ∧ y = g.d) (xs := List.range 3) (n := 0) ⟨s, rfl⟩ (by
    rintro i hi _ ⟨s, rfl⟩
    have sy := symmetry_ok s (far := 1000) (by decide) (by decide)
    have ab := s.sym_abs (far := 1000) (by decide)
    refine ⟨(s.sym 1000).d, _, ⟨s.sym 1000, ⟨by omega, by omega⟩, rfl⟩, ⟨s.nxs 1000, rfl⟩, ?_⟩
    simp? [sy]) (by simp [sizeLine])
  obtain ⟨gs, rfl, gl, gP⟩ := exists_map yP
  refine ⟨s', gs, by rw [gl, yl, List.length_range], gP, ?_⟩
  rw [r_lc, r_rng1]
  show lcK1 [5] (lcL _ _ _ [5] 0 ((List.range 3).map fun i : Nat => PyData.int (0 + i)) [.prm s.d, b1, b2, b3, b4, .un]) = _
  rw [ye]
  rfl
theorem moves_ok (s : Src) {W H : Nat} (hW : W ≤ 12) (hH : H ≤ 12) : ∃ (s' : Src) (gs : List Sym), gs.length ≤ 100 ∧ (∀ g ∈ gs, Sm g) ∧ F__law_moves [.prm s.d, .val (.int W), .val (.int H)] = .ok (.fr (.list (gs.map Sym.d)), [.prm s'.d, .un, .un]) := by
  obtain ⟨s1, g1, l1, m1, e1⟩ := kinds_drawn s (b1 := .val (.int W)) (b2 := .val (.int H))
  have k0 : ∀ x y : Int, PyData.tuple [.int 0, .int x, .int y] = Sym.d ⟨.k0, x, y⟩ := fun _ _ => rfl
  have mid : ∃ gm : List Sym, gm = [⟨.k0, W, 0⟩, ⟨.k0, 0, 0 - H⟩] ++ [⟨.k4, W - 1, 0⟩, ⟨.k6, 0, H - 1⟩, ⟨.k2, W - 1, H - 1⟩, ⟨.k7, 0, 0⟩, ⟨.k1, 0, W - 1⟩] := ⟨_, rfl⟩
  obtain ⟨s2, g2, l2, m2, e2⟩ := far_drawn s1 (b1 := .val (.int W)) (b2 := .val (.int H)) (b3 := .own (.list ((g1.map Sym.d ++ [.tuple [.int 0, .int W, .int 0], .tuple [.int 0, .int 0, .int (0 - H)]]) ++ [.tuple [.int 4, .int (W - 1), .int 0], .tuple [.int 6, .int 0, .int (H - 1)], .tuple [.int 2, .int (W - 1), .int (H - 1)], .tuple [.int 7, .int 0, .int 0], .tuple [.int 1, .int 0, .int (W - 1)]]))) (b4 := .un)
  refine ⟨s2, g1 ++ [⟨.k0, W, 0⟩, ⟨.k0, 0, 0 - H⟩] ++ [⟨.k4, W - 1, 0⟩, ⟨.k6, 0, H - 1⟩, ⟨.k2, W - 1, H - 1⟩, ⟨.k7, 0, 0⟩, ⟨.k1, 0, W - 1⟩] ++ g2, by simp [l1, l2], ?_, ?_⟩
  · intro g hg
    simp only [List.mem_append, List.mem_cons, List.not_mem_nil, or_false] at hg
    rcases hg with ((hg | hg | hg) | hg | hg | hg | hg | hg) | hg
    · exact m1 g hg
    all_goals first
      | exact m2 g hg
      | (subst hg; exact ⟨by dsimp only; omega, by dsimp only; omega⟩)
  · rw [r__law_moves]
    unfold B__law_moves
    generalize lcE (rng1I (aCons (fC (.int 8)) aNil)) (nmG 4) yesB (op2 addD (tupE (aCons (fV 4) aNil)) (callF [true, false] F__law_square [] (aCons (fV 0) (aCons (fC (.int 12)) aNil)))) [4] = E1 at e1 ⊢
    generalize lcE (rng1I (aCons (fC (.int 3)) aNil)) (nmG 5) yesB (callF [true, false] F__law_symmetry [] (aCons (fV 0) (aCons (fC (.int 1000)) aNil))) [5] = E2 at e2 ⊢
    have a1 : (g1.map Sym.d).length + [PyData.tuple [.int 0, .int W, .int 0], .tuple [.int 0, .int 0, .int (0 - H)]].length ≤ sizeLine := by rw [List.length_map, l1]; simp [sizeLine]
    have a2 : (g1.map Sym.d ++ [PyData.tuple [.int 0, .int W, .int 0], .tuple [.int 0, .int 0, .int (0 - H)]]).length + [PyData.tuple [.int 4, .int (W - 1), .int 0], .tuple [.int 6, .int 0, .int (H - 1)], .tuple [.int 2, .int (W - 1), .int (H - 1)], .tuple [.int 7, .int 0, .int 0], .tuple [.int 1, .int 0, .int (W - 1)]].length ≤ sizeLine := by rw [List.length_append, List.length_map, l1]; simp [sizeLine]
    have a3 : ((g1.map Sym.d ++ [PyData.tuple [.int 0, .int W, .int 0], .tuple [.int 0, .int 0, .int (0 - H)]]) ++ [PyData.tuple [.int 4, .int (W - 1), .int 0], .tuple [.int 6, .int 0, .int (H - 1)], .tuple [.int 2, .int (W - 1), .int (H - 1)], .tuple [.int 7, .int 0, .int 0], .tuple [.int 1, .int 0, .int (W - 1)]]).length + (g2.map Sym.d).length ≤ sizeLine := by rw [List.length_append, List.length_append, List.length_map, List.length_map, l1, l2]; simp [sizeLine]
    simp? [e1, d_addL a1, d_addL a2, e2, d_addL a3]
    simp only [List.map_append, List.map_cons, List.map_nil]
    rfl
def fD : SE := callF [true, false] F__law_draw [] (aCons (fV 0) (aCons (fC (.int 2)) aNil))
def fRow : SE := lcE (rng1I (aCons (fC (.int 4)) aNil)) (nmG 3) yesB fD [3]
theorem rng_lit {n : Nat} (hn : rngOk (n : Int) = true) {ρ : List B} : rng1I (aCons (fC (.int n)) aNil) ρ = .ok ((List.range n).map fun i : Nat => PyData.int (0 + i), ρ) := by
  simp? [Int.toNat_natCast]
theorem row4 (s : Src) {b1 b2 : B} : ∃ (s' : Src) (r : List Int), Good 4 2 r ∧ fRow [.prm s.d, b1, b2, .un] = .ok (.fr (.list (r.map PyData.int)), [.prm s'.d, b1, b2, .un]) := by
  obtain ⟨ys, ρ', yl, yP, ⟨s', rfl⟩, ye⟩ := lc_ind (enc := fun i : Nat => PyData.int (0 + i)) (t := nmG 3) (c := yesB) (fe := fD) (vs := [3]) (fun ρ => ∃ s : Src, ρ = [.prm s.d, b1, b2, .un]) (fun y => ∃ c : Int, (0 ≤ c ∧ c < 2) ∧ y = .int c) (xs := List.range 4) (n := 0) ⟨s, rfl⟩ (by
    rintro x hx _ ⟨s, rfl⟩
    have e := draw_ok s (m := 2) (by decide) (by decide)
    refine ⟨.int (s.v 2), _, ⟨s.v 2, ⟨s.v_nn (by decide), s.v_lt (by decide)⟩, rfl⟩, ⟨s.nx 2, rfl⟩, ?_⟩
    unfold fD
    simp? [e]) (by simp [sizeLine])
  obtain ⟨r, rfl, rl, rq⟩ := exists_map yP
  refine ⟨s', r, ⟨by rw [rl, yl, List.length_range], rq⟩, ?_⟩
  unfold fRow
  rw [r_lc, show rng1I (aCons (fC (.int 4)) aNil) _ = _ from rng_lit (n := 4) (by decide), rb_ok, k_lc]
  show lcK1 [3] (lcL _ _ _ [3] 0 ((List.range 4).map fun i : Nat => PyData.int (0 + i)) [.prm s.d, b1, b2, .un]) = _
  rw [ye]
  rfl
theorem piece4 (s : Src) : ∃ (s' : Src) (L : List (List Int)), L.length = 4 ∧ (∀ r ∈ L, Good 4 2 r) ∧ lcE (rng1I (aCons (fC (.int 4)) aNil)) (nmG 2) yesB fRow [2] [.prm s.d, .un, .un, .un] = .ok (.fr (.list (L.map RL)), [.prm s'.d, .un, .un, .un]) := by
  obtain ⟨ys, ρ', yl, yP, ⟨s', rfl⟩, ye⟩ := lc_ind (enc := fun i : Nat => PyData.int (0 + i)) (t := nmG 2) (c := yesB) (fe := fRow) (vs := [2]) (fun ρ => ∃ s : Src, ρ = [.prm s.d, .un, .un, .un]) (fun y => ∃ r : List Int, Good 4 2 r ∧ y = RL r) (xs := List.range 4) (n := 0) ⟨s, rfl⟩ (by
    rintro x hx _ ⟨s, rfl⟩
    obtain ⟨s1, r, gr, e⟩ := row4 s (b1 := .un) (b2 := .val (.int (0 + x)))
    refine ⟨RL r, _, ⟨r, gr, rfl⟩, ⟨s1, rfl⟩, ?_⟩
    generalize fRow = fe at e ⊢
    unfold RL
    simp? [e]) (by simp [sizeLine])
  obtain ⟨L, rfl, rl, rq⟩ := exists_map yP
  refine ⟨s', L, by rw [rl, yl, List.length_range], rq, ?_⟩
  rw [r_lc, show rng1I (aCons (fC (.int 4)) aNil) _ = _ from rng_lit (n := 4) (by decide), rb_ok, k_lc]
  show lcK1 [2] (lcL _ _ _ [2] 0 ((List.range 4).map fun i : Nat => PyData.int (0 + i)) [.prm s.d, .un, .un, .un]) = _
  rw [ye]
  rfl
def fC6 : SE := op2 ixD (op2 ixD (fV 1) (opN max2D (aCons (op2 modD (fV 3) (fC (.int 4))) (aCons (fV 2) aNil)))) (opN min2D (aCons (op2 modD (fV 3) (fC (.int 4))) (aCons (fV 2) aNil)))
def fRow6 : SE := opN tupleD (aCons (lcE (rng1I (aCons (fC (.int 6)) aNil)) (nmG 3) yesB fC6 [3]) aNil)
theorem row6 {L : List (List Int)} (hL : L.length = 4) (hg : ∀ r ∈ L, Good 4 2 r) {b0 : B} (y : Nat) (hy : y < 4) : ∃ r : List Int, Good 6 2 r ∧ fRow6 [b0, .own (.list (L.map RL)), .val (.int (0 + y)), .un] = .ok (.val (RW r), [b0, .own (.list (L.map RL)), .val (.int (0 + y)), .un]) := by
  obtain ⟨ys, ρ', yl, yP, rfl, ye⟩ := lc_ind (enc := fun i : Nat => PyData.int (0 + i)) (t := nmG 3) (c := yesB) (fe := fC6) (vs := [3]) (fun ρ' => ρ' = [b0, .own (.list (L.map RL)), .val (.int (0 + y)), .un]) (fun y => ∃ c : Int, (0 ≤ c ∧ c < 2) ∧ y = .int c) (xs := List.range 6) (n := 0) rfl (by
    rintro x hx _ rfl
    have m0 := Int.fmod_nonneg_of_pos ((0 : Int) + x) (b := 4) (by decide)
    have m1 := Int.fmod_lt_of_pos ((0 : Int) + x) (b := 4) (by decide)
    obtain ⟨r1, g1, e1⟩ := atI_good hg (z := if (0 : Int) + y > ((0 : Int) + x).fmod 4 then (0 : Int) + y else ((0 : Int) + x).fmod 4) (by split <;> omega) (by rw [hL]; split <;> omega)
    obtain ⟨c, hc, e⟩ := g1.at (z := if (0 : Int) + y < ((0 : Int) + x).fmod 4 then (0 : Int) + y else ((0 : Int) + x).fmod 4) (by split <;> omega) (by split <;> omega)
    refine ⟨.int c, _, ⟨c, hc, rfl⟩, rfl, ?_⟩
    unfold fC6
    simp? [e1, e]) (by simp [sizeLine])
  obtain ⟨r, rfl, rl, rq⟩ := exists_map yP
  refine ⟨r, ⟨by rw [rl, yl, List.length_range], rq⟩, ?_⟩
  have eq : lcE (rng1I (aCons (fC (.int 6)) aNil)) (nmG 3) yesB fC6 [3] [b0, .own (.list (L.map RL)), .val (.int (0 + y)), .un] = .ok (.fr (.list (r.map PyData.int)), [b0, .own (.list (L.map RL)), .val (.int (0 + y)), .un]) := by
    rw [r_lc, show rng1I (aCons (fC (.int 6)) aNil) _ = _ from rng_lit (n := 6) (by decide), rb_ok, k_lc]
    show lcK1 [3] (lcL _ _ _ [3] 0 ((List.range 6).map fun i : Nat => PyData.int (0 + i)) [b0, .own (.list (L.map RL)), .val (.int (0 + y)), .un]) = _
    rw [ye]
    rfl
  unfold fRow6 RW
  generalize lcE (rng1I (aCons (fC (.int 6)) aNil)) (nmG 3) yesB fC6 [3] = E at eq ⊢
  simp? [eq]
theorem overlapping_ok (s : Src) : ∃ (s' : Src) (P : List (List Int)), Pat 6 4 2 P ∧ F__law_overlapping [.prm s.d] = .ok (.val (M.PT P), [.prm s'.d]) := by
  obtain ⟨s1, L, hL, hg, e1⟩ := piece4 s
  obtain ⟨ys, ρ', yl, yP, rfl, ye⟩ := lc_ind (enc := fun i : Nat => PyData.int (0 + i)) (t := nmG 2) (c := yesB) (fe := fRow6) (vs := [2]) (fun ρ' => ρ' = [.prm s1.d, .own (.list (L.map RL)), .un, .un]) (fun y => ∃ r : List Int, Good 6 2 r ∧ y = RW r) (xs := List.range 4) (n := 0) rfl (by
    rintro x hx _ rfl
    obtain ⟨r, gr, e⟩ := row6 hL hg (b0 := .prm s1.d) x (List.mem_range.mp hx)
    refine ⟨RW r, _, ⟨r, gr, rfl⟩, rfl, ?_⟩
    generalize fRow6 = fe at e ⊢
    simp? [e]) (by simp [sizeLine])
  obtain ⟨P, rfl, pl, pq⟩ := exists_map yP
  have eq : lcE (rng1I (aCons (fC (.int 4)) aNil)) (nmG 2) yesB fRow6 [2] [.prm s1.d, .own (.list (L.map RL)), .un, .un] = .ok (.fr (.list (P.map RW)), [.prm s1.d, .own (.list (L.map RL)), .un, .un]) := by
    rw [r_lc, show rng1I (aCons (fC (.int 4)) aNil) _ = _ from rng_lit (n := 4) (by decide), rb_ok, k_lc]
    show lcK1 [2] (lcL _ _ _ [2] 0 ((List.range 4).map fun i : Nat => PyData.int (0 + i)) [.prm s1.d, .own (.list (L.map RL)), .un, .un]) = _
    rw [ye]
    rfl
  refine ⟨s1, P, ⟨by rw [pl, yl, List.length_range], pq⟩, ?_⟩
  rw [r__law_overlapping]
  unfold fRow6 fC6 at eq
  unfold fRow fD at e1
  unfold B__law_overlapping M.PT
  generalize lcE (rng1I (aCons (fC (.int 4)) aNil)) (nmG 2) yesB (lcE (rng1I (aCons (fC (.int 4)) aNil)) (nmG 3) yesB (callF [true, false] F__law_draw [] (aCons (fV 0) (aCons (fC (.int 2)) aNil))) [3]) [2] = E1 at e1 ⊢
  generalize lcE (rng1I (aCons (fC (.int 4)) aNil)) (nmG 2) yesB _ [2] = E2 at eq ⊢
  simp? [e1, eq]
theorem symTurn {sc : PyData} {W H : Nat} {C : Int} {P : List (List Int)} (hW1 : 1 ≤ W) (hW : W ≤ 12) (hH1 : 1 ≤ H) (hH : H ≤ 12) (hC : C ≤ 1000) (h : Pat W H C P) (t : Sym) (ht : Sm t) (b1 b2 b3 b4 b5 c7 c8 c9 : B) : ∃ c8' c9' : B, turn (nmG 7) L1_law_k69 t.d [.val sc, b1, b2, b3, b4, b5, .val (M.PT P), c7, c8, c9] = .ok (.nx [.val sc, b1, b2, b3, b4, b5, .val (M.PT P), .val t.d, c8', c9']) := by
  have e1 := keeps_ok hW1 hW hH1 hH hC h t
  have e2 := law_keeps_ok hW1 hW hH1 hH hC h t
  generalize keepsB W H P t = b at e1 e2
  have rp : reprOk (.tuple [M.PT P, t.d]) = true := (RP.tup (mem2 (RP.pat hW hH hC h) ((RP.sym (s := t) (by have := ht.1; omega) (by have := ht.2; omega)).mono (n' := 2) (z' := 300000) (by decide) (by decide)))).ok (by decide) (by simp)
  have rc : reprOk (.list [.bool b, .bool b]) = true := (RP.lst (mem2 (RP.bool (b := b)) (RP.bool (b := b)))).ok (by decide) (by simp)
  have eq := is_equal_ok rc
  refine ⟨.val (.str (PyData.tuple [M.PT P, t.d]).shown), .val (.bool b), ?_⟩
  unfold L1_law_k69
  simp? [e1, e2, eq, rp]
theorem movesLoop {sc : PyData} {W H : Nat} {C : Int} {P : List (List Int)} (hW1 : 1 ≤ W) (hW : W ≤ 12) (hH1 : 1 ≤ H) (hH : H ≤ 12) (hC : C ≤ 1000) (h : Pat W H C P) {gs : List Sym} (hg : ∀ g ∈ gs, Sm g) (b1 b2 b3 b4 b5 c7 c8 c9 : B) : ∃ c7' c8' c9' : B, forL (nmG 7) L1_law_k69 (gs.map Sym.d) [.val sc, b1, b2, b3, b4, b5, .val (M.PT P), c7, c8, c9] = .ok (.nx [.val sc, b1, b2, b3, b4, b5, .val (M.PT P), c7', c8', c9']) := by
  obtain ⟨ρ', e, c7', c8', c9', rfl⟩ := fo_inv (enc := Sym.d) (t := nmG 7) (b := L1_law_k69) (fun ρ => ∃ c7 c8 c9 : B, ρ = [.val sc, b1, b2, b3, b4, b5, .val (M.PT P), c7, c8, c9]) (xs := gs) ⟨c7, c8, c9, rfl⟩ (by
    rintro t ht _ ⟨c7, c8, c9, rfl⟩
    obtain ⟨c8', c9', e⟩ := symTurn (sc := sc) hW1 hW hH1 hH hC h t (hg t ht) b1 b2 b3 b4 b5 c7 c8 c9
    exact ⟨_, e, _, c8', c9', rfl⟩)
  exact ⟨c7', c8', c9', e⟩
theorem turn1 (sc : PyData) (i : Nat) (hi : i < 5) (s : Src) (b1 c3 c4 c5 c6 c7 c8 c9 : B) : ∃ (s' : Src) (c3' : B) (bs' : List B), bs'.length = 6 ∧ turn (nmG 3) L2_law_k69 (.int (0 + i)) [.val sc, b1, .own s.d, c3, c4, c5, c6, c7, c8, c9] = .ok (.nx (.val sc :: b1 :: .own s'.d :: c3' :: (bs' ++ []))) := by
  obtain ⟨s1, W, H, ⟨hW1, hW, hH1, hH⟩, e1⟩ := sizes_ok s
  obtain ⟨d, hd, eC⟩ := choose_ok s1 (ds := [.int 2, .int 2, .int 4, .int 1000]) (by simp) (by simp)
  obtain ⟨C, hC0, hC, rfl⟩ : ∃ C : Int, 0 < C ∧ C ≤ 1000 ∧ d = .int C := by
    simp only [List.mem_cons, List.not_mem_nil, or_false] at hd
    rcases hd with rfl | rfl | rfl | rfl
    · exact ⟨2, by decide, by decide, rfl⟩
    · exact ⟨2, by decide, by decide, rfl⟩
    · exact ⟨4, by decide, by decide, rfl⟩
    · exact ⟨1000, by decide, by decide, rfl⟩
  generalize s1.nx _ = s2 at eC
  obtain ⟨s3, P, pat, er⟩ := rows_ok s2 (C := C) hW1 hW hH1 hH hC0 (by omega)
  by_cases h4 : (0 : Int) + i = 4
  · obtain ⟨s4, Q, qat, eo⟩ := overlapping_ok s3
    obtain ⟨s5, gs, gl, gm, em⟩ := moves_ok s4 (W := 6) (H := 4) (by decide) (by decide)
    obtain ⟨c7', c8', c9', lo⟩ := movesLoop (sc := sc) (by decide) (by decide) (by decide) (by decide) (by decide) qat gm b1 (.own s5.d) (.val (.int (0 + i))) (.val (.int W)) (.val (.int H)) c7 c8 c9
    obtain ⟨r0, l0, z0⟩ := pat0 (by decide) qat
    refine ⟨s5, .val (.int (0 + i)), [.val (.int W), .val (.int H), .val (M.PT Q), c7', c8', c9'], rfl, ?_⟩
    unfold L2_law_k69
    unfold M.PT at er eo lo ⊢
    rw [h4] at lo ⊢
    simp? [e1, eC, er, eo, List.length_map, z0, l0, qat.len, em, lo]
  · obtain ⟨s5, gs, gl, gm, em⟩ := moves_ok s3 (W := W) (H := H) hW hH
    obtain ⟨c7', c8', c9', lo⟩ := movesLoop (sc := sc) hW1 hW hH1 hH hC pat gm b1 (.own s5.d) (.val (.int (0 + i))) (.val (.int W)) (.val (.int H)) c7 c8 c9
    obtain ⟨r0, l0, z0⟩ := pat0 hH1 pat
    refine ⟨s5, .val (.int (0 + i)), [.val (.int W), .val (.int H), .val (M.PT P), c7', c8', c9'], rfl, ?_⟩
    unfold L2_law_k69
    unfold M.PT at er lo ⊢
    simp? [e1, eC, er, h4, List.length_map, z0, l0, pat.len, em, lo]
theorem law_ok (ns : List Int) (hl : ns.length ≤ 63) : ∃ ρ, F_law_k69 [.val (.list (ns.map PyData.int))] = .ok (.val (.bool true), ρ) := by
  rw [r_law_k69]
  refine law_laps_end L2_law_k69 6 [] 3 5 (by decide) (by decide) (by decide) (fun i s c3 bs b1 hi hb => ?_)
  match bs, hb with
  | [c4, c5, c6, c7, c8, c9], _ => exact turn1 (.list (ns.map PyData.int)) i hi s b1 c3 c4 c5 c6 c7 c8 c9
end L_k69
open PySem PySem.W PyProof.Rows in
set_option maxHeartbeats 0 in
theorem PySem.Challenge.cw_gridsym_k69_which_symmetries_keep_a_patt_holds : PySem.Challenge.rw_gridsym_k69_which_symmetries_keep_a_patt.Holds := by
  w_on; o_law; k_head; (case hw => w_witness2)
  k_fill
  refine G.end_walk (l := PySem.Challenge.rw_gridsym_k69_which_symmetries_keep_a_patt) (n := 63) (k := 7) (x := "_law_script") (F := fun _ => M.F_law_k69) rfl (by decide) rfl ⟨rfl, by decide, by decide⟩ (by decide +kernel) (fun w h Y => PySem.W.kIn_of Y) ?F (fun _ ns hl => L_k69.law_ok ns hl)
  case F =>
    intro w mg fa h Y KX NG hmg
    have z_all : mg "all" = none := PySem.W.mg_none_of KX NG (by k_is)
    have z_bool : mg "bool" = none := PySem.W.mg_none_of KX NG (by k_is)
    have z_enumerate : mg "enumerate" = none := PySem.W.mg_none_of KX NG (by k_is)
    have z_int : mg "int" = none := PySem.W.mg_none_of KX NG (by k_is)
    have z_isinstance : mg "isinstance" = none := PySem.W.mg_none_of KX NG (by k_is)
    have z_len : mg "len" = none := PySem.W.mg_none_of KX NG (by k_is)
    have z_max : mg "max" = none := PySem.W.mg_none_of KX NG (by k_is)
    have z_min : mg "min" = none := PySem.W.mg_none_of KX NG (by k_is)
    have z_range : mg "range" = none := PySem.W.mg_none_of KX NG (by k_is)
    have z_repr : mg "repr" = none := PySem.W.mg_none_of KX NG (by k_is)
    have z_tuple : mg "tuple" = none := PySem.W.mg_none_of KX NG (by k_is)
    have k_KINDS := G.conK_mk (mg := mg) (x := "KINDS") (d := M.c_KINDS) KX NG (by k_is) G.kd_int
    have k_LINEAR := G.conK_mk (mg := mg) (x := "LINEAR") (d := M.c_LINEAR) KX NG (by k_is) (G.kd_tup (by k_is) (by decide +kernel) (.cons (G.kd_tup (by k_is) (by decide +kernel) (.cons G.kd_int (.cons G.kd_int (.cons G.kd_int (.cons G.kd_int .nil))))) (.cons (G.kd_tup (by k_is) (by decide +kernel) (.cons G.kd_int (.cons G.kd_int (.cons G.kd_int (.cons G.kd_int .nil))))) (.cons (G.kd_tup (by k_is) (by decide +kernel) (.cons G.kd_int (.cons G.kd_int (.cons G.kd_int (.cons G.kd_int .nil))))) (.cons (G.kd_tup (by k_is) (by decide +kernel) (.cons G.kd_int (.cons G.kd_int (.cons G.kd_int (.cons G.kd_int .nil))))) (.cons (G.kd_tup (by k_is) (by decide +kernel) (.cons G.kd_int (.cons G.kd_int (.cons G.kd_int (.cons G.kd_int .nil))))) (.cons (G.kd_tup (by k_is) (by decide +kernel) (.cons G.kd_int (.cons G.kd_int (.cons G.kd_int (.cons G.kd_int .nil))))) (.cons (G.kd_tup (by k_is) (by decide +kernel) (.cons G.kd_int (.cons G.kd_int (.cons G.kd_int (.cons G.kd_int .nil))))) (.cons (G.kd_tup (by k_is) (by decide +kernel) (.cons G.kd_int (.cons G.kd_int (.cons G.kd_int (.cons G.kd_int .nil))))) .nil)))))))))
    have k_MOST_COLOUR := G.conK_mk (mg := mg) (x := "MOST_COLOUR") (d := M.c_MOST_COLOUR) KX NG (by k_is) G.kd_int
    have k_MOST_SIDE := G.conK_mk (mg := mg) (x := "MOST_SIDE") (d := M.c_MOST_SIDE) KX NG (by k_is) G.kd_int
    have k_SHIFT := G.conK_mk (mg := mg) (x := "SHIFT") (d := M.c_SHIFT) KX NG (by k_is) G.kd_int
    have x_PatternError := G.excK_mk (mg := mg) (x := "PatternError") (newId := "ValueError.__new__") (bm := [.type "ValueError", .type "Exception", .type "BaseException", .type "object"]) KX NG (by k_is) (by k_exc) (by k_is) (by k_is) (by k_is)
    have x_SymmetryError := G.excK_mk (mg := mg) (x := "SymmetryError") (newId := "ValueError.__new__") (bm := [.type "ValueError", .type "Exception", .type "BaseException", .type "object"]) KX NG (by k_is) (by k_exc) (by k_is) (by k_is) (by k_is)
    have h__law_source := G.fnK_mk (mg := mg) (dV := .none) (x := "_law_source") (st := L_k69.s__law_source) (ps := ["_law_cell_here"]) KX NG (by k_is) (by k_is) (by k_is) (by k_is)
    have h__law_cell := G.fnK_mk (mg := mg) (dV := .none) (x := "_law_cell") (st := L_k69.s__law_cell) (ps := ["_law_script", "_law_index"]) KX NG (by k_is) (by k_is) (by k_is) (by k_is)
    have h__law_draw := G.fnK_mk (mg := mg) (dV := .none) (x := "_law_draw") (st := L_k69.s__law_draw) (ps := ["_law_source_here", "_law_many"]) KX NG (by k_is) (by k_is) (by k_is) (by k_is)
    have h__law_choose := G.fnK_mk (mg := mg) (dV := .none) (x := "_law_choose") (st := L_k69.s__law_choose) (ps := ["_law_source_here", "_law_values"]) KX NG (by k_is) (by k_is) (by k_is) (by k_is)
    have h__law_sizes := G.fnK_mk (mg := mg) (dV := .none) (x := "_law_sizes") (st := L_k69.s__law_sizes) (ps := ["_law_source_here"]) KX NG (by k_is) (by k_is) (by k_is) (by k_is)
    have h__law_rows := G.fnK_mk (mg := mg) (dV := .none) (x := "_law_rows") (st := L_k69.s__law_rows) (ps := ["_law_source_here", "_law_width", "_law_height", "_law_colours"]) KX NG (by k_is) (by k_is) (by k_is) (by k_is)
    have h__law_square := G.fnK_mk (mg := mg) (dV := .none) (x := "_law_square") (st := L_k69.s__law_square) (ps := ["_law_source_here", "_law_far"]) KX NG (by k_is) (by k_is) (by k_is) (by k_is)
    have h__law_symmetry := G.fnK_mk (mg := mg) (dV := .none) (x := "_law_symmetry") (st := L_k69.s__law_symmetry) (ps := ["_law_source_here", "_law_far"]) KX NG (by k_is) (by k_is) (by k_is) (by k_is)
    have h__law_moves := G.fnK_mk (mg := mg) (dV := .none) (x := "_law_moves") (st := L_k69.s__law_moves) (ps := ["_law_source_here", "_law_width", "_law_height"]) KX NG (by k_is) (by k_is) (by k_is) (by k_is)
    have h__law_overlapping := G.fnK_mk (mg := mg) (dV := .none) (x := "_law_overlapping") (st := L_k69.s__law_overlapping) (ps := ["_law_source_here"]) KX NG (by k_is) (by k_is) (by k_is) (by k_is)
    have h__law_colour := G.fnK_mk (mg := mg) (dV := .none) (x := "_law_colour") (st := L_k69.s__law_colour) (ps := ["_law_rows_here", "_law_square_here"]) KX NG (by k_is) (by k_is) (by k_is) (by k_is)
    have h__law_linear := G.fnK_mk (mg := mg) (dV := .none) (x := "_law_linear") (st := L_k69.s__law_linear) (ps := ["_law_kind", "_law_vector"]) KX NG (by k_is) (by k_is) (by k_is) (by k_is)
    have h__law_image := G.fnK_mk (mg := mg) (dV := .none) (x := "_law_image") (st := L_k69.s__law_image) (ps := ["_law_symmetry_here", "_law_square_here"]) KX NG (by k_is) (by k_is) (by k_is) (by k_is)
    have h__law_keeps := G.fnK_mk (mg := mg) (dV := .none) (x := "_law_keeps") (st := L_k69.s__law_keeps) (ps := ["_law_rows_here", "_law_symmetry_here"]) KX NG (by k_is) (by k_is) (by k_is) (by k_is)
    have h__law_is_equal := G.fnK_mk (mg := mg) (dV := .none) (x := "_law_is_equal") (st := L_k69.s__law_is_equal) (ps := ["_law_actual", "_law_expected"]) KX NG (by k_is) (by k_is) (by k_is) (by k_is)
    have h_is_integer := G.fnK_mk (mg := mg) (dV := .none) (x := "is_integer") (st := L_k69.s_is_integer) (ps := ["thing"]) KX NG (by k_is) (by k_is) (by k_is) (by k_is)
    have h_is_between := G.fnK_mk (mg := mg) (dV := .none) (x := "is_between") (st := L_k69.s_is_between) (ps := ["thing", "least", "most"]) KX NG (by k_is) (by k_is) (by k_is) (by k_is)
    have h_is_row := G.fnK_mk (mg := mg) (dV := .none) (x := "is_row") (st := L_k69.s_is_row) (ps := ["thing"]) KX NG (by k_is) (by k_is) (by k_is) (by k_is)
    have h_is_pattern := G.fnK_mk (mg := mg) (dV := .none) (x := "is_pattern") (st := L_k69.s_is_pattern) (ps := ["thing"]) KX NG (by k_is) (by k_is) (by k_is) (by k_is)
    have h_need_pattern := G.fnK_mk (mg := mg) (dV := .none) (x := "need_pattern") (st := L_k69.s_need_pattern) (ps := ["thing"]) KX NG (by k_is) (by k_is) (by k_is) (by k_is)
    have h_is_symmetry := G.fnK_mk (mg := mg) (dV := .none) (x := "is_symmetry") (st := L_k69.s_is_symmetry) (ps := ["thing"]) KX NG (by k_is) (by k_is) (by k_is) (by k_is)
    have h_need_symmetry := G.fnK_mk (mg := mg) (dV := .none) (x := "need_symmetry") (st := L_k69.s_need_symmetry) (ps := ["thing"]) KX NG (by k_is) (by k_is) (by k_is) (by k_is)
    have h_colour_by := G.fnK_mk (mg := mg) (dV := .none) (x := "colour_by") (st := L_k69.s_colour_by) (ps := ["pattern", "square"]) KX NG (by k_is) (by k_is) (by k_is) (by k_is)
    have h_added := G.fnK_mk (mg := mg) (dV := .ref _) (x := "added") (st := L_k69.s_added) (ps := ["vector", "step", "many"]) KX NG (by k_is) (by k_is) (by k_is) (by k_is)
    have e_added := G.dflK_mk h_added (by k_is) (ds := [.int (1)]) (.cons G.kd_int .nil)
    have h_turned := G.fnK_mk (mg := mg) (dV := .none) (x := "turned") (st := L_k69.s_turned) (ps := ["kind", "vector"]) KX NG (by k_is) (by k_is) (by k_is) (by k_is)
    have h_offset := G.fnK_mk (mg := mg) (dV := .none) (x := "offset") (st := L_k69.s_offset) (ps := ["symmetry"]) KX NG (by k_is) (by k_is) (by k_is) (by k_is)
    have h_image_of := G.fnK_mk (mg := mg) (dV := .none) (x := "image_of") (st := L_k69.s_image_of) (ps := ["symmetry", "square"]) KX NG (by k_is) (by k_is) (by k_is) (by k_is)
    have h_agrees := G.fnK_mk (mg := mg) (dV := .none) (x := "agrees") (st := L_k69.s_agrees) (ps := ["pattern", "symmetry"]) KX NG (by k_is) (by k_is) (by k_is) (by k_is)
    have h_keeps := G.fnK_mk (mg := mg) (dV := .none) (x := "keeps") (st := L_k69.s_keeps) (ps := ["pattern", "symmetry"]) KX NG (by k_is) (by k_is) (by k_is) (by k_is)
    have h_law := G.fnK_mk (mg := mg) (dV := .none) (x := "law") (st := L_k69.s_law) (ps := ["_law_script"]) KX NG (by k_is) (by k_is) (by k_is) (by k_is)
    have e := hmg.symm.trans h_law.at_
    cases e
    refine ⟨_, [], { T := [], es := [] }, G.noTabs, fun s u => G.binds_at h_law (fun _ _ _ _ _ _ _ => rfl) s u, fun base _ _ sys TB => ?_⟩
    have g__law_source := L_k69.g__law_source (P := PySem.Challenge.pw_gridsym_k69_which_symmetries_keep_a_patt) (w := w) (Γ := { T := [], es := [] }) h__law_source sys z_max
    have f__law_source := G.called_of h__law_source (L_k69.b__law_source h__law_source) g__law_source
    have g__law_cell := L_k69.g__law_cell (P := PySem.Challenge.pw_gridsym_k69_which_symmetries_keep_a_patt) (w := w) (Γ := { T := [], es := [] }) h__law_cell sys z_len
    have f__law_cell := G.called_of h__law_cell (L_k69.b__law_cell h__law_cell) g__law_cell
    have g__law_draw := L_k69.g__law_draw (P := PySem.Challenge.pw_gridsym_k69_which_symmetries_keep_a_patt) (w := w) (Γ := { T := [], es := [] }) h__law_draw sys
    have f__law_draw := G.called_of h__law_draw (L_k69.b__law_draw h__law_draw) g__law_draw
    have g__law_choose := L_k69.g__law_choose (P := PySem.Challenge.pw_gridsym_k69_which_symmetries_keep_a_patt) (w := w) (Γ := { T := [], es := [] }) h__law_choose sys z_len f__law_draw
    have f__law_choose := G.called_of h__law_choose (L_k69.b__law_choose h__law_choose) g__law_choose
    have g__law_sizes := L_k69.g__law_sizes (P := PySem.Challenge.pw_gridsym_k69_which_symmetries_keep_a_patt) (w := w) (Γ := { T := [], es := [] }) h__law_sizes sys f__law_choose
    have f__law_sizes := G.called_of h__law_sizes (L_k69.b__law_sizes h__law_sizes) g__law_sizes
    have g__law_rows := L_k69.g__law_rows (P := PySem.Challenge.pw_gridsym_k69_which_symmetries_keep_a_patt) (w := w) (Γ := { T := [], es := [] }) h__law_rows sys z_min z_range z_tuple f__law_draw
    have f__law_rows := G.called_of h__law_rows (L_k69.b__law_rows h__law_rows) g__law_rows
    have g__law_square := L_k69.g__law_square (P := PySem.Challenge.pw_gridsym_k69_which_symmetries_keep_a_patt) (w := w) (Γ := { T := [], es := [] }) h__law_square sys f__law_draw
    have f__law_square := G.called_of h__law_square (L_k69.b__law_square h__law_square) g__law_square
    have g__law_symmetry := L_k69.g__law_symmetry (P := PySem.Challenge.pw_gridsym_k69_which_symmetries_keep_a_patt) (w := w) (Γ := { T := [], es := [] }) h__law_symmetry sys f__law_draw f__law_square
    have f__law_symmetry := G.called_of h__law_symmetry (L_k69.b__law_symmetry h__law_symmetry) g__law_symmetry
    have g__law_moves := L_k69.g__law_moves (P := PySem.Challenge.pw_gridsym_k69_which_symmetries_keep_a_patt) (w := w) (Γ := { T := [], es := [] }) h__law_moves sys z_range f__law_square f__law_symmetry
    have f__law_moves := G.called_of h__law_moves (L_k69.b__law_moves h__law_moves) g__law_moves
    have g__law_overlapping := L_k69.g__law_overlapping (P := PySem.Challenge.pw_gridsym_k69_which_symmetries_keep_a_patt) (w := w) (Γ := { T := [], es := [] }) h__law_overlapping sys z_max z_min z_range z_tuple f__law_draw
    have f__law_overlapping := G.called_of h__law_overlapping (L_k69.b__law_overlapping h__law_overlapping) g__law_overlapping
    have g__law_colour := L_k69.g__law_colour (P := PySem.Challenge.pw_gridsym_k69_which_symmetries_keep_a_patt) (w := w) (Γ := { T := [], es := [] }) h__law_colour sys z_len
    have f__law_colour := G.called_of h__law_colour (L_k69.b__law_colour h__law_colour) g__law_colour
    have g__law_linear := L_k69.g__law_linear (P := PySem.Challenge.pw_gridsym_k69_which_symmetries_keep_a_patt) (w := w) (Γ := { T := [], es := [] }) h__law_linear sys z_range
    have f__law_linear := G.called_of h__law_linear (L_k69.b__law_linear h__law_linear) g__law_linear
    have g__law_image := L_k69.g__law_image (P := PySem.Challenge.pw_gridsym_k69_which_symmetries_keep_a_patt) (w := w) (Γ := { T := [], es := [] }) h__law_image sys f__law_linear
    have f__law_image := G.called_of h__law_image (L_k69.b__law_image h__law_image) g__law_image
    have g__law_keeps := L_k69.g__law_keeps (P := PySem.Challenge.pw_gridsym_k69_which_symmetries_keep_a_patt) (w := w) (Γ := { T := [], es := [] }) h__law_keeps sys z_len z_range f__law_colour f__law_image
    have f__law_keeps := G.called_of h__law_keeps (L_k69.b__law_keeps h__law_keeps) g__law_keeps
    have g__law_is_equal := L_k69.g__law_is_equal (P := PySem.Challenge.pw_gridsym_k69_which_symmetries_keep_a_patt) (w := w) (Γ := { T := [], es := [] }) h__law_is_equal sys z_repr
    have f__law_is_equal := G.called_of h__law_is_equal (L_k69.b__law_is_equal h__law_is_equal) g__law_is_equal
    have g_is_integer := L_k69.g_is_integer (P := PySem.Challenge.pw_gridsym_k69_which_symmetries_keep_a_patt) (w := w) (Γ := { T := [], es := [] }) h_is_integer sys z_bool z_int z_isinstance
    have f_is_integer := G.called_of h_is_integer (L_k69.b_is_integer h_is_integer) g_is_integer
    have g_is_between := L_k69.g_is_between (P := PySem.Challenge.pw_gridsym_k69_which_symmetries_keep_a_patt) (w := w) (Γ := { T := [], es := [] }) h_is_between sys f_is_integer
    have f_is_between := G.called_of h_is_between (L_k69.b_is_between h_is_between) g_is_between
    have g_is_row := L_k69.g_is_row (P := PySem.Challenge.pw_gridsym_k69_which_symmetries_keep_a_patt) (w := w) (Γ := { T := [], es := [] }) h_is_row sys z_all z_isinstance z_len z_tuple k_MOST_COLOUR k_MOST_SIDE f_is_between
    have f_is_row := G.called_of h_is_row (L_k69.b_is_row h_is_row) g_is_row
    have g_is_pattern := L_k69.g_is_pattern (P := PySem.Challenge.pw_gridsym_k69_which_symmetries_keep_a_patt) (w := w) (Γ := { T := [], es := [] }) h_is_pattern sys z_all z_isinstance z_len z_tuple k_MOST_SIDE f_is_row
    have f_is_pattern := G.called_of h_is_pattern (L_k69.b_is_pattern h_is_pattern) g_is_pattern
    have g_need_pattern := L_k69.g_need_pattern (P := PySem.Challenge.pw_gridsym_k69_which_symmetries_keep_a_patt) (w := w) (Γ := { T := [], es := [] }) h_need_pattern sys x_PatternError f_is_pattern
    have f_need_pattern := G.called_of h_need_pattern (L_k69.b_need_pattern h_need_pattern) g_need_pattern
    have g_is_symmetry := L_k69.g_is_symmetry (P := PySem.Challenge.pw_gridsym_k69_which_symmetries_keep_a_patt) (w := w) (Γ := { T := [], es := [] }) h_is_symmetry sys z_all z_isinstance z_len z_tuple k_KINDS f_is_between f_is_integer
    have f_is_symmetry := G.called_of h_is_symmetry (L_k69.b_is_symmetry h_is_symmetry) g_is_symmetry
    have g_need_symmetry := L_k69.g_need_symmetry (P := PySem.Challenge.pw_gridsym_k69_which_symmetries_keep_a_patt) (w := w) (Γ := { T := [], es := [] }) h_need_symmetry sys x_SymmetryError f_is_symmetry
    have f_need_symmetry := G.called_of h_need_symmetry (L_k69.b_need_symmetry h_need_symmetry) g_need_symmetry
    have g_colour_by := L_k69.g_colour_by (P := PySem.Challenge.pw_gridsym_k69_which_symmetries_keep_a_patt) (w := w) (Γ := { T := [], es := [] }) h_colour_by sys z_len
    have f_colour_by := G.called_of h_colour_by (L_k69.b_colour_by h_colour_by) g_colour_by
    have g_added := L_k69.g_added (P := PySem.Challenge.pw_gridsym_k69_which_symmetries_keep_a_patt) (w := w) (Γ := { T := [], es := [] }) h_added sys
    have f_added_1 := G.called_d h_added (L_k69.bd_added_1 h_added e_added) g_added
    have g_turned := L_k69.g_turned (P := PySem.Challenge.pw_gridsym_k69_which_symmetries_keep_a_patt) (w := w) (Γ := { T := [], es := [] }) h_turned sys k_LINEAR
    have f_turned := G.called_of h_turned (L_k69.b_turned h_turned) g_turned
    have g_offset := L_k69.g_offset (P := PySem.Challenge.pw_gridsym_k69_which_symmetries_keep_a_patt) (w := w) (Γ := { T := [], es := [] }) h_offset sys
    have f_offset := G.called_of h_offset (L_k69.b_offset h_offset) g_offset
    have g_image_of := L_k69.g_image_of (P := PySem.Challenge.pw_gridsym_k69_which_symmetries_keep_a_patt) (w := w) (Γ := { T := [], es := [] }) h_image_of sys f_added_1 f_offset f_turned
    have f_image_of := G.called_of h_image_of (L_k69.b_image_of h_image_of) g_image_of
    have g_agrees := L_k69.g_agrees (P := PySem.Challenge.pw_gridsym_k69_which_symmetries_keep_a_patt) (w := w) (Γ := { T := [], es := [] }) h_agrees sys z_enumerate f_colour_by f_image_of
    have f_agrees := G.called_of h_agrees (L_k69.b_agrees h_agrees) g_agrees
    have g_keeps := L_k69.g_keeps (P := PySem.Challenge.pw_gridsym_k69_which_symmetries_keep_a_patt) (w := w) (Γ := { T := [], es := [] }) h_keeps sys z_len k_SHIFT f_agrees f_need_pattern f_need_symmetry f_turned
    have f_keeps := G.called_of h_keeps (L_k69.b_keeps h_keeps) g_keeps
    exact L_k69.g_law h_law sys z_len z_max z_min z_range z_repr f__law_cell f__law_choose f__law_is_equal f__law_keeps f__law_moves f__law_overlapping f__law_rows f__law_sizes f__law_source f_keeps
