import PyProof.Rows.All
import Wide.All
import OpenK.AllK
import Wide.FinOn
import HandS.ForMost
import HandS.ForExc
import HandS.TupAny
import HandS.TupLe
import HandS.Deep
import HandS.Wide
import HandS.IsInst
import HandS.Flow
import HandS.Lambda
import HandS.Small
import HandS.Dict
import HandS.Iter
import HandS.More
import HandS.Style
import HandS.NoneIn
import HandS.EndTab
import HandS.ExcOwn
import HandS.Defaults
import HandS.Strs
import HandS.ExcIs
import HandS.HotCalls
import HandS.SortRule
import HandS.SortInts
import HandS.TupSets
import KE.GoesEnum
import HandS.ListItems
import HandS.TupMul
import KE.KEqNest
import HandS.Text
import HandS.FStr
import PySem.Challenge.RW_gridsym_k87_texts_by_hand_and_by_names
set_option Elab.async false
set_option linter.all false
set_option maxRecDepth 100000
/-! the data layer: values as PyData, bindings of a frame's slots, what an expression does as a function of the bindings -/
namespace G
open PySem PySem.Spec PyProof.Rows L2
abbrev St := L2.St
def kD : Key → PyData
  | .inl i => .int i
  | .inr x => .str x
/-- a list that nobody writes: frozen, or of the module -/
def LstR (K : PySem.W.Frag) (H : Hp) (a : Addr) (xs : List V) : Prop :=
  (∃ o, H a = some (.frz o (.lst xs))) ∨
    ∃ (its : List Value) (n : Nat), K.lookup a = some { cls := .type "list", data := .seq its.toArray n } ∧ its.length ≤ sizeLine ∧ Vals xs its
/-- a list that is read -/
def LstX (K : PySem.W.Frag) (H : Hp) (a : Addr) (xs : List V) : Prop := H a = some (.lst xs) ∨ LstR K H a xs
/-- a table of code objects: it grows as lambdas are made -/
def isTb : HO → Prop
  | .tbl _ => True
  | _ => False
/-- tables when a list, dict .. is written -/
theorem tabs_upd {T : List (Addr × Str)} {H : Hp} {a : Addr} {o o' : HO} (t : LamX.Tabs T H) (e : H a = some o) (n1 : ¬ isTb o) (n2 : ∀ φ, o ≠ .ext φ) : LamX.Tabs T (upd H a o') := fun p hp => by
  obtain ⟨ps, h1, h2, h3⟩ := t p hp
  refine ⟨ps, ?_, h2, fun pos cv hc => ?_⟩
  · rw [upd_ne]
    · exact h1
    · intro z
      rw [z, e] at h1
      cases h1
      exact n1 trivial
  · obtain ⟨c, e1, e2⟩ := h3 pos cv hc
    refine ⟨c, e1, ?_⟩
    rw [upd_ne]
    · exact e2
    · intro z
      rw [z, e] at e2
      exact n2 _ (Option.some.inj e2)
/-- a dict; what may be locked while it is walked -/
def isDc : HO → Prop
  | .dK _ => True
  | _ => False
/-- the object stands there, or (a dict) stands there locked -/
def HasO (H : Hp) (a : Addr) (o : HO) : Prop := H a = some o ∨ (isDc o ∧ ∃ od, H a = some (.frz od o))
theorem HasO.lst {H : Hp} {a : Addr} {xs : List V} (h : HasO H a (.lst xs)) : H a = some (.lst xs) := by
  rcases h with h | ⟨h, _⟩
  · exact h
  · exact h.elim
theorem HasO.some {H : Hp} {a : Addr} {o : HO} (h : HasO H a o) : ∃ u, H a = some u := by
  rcases h with h | ⟨_, od, h⟩
  · exact ⟨_, h⟩
  · exact ⟨_, h⟩
mutual
/-- v is the datum d; its lists and dicts are shared ones (in S) -/
inductive Dr (K : PySem.W.Frag) (S : Addr → Prop) (H : Hp) : V → PyData → Prop
  | non : Dr K S H .non .none
  | bl (b : Bool) : Dr K S H (.bl b) (.bool b)
  | int (i : Int) : Dr K S H (.int i) (.int i)
  | str (x : Str) : Dr K S H (.str x) (.str x)
  | obj {a : Addr} {o : HO} {d : PyData} : HasO H a o → S a → Ct K S H o d → Dr K S H (.ref a) d
  | lstR {a : Addr} {xs : List V} {ds : List PyData} : LstR K H a xs → DrAll K S H xs ds → Dr K S H (.ref a) (.list ds)
  | tup {a : Addr} {xs : List V} {ds : List PyData} : SqT K H a xs → DrAll K S H xs ds → Dr K S H (.ref a) (.tuple ds)
inductive DrAll (K : PySem.W.Frag) (S : Addr → Prop) (H : Hp) : List V → List PyData → Prop
  | nil : DrAll K S H [] []
  | cons {v : V} {vs : List V} {d : PyData} {ds : List PyData} : Dr K S H v d → DrAll K S H vs ds → DrAll K S H (v :: vs) (d :: ds)
/-- what a list or dict object holds -/
inductive Ct (K : PySem.W.Frag) (S : Addr → Prop) (H : Hp) : HO → PyData → Prop
  | lst {xs : List V} {ds : List PyData} : DrAll K S H xs ds → Ct K S H (.lst xs) (.list ds)
  | dK {kvs : List (Key × V)} {ds : List PyData} : DrAll K S H (kvs.map (·.2)) ds → Ct K S H (.dK kvs) (.dict ((kvs.map fun p => kD p.1).zip ds))
  | dT {kvs : List (List Key × V)} {ds : List PyData} : DrAll K S H (kvs.map (·.2)) ds → Ct K S H (.dT kvs) (.dict ((kvs.map fun p => PyData.tuple (p.1.map kD)).zip ds))
end
theorem DrAll.length {K : PySem.W.Frag} {S : Addr → Prop} {H : Hp} : ∀ {vs : List V} {ds : List PyData}, DrAll K S H vs ds → vs.length = ds.length
  | [], _, h => by cases h; rfl
  | v :: vs, _, h => by
    cases h with
    | cons h1 h2 => simp only [List.length_cons]; rw [DrAll.length h2]
theorem DrAll.get {K : PySem.W.Frag} {S : Addr → Prop} {H : Hp} : ∀ {vs : List V} {ds : List PyData} {i : Nat} {d : PyData}, DrAll K S H vs ds → ds[i]? = some d → ∃ v, vs[i]? = some v ∧ Dr K S H v d
  | [], _, i, d, h, e => by cases h; simp at e
  | v :: vs, _, 0, d, h, e => by
    cases h with
    | cons h1 h2 => simp at e; subst e; exact ⟨v, rfl, h1⟩
  | v :: vs, _, i + 1, d, h, e => by
    cases h with
    | cons h1 h2 =>
      obtain ⟨u, e1, e2⟩ := DrAll.get (i := i) h2 (by simpa using e)
      exact ⟨u, by simpa using e1, e2⟩
theorem DrAll.append {K : PySem.W.Frag} {S : Addr → Prop} {H : Hp} : ∀ {vs us : List V} {ds es : List PyData}, DrAll K S H vs ds → DrAll K S H us es → DrAll K S H (vs ++ us) (ds ++ es)
  | [], _, _, _, h, h' => by cases h; exact h'
  | v :: vs, _, _, _, h, h' => by
    cases h with
    | cons h1 h2 => exact .cons h1 (DrAll.append h2 h')
theorem DrAll.drop {K : PySem.W.Frag} {S : Addr → Prop} {H : Hp} : ∀ {vs : List V} {ds : List PyData} (n : Nat), DrAll K S H vs ds → DrAll K S H (vs.drop n) (ds.drop n)
  | _, _, 0, h => h
  | [], _, n + 1, h => by cases h; exact .nil
  | v :: vs, _, n + 1, h => by
    cases h with
    | cons h1 h2 => exact DrAll.drop n h2
theorem DrAll.take {K : PySem.W.Frag} {S : Addr → Prop} {H : Hp} : ∀ {vs : List V} {ds : List PyData} (n : Nat), DrAll K S H vs ds → DrAll K S H (vs.take n) (ds.take n)
  | _, _, 0, h => .nil
  | [], _, n + 1, h => by cases h; exact .nil
  | v :: vs, _, n + 1, h => by
    cases h with
    | cons h1 h2 => exact .cons h1 (DrAll.take n h2)
theorem DrAll.set {K : PySem.W.Frag} {S : Addr → Prop} {H : Hp} {v : V} {d : PyData} (r : Dr K S H v d) : ∀ {vs : List V} {ds : List PyData} (n : Nat), DrAll K S H vs ds → DrAll K S H (vs.set n v) (ds.set n d)
  | [], _, _, h => by cases h; exact .nil
  | u :: vs, _, 0, h => by
    cases h with
    | cons h1 h2 => exact .cons r h2
  | u :: vs, _, n + 1, h => by
    cases h with
    | cons h1 h2 => exact .cons h1 (DrAll.set r n h2)
theorem DrAll.reverse {K : PySem.W.Frag} {S : Addr → Prop} {H : Hp} : ∀ {vs : List V} {ds : List PyData}, DrAll K S H vs ds → DrAll K S H vs.reverse ds.reverse
  | [], _, h => by cases h; exact .nil
  | v :: vs, _, h => by
    cases h with
    | cons h1 h2 => rw [List.reverse_cons, List.reverse_cons]; exact (DrAll.reverse h2).append (.cons h1 .nil)
/-- the data part of a step: what Dr leans on is kept -/
structure Ex (S : Addr → Prop) (H : Hp) (S' : Addr → Prop) (H' : Hp) : Prop where
  s : ∀ a, S a → S' a
  sh : ∀ a o, S a → ¬ isTb o → HasO H a o → HasO H' a o
  tup : ∀ a xs, H a = some (.tup xs) → H' a = some (.tup xs)
  frz : ∀ a o u, H a = some (.frz o u) → H' a = some (.frz o u)
theorem SqT.ex {K : PySem.W.Frag} {S S' : Addr → Prop} {H H' : Hp} (e : Ex S H S' H') {a : Addr} {xs : List V} (h : SqT K H a xs) : SqT K H' a xs := by
  rcases h with (h | ⟨o, h⟩) | h
  · exact .inl (.inl (e.tup _ _ h))
  · exact .inl (.inr ⟨o, e.frz _ _ _ h⟩)
  · exact .inr h
theorem LstR.ex {K : PySem.W.Frag} {S S' : Addr → Prop} {H H' : Hp} (e : Ex S H S' H') {a : Addr} {xs : List V} (h : LstR K H a xs) : LstR K H' a xs := by
  rcases h with ⟨o, h⟩ | h
  · exact .inl ⟨o, e.frz _ _ _ h⟩
  · exact .inr h
theorem LstR.sq {K : PySem.W.Frag} {H : Hp} {a : Addr} {xs : List V} (h : LstR K H a xs) : SqL K H a xs := by
  rcases h with ⟨o, h⟩ | ⟨its, n, h, z, v⟩
  · exact .inl (.inr ⟨o, h⟩)
  · exact .inr ⟨_, its.toArray, n, h, rfl, rfl, rfl, by simpa using z, by simpa using v⟩
theorem LstX.sq {K : PySem.W.Frag} {H : Hp} {a : Addr} {xs : List V} (h : LstX K H a xs) : SqL K H a xs := by
  rcases h with h | h
  · exact .inl (.inl h)
  · exact h.sq
theorem LstX.at_ {X : Cx} {pins : List (Addr × Obj)} {σ : St} {H : Hp} {s : Shared} {a : Addr} {xs : List V} (I : Inv X pins σ H s) (h : LstX X.K H a xs) :
    ∃ (its : List Value) (n : Nat), Vals xs its ∧ s.heap.get? a = some { cls := .type "list", data := .seq its.toArray n } ∧ xs.length ≤ sizeLine := by
  rcases h with h | ⟨o, h⟩ | ⟨its, n, h, z, v⟩
  · exact I.lst h
  · obtain ⟨e, q⟩ := (show ObjOk X.prog X.w H s.heap a (.frz o (.lst xs)) from I.hok a _ h)
    obtain ⟨z, its, n, r, e2⟩ := q
    exact ⟨its, n, r, e2, z⟩
  · exact ⟨its, n, v, I.kIn _ _ h, by rw [v.length]; exact z⟩
theorem Ct.notTb {K : PySem.W.Frag} {S : Addr → Prop} {H : Hp} {o : HO} {d : PyData} (h : Ct K S H o d) : ¬ isTb o := by cases h <;> exact fun z => z
theorem tb_dc {o : HO} (h : isTb o) : ¬ isDc o := by cases o <;> first | exact fun z => z | exact h.elim
theorem Dr.ex {K : PySem.W.Frag} {S S' : Addr → Prop} {H H' : Hp} (e : Ex S H S' H') {v : V} {d : PyData} (h : Dr K S H v d) : Dr K S' H' v d :=
  Dr.rec (motive_1 := fun v d _ => Dr K S' H' v d) (motive_2 := fun vs ds _ => DrAll K S' H' vs ds) (motive_3 := fun o d _ => Ct K S' H' o d)
    .non .bl .int .str (fun ha hs q hc => .obj (e.sh _ _ hs q.notTb ha) (e.s _ hs) hc) (fun hl _ h => .lstR (hl.ex e) h) (fun ht _ h => .tup (SqT.ex e ht) h)
    .nil (fun _ _ h1 h2 => .cons h1 h2) (fun _ h => .lst h) (fun _ h => .dK h) (fun _ h => .dT h) h
theorem DrAll.ex {K : PySem.W.Frag} {S S' : Addr → Prop} {H H' : Hp} (e : Ex S H S' H') : ∀ {vs : List V} {ds : List PyData}, DrAll K S H vs ds → DrAll K S' H' vs ds
  | [], _, h => by cases h; exact .nil
  | v :: vs, _, h => by
    cases h with
    | cons h1 h2 => exact .cons (h1.ex e) (DrAll.ex e h2)
theorem Ct.ex {K : PySem.W.Frag} {S S' : Addr → Prop} {H H' : Hp} (e : Ex S H S' H') {o : HO} {d : PyData} (h : Ct K S H o d) : Ct K S' H' o d := by
  cases h with
  | lst h => exact .lst (h.ex e)
  | dK h => exact .dK (h.ex e)
  | dT h => exact .dT (h.ex e)
/-- objects that Ct speaks of -/
theorem Ct.notTup {K : PySem.W.Frag} {S : Addr → Prop} {H : Hp} {xs : List V} {d : PyData} (h : Ct K S H (.tup xs) d) : False := by cases h
theorem Ct.notFrz {K : PySem.W.Frag} {S : Addr → Prop} {H : Hp} {o : Obj} {u : HO} {d : PyData} (h : Ct K S H (.frz o u) d) : False := by cases h
/-! ### bindings -/
/-- what is known of a slot: nothing; a datum; a list or dict that this frame alone holds; one that the caller handed to be written -/
inductive B where
  | un | val (d : PyData) | own (d : PyData) | prm (d : PyData) | exc (n : Str)
/-- what all frames know: the tables of code objects and the names in them, the classes of exceptions -/
structure Gx where
  T : List (Addr × Str)
  es : List (Str × Addr)
  /-- in an except suite: the address of the exception, and of its class -/
  pa : Addr := 0
  pc : Addr := 0
structure Ax where
  f : Nat → Option Addr
  g : Gx
instance : CoeFun Ax (fun _ => Nat → Option Addr) := ⟨Ax.f⟩
/-- what an expression gives: a datum; a new list or dict; what stands in slot i -/
inductive Ev where
  | val (d : PyData) | fr (d : PyData) | sl (i : Nat)
/-- a result: a value, an exception of the class of that name (and what is known of the slots), or nothing is said -/
inductive Rs (α : Type) where
  | ok (a : α) | ex (n : Str) (ρ : List B) | bad
def Rs.bind {α β : Type} (r : Rs α) (f : α → Rs β) : Rs β := match r with
  | .ok a => f a
  | .ex n ρ => .ex n ρ
  | .bad => .bad
instance : Monad Rs where
  pure := .ok
  bind := Rs.bind
abbrev SE := List B → Rs (Ev × List B)
def isOw : Option B → Bool
  | some (.own _) => true
  | some (.prm _) => true
  | _ => false
def OwI (σ : St) (ρ : List B) (i : Nat) (a : Addr) : Prop := isOw ρ[i]? = true ∧ σ[i]? = some (some (.ref a))
def Ow (σ : St) (ρ : List B) (a : Addr) : Prop := ∃ i, OwI σ ρ i a
def OwnAt (K : PySem.W.Frag) (S : Addr → Prop) (H : Hp) (a : Addr) (d : PyData) : Prop := ∃ o, H a = some o ∧ Ct K S H o d
def Bd (K : PySem.W.Frag) (A0 : Ax) (S : Addr → Prop) (H : Hp) (σ : St) (i : Nat) : B → Prop
  | .un => True
  | .val d => ∃ v, σ[i]? = some (some v) ∧ Dr K S H v d
  | .own d => ∃ a, σ[i]? = some (some (.ref a)) ∧ ¬ S a ∧ OwnAt K S H a d
  | .prm d => ∃ a, σ[i]? = some (some (.ref a)) ∧ A0 i = some a ∧ ¬ S a ∧ OwnAt K S H a d
  | .exc n => (n, A0.g.pc) ∈ A0.g.es ∧ σ[i]? = some (some (.ref A0.g.pa))
/-- the slots are as ρ tells -/
structure Rp (K : PySem.W.Frag) (A0 : Ax) (S : Addr → Prop) (H : Hp) (σ : St) (ρ : List B) : Prop where
  len : σ.length = ρ.length
  bd : ∀ i b, ρ[i]? = some b → Bd K A0 S H σ i b
  dis : ∀ i j a, OwI σ ρ i a → OwI σ ρ j a → i = j
  al : ∀ a, S a → ∃ o, H a = some o
  np : ∀ (i : Nat) (d : PyData) (a : Addr), ρ[i]? = some (B.own d) → σ[i]? = some (some (V.ref a)) → ∀ j, A0 j ≠ some a
  aa : ∀ j a, A0 j = some a → ∃ o, H a = some o
  tb : LamX.Tabs A0.g.T H
/-- what may have changed: the owned ones; S grows by what is new or was owned -/
structure Tr (S : Addr → Prop) (H : Hp) (O S' : Addr → Prop) (H' : Hp) (O' : Addr → Prop) : Prop where
  s : ∀ a, S a → S' a
  keep : ∀ a o, H a = some o → ¬ O a → H' a = some o ∨ (isDc o ∧ S' a ∧ ∃ od, H' a = some (.frz od o)) ∨ (isTb o ∧ ∃ o', isTb o' ∧ H' a = some o')
  dom : ∀ a o, H a = some o → ∃ o', H' a = some o'
  o : ∀ a, O' a → O a ∨ H a = none
  g : ∀ a, S' a → S a ∨ O a ∨ H a = none
theorem Tr.refl {S : Addr → Prop} {H : Hp} {O : Addr → Prop} : Tr S H O S H O := ⟨fun _ h => h, fun _ _ h _ => .inl h, fun _ o h => ⟨o, h⟩, fun _ h => .inl h, fun _ h => .inl h⟩
section
variable {S : Addr → Prop} {H : Hp} {O S' : Addr → Prop} {H' : Hp} {O' : Addr → Prop}
theorem Tr.keepN (t : Tr S H O S' H' O') {a : Addr} {o : HO} (h : H a = some o) (n : ¬ O a) (hd : ¬ isDc o) (ht : ¬ isTb o := by exact fun z => z) : H' a = some o := by
  rcases t.keep a o h n with q | ⟨q, _⟩ | ⟨q, _⟩
  · exact q
  · exact (hd q).elim
  · exact (ht q).elim
theorem Tr.keepS (t : Tr S H O S' H' O') {a : Addr} {o : HO} (h : H a = some o) (n : ¬ O a) (hs : ¬ S' a) (ht : ¬ isTb o := by exact fun z => z) : H' a = some o := by
  rcases t.keep a o h n with q | ⟨_, q, _⟩ | ⟨q, _⟩
  · exact q
  · exact (hs q).elim
  · exact (ht q).elim
theorem Tr.hasO (t : Tr S H O S' H' O') {a : Addr} {o : HO} (h : HasO H a o) (n : ¬ O a) (ht : ¬ isTb o) : HasO H' a o := by
  rcases h with h | ⟨hd, od, h⟩
  · rcases t.keep a o h n with q | ⟨q, _, od, e⟩ | ⟨q, _⟩
    · exact .inl q
    · exact .inr ⟨q, od, e⟩
    · exact (ht q).elim
  · exact .inr ⟨hd, od, t.keepN h n fun z => z⟩
end
theorem Tr.fresh {S : Addr → Prop} {H : Hp} {O S' : Addr → Prop} {H' : Hp} {O' : Addr → Prop} (t : Tr S H O S' H' O') {a : Addr} (h : H' a = none) : H a = none := by
  cases e : H a with
  | none => rfl
  | some o => obtain ⟨o', e'⟩ := t.dom a o e; rw [h] at e'; cases e'
theorem Tr.trans {S : Addr → Prop} {H : Hp} {O S1 : Addr → Prop} {H1 : Hp} {O1 S2 : Addr → Prop} {H2 : Hp} {O2 : Addr → Prop} (t : Tr S H O S1 H1 O1) (u : Tr S1 H1 O1 S2 H2 O2) : Tr S H O S2 H2 O2 := by
  refine ⟨fun a h => u.s a (t.s a h), fun a o h n => ?_, fun a o h => ?_, fun a h => ?_, fun a h => ?_⟩
  · have n1 : ¬ O1 a := fun z => by
      rcases t.o a z with q | q
      · exact n q
      · rw [h] at q; cases q
    rcases t.keep a o h n with q | ⟨q1, q2, od, q3⟩ | ⟨q1, o', q2, q3⟩
    · exact u.keep a o q n1
    · exact .inr (.inl ⟨q1, u.s a q2, od, u.keepN q3 n1 fun z => z⟩)
    · rcases u.keep a o' q3 n1 with p | ⟨p1, _⟩ | ⟨_, o2, p2, p3⟩
      · exact .inr (.inr ⟨q1, o', q2, p⟩)
      · exact (tb_dc q2 p1).elim
      · exact .inr (.inr ⟨q1, o2, p2, p3⟩)
  · obtain ⟨o', e⟩ := t.dom a o h
    exact u.dom a o' e
  · rcases u.o a h with q | q
    · exact t.o a q
    · exact .inr (t.fresh q)
  · rcases u.g a h with q | q | q
    · exact t.g a q
    · rcases t.o a q with z | z
      · exact .inr (.inl z)
      · exact .inr (.inr z)
    · exact .inr (.inr (t.fresh q))
section
variable {K : PySem.W.Frag} {A0 : Ax} {S S' : Addr → Prop} {H H' : Hp} {σ σ' : St} {ρ ρ' : List B} {O' : Addr → Prop}
theorem Rp.own (r : Rp K A0 S H σ ρ) {i : Nat} {a : Addr} (h : OwI σ ρ i a) : ¬ S a ∧ ∃ d, OwnAt K S H a d := by
  obtain ⟨h1, h2⟩ := h
  cases e : ρ[i]? with
  | none => rw [e] at h1; cases h1
  | some b =>
    rw [e] at h1
    have q := r.bd i b e
    cases b with
    | un => cases h1
    | val d => cases h1
    | own d =>
      obtain ⟨a', e1, e2, e3⟩ := q
      rw [h2] at e1; cases e1
      exact ⟨e2, d, e3⟩
    | prm d =>
      obtain ⟨a', e1, _, e2, e3⟩ := q
      rw [h2] at e1; cases e1
      exact ⟨e2, d, e3⟩
    | exc n => cases h1
theorem bd_exc (_ : Ex S H S' H') {i : Nat} {n : Str} (h : Bd K A0 S H σ i (.exc n)) : Bd K A0 S' H' σ i (.exc n) := h
theorem Rp.sep (r : Rp K A0 S H σ ρ) {a : Addr} (h : S a) : ¬ Ow σ ρ a := fun ⟨_, q⟩ => (r.own q).1 h
theorem Ex.of_tr {O : Addr → Prop} (t : Tr S H O S' H' O') (hs : ∀ a, S a → ¬ O a) (hc : ∀ a, O a → ∃ d, OwnAt K S H a d) : Ex S H S' H' := by
  refine ⟨t.s, fun a o h nt q => t.hasO q (hs a h) nt, fun a xs h => t.keepN h (fun z => ?_) fun z => z, fun a o u h => t.keepN h (fun z => ?_) fun z => z⟩
  · obtain ⟨d, o, e, c⟩ := hc a z
    rw [h] at e; cases e; exact c.notTup
  · obtain ⟨d, o, e, c⟩ := hc a z
    rw [h] at e; cases e; exact c.notFrz
theorem Rp.ex (r : Rp K A0 S H σ ρ) (t : Tr S H (Ow σ ρ) S' H' O') : Ex S H S' H' := Ex.of_tr (K := K) t (fun a h => r.sep h) fun a ⟨i, q⟩ => (r.own q).2
/-- an expression's value v -/
def RE (K : PySem.W.Frag) (A0 : Ax) (H0 : Hp) (S : Addr → Prop) (H : Hp) (σ : St) (ρ : List B) (v : V) : Ev → Prop
  | .val d => Dr K S H v d
  | .fr d => ∃ a, v = .ref a ∧ (H0 a = none ∧ ∀ j, A0 j ≠ some a) ∧ ¬ S a ∧ ¬ Ow σ ρ a ∧ OwnAt K S H a d
  | .sl i => σ[i]? = some (some v)
theorem OwnAt.ex {a : Addr} {d : PyData} (e : Ex S H S' H') (k : ∀ o, H a = some o → H' a = some o) (h : OwnAt K S H a d) : OwnAt K S' H' a d :=
  let ⟨o, h1, h2⟩ := h
  ⟨o, k o h1, h2.ex e⟩
theorem RE.mono {H0 : Hp} {v : V} {e : Ev} (r : Rp K A0 S H σ ρ) (t : Tr S H (Ow σ ρ) S' H' (Ow σ ρ')) (h : RE K A0 H0 S H σ ρ v e) : RE K A0 H0 S' H' σ ρ' v e := by
  cases e with
  | val d => exact Dr.ex (r.ex t) h
  | sl i => exact h
  | fr d =>
    obtain ⟨a, rfl, h0, hs, ho, ha⟩ := h
    obtain ⟨o, e1, e2⟩ := ha
    have hs' : ¬ S' a := fun z => by
      rcases t.g a z with q | q | q
      · exact hs q
      · exact ho q
      · rw [e1] at q; cases q
    refine ⟨a, rfl, h0, hs', fun z => ?_, ⟨o, t.keepS e1 ho hs' e2.notTb, e2.ex (r.ex t)⟩⟩
    · rcases t.o a z with q | q
      · exact ho q
      · rw [e1] at q; cases q
theorem RE.back {H0 H00 : Hp} {v : V} {e : Ev} (dm : ∀ a, H0 a = none → H00 a = none) (h : RE K A0 H0 S H σ ρ v e) : RE K A0 H00 S H σ ρ v e := by
  cases e with
  | val d => exact h
  | sl i => exact h
  | fr d =>
    obtain ⟨a, rfl, h0, r⟩ := h
    exact ⟨a, rfl, ⟨dm a h0.1, h0.2⟩, r⟩
end
/-- the datum, whoever holds it -/
def Dw (K : PySem.W.Frag) (S : Addr → Prop) (H : Hp) (v : V) (d : PyData) : Prop := Dr K S H v d ∨ ∃ a, v = .ref a ∧ OwnAt K S H a d
def peekB : B → Option PyData
  | .un => none
  | .val d => some d
  | .own d => some d
  | .prm d => some d
  | .exc _ => none
def peek (ρ : List B) : Ev → Option PyData
  | .val d => some d
  | .fr d => some d
  | .sl i => (ρ[i]?).bind peekB
theorem peek_ok {K : PySem.W.Frag} {A0 : Ax} {S : Addr → Prop} {H H0 : Hp} {σ : St} {ρ : List B} {v : V} {e : Ev} {d : PyData} (r : Rp K A0 S H σ ρ) (h : RE K A0 H0 S H σ ρ v e) (p : peek ρ e = some d) : Dw K S H v d := by
  cases e with
  | val d' => cases p; exact .inl h
  | fr d' =>
    cases p
    obtain ⟨a, rfl, _, _, _, q⟩ := h
    exact .inr ⟨a, rfl, q⟩
  | sl i =>
    have hv : σ[i]? = some (some v) := h
    have p' : (ρ[i]?).bind peekB = some d := p
    cases e : ρ[i]? with
    | none => rw [e] at p'; cases p'
    | some b =>
      rw [e] at p'
      have q := r.bd i b e
      cases b with
      | un => cases p'
      | val d' =>
        cases p'
        obtain ⟨u, e1, e2⟩ := q
        rw [hv] at e1; cases e1
        exact .inl e2
      | exc n => cases p'
      | own d' =>
        cases p'
        obtain ⟨a, e1, _, e2⟩ := q
        rw [hv] at e1; cases e1
        exact .inr ⟨a, rfl, e2⟩
      | prm d' =>
        cases p'
        obtain ⟨a, e1, _, _, e2⟩ := q
        rw [hv] at e1; cases e1
        exact .inr ⟨a, rfl, e2⟩
section
variable {K : PySem.W.Frag} {S : Addr → Prop} {H : Hp} {v : V}
theorem Dw.int {i : Int} (h : Dw K S H v (.int i)) : v = .int i := by
  rcases h with h | ⟨a, rfl, o, h1, h2⟩
  · cases h with
    | int => rfl
    | obj _ _ c => cases c
  · cases h2
theorem Dw.bl {b : Bool} (h : Dw K S H v (.bool b)) : v = .bl b := by
  rcases h with h | ⟨a, rfl, o, h1, h2⟩
  · cases h with
    | bl => rfl
    | obj _ _ c => cases c
  · cases h2
theorem Dw.non (h : Dw K S H v .none) : v = .non := by
  rcases h with h | ⟨a, rfl, o, h1, h2⟩
  · cases h with
    | non => rfl
    | obj _ _ c => cases c
  · cases h2
theorem Dw.str {x : Str} (h : Dw K S H v (.str x)) : v = .str x := by
  rcases h with h | ⟨a, rfl, o, h1, h2⟩
  · cases h with
    | str => rfl
    | obj _ _ c => cases c
  · cases h2
theorem Dw.tup {ds : List PyData} (h : Dw K S H v (.tuple ds)) : ∃ a xs, v = .ref a ∧ SqT K H a xs ∧ DrAll K S H xs ds := by
  rcases h with h | ⟨a, rfl, o, h1, h2⟩
  · cases h with
    | tup h1 h2 => exact ⟨_, _, rfl, h1, h2⟩
    | obj _ _ c => cases c
  · cases h2
theorem Dw.lst {ds : List PyData} (h : Dw K S H v (.list ds)) : ∃ a xs, v = .ref a ∧ LstX K H a xs ∧ DrAll K S H xs ds := by
  rcases h with h | ⟨a, rfl, o, h1, h2⟩
  · cases h with
    | lstR h1 h2 => exact ⟨_, _, rfl, .inr h1, h2⟩
    | obj h1 _ c => cases c with
      | lst c => exact ⟨_, _, rfl, .inl h1.lst, c⟩
  · cases h2 with
    | lst c => exact ⟨_, _, rfl, .inl h1, c⟩
theorem Dr.w {d : PyData} (h : Dr K S H v d) : Dw K S H v d := .inl h
end
/-! data without dicts: as the library's Dp -/
mutual
theorem Dr.dp {K : PySem.W.Frag} {S : Addr → Prop} {H : Hp} : ∀ (d : PyData) (v : V), d.canLay0 = true → Dr K S H v d → Dp K H v d
  | .none, v, _, h => by rw [h.w.non]; exact .non
  | .bool b, v, _, h => by rw [h.w.bl]; exact .bl b
  | .int i, v, _, h => by rw [h.w.int]; exact .int i
  | .str x, v, _, h => by rw [h.w.str]; exact .str x
  | .list ds, v, c, h => by
    obtain ⟨a, xs, rfl, h1, h2⟩ := h.w.lst
    exact .lst h1.sq (DrAll.dp ds xs (by simpa only [PyData.canLay0] using c) h2)
  | .tuple ds, v, c, h => by
    obtain ⟨a, xs, rfl, h1, h2⟩ := h.w.tup
    exact .tup h1 (DrAll.dp ds xs (by simpa only [PyData.canLay0] using c) h2)
  | .dict _, _, c, _ => by simp [PyData.canLay0] at c
theorem DrAll.dp {K : PySem.W.Frag} {S : Addr → Prop} {H : Hp} : ∀ (ds : List PyData) (vs : List V), PyData.canLayAll0 ds = true → DrAll K S H vs ds → DpAll K H vs ds
  | [], _, _, h => by cases h; exact .nil
  | d :: ds, _, c, h => by
    cases h with
    | cons h1 h2 =>
      simp only [PyData.canLayAll0, Bool.and_eq_true] at c
      exact .cons (Dr.dp d _ c.1 h1) (DrAll.dp ds _ c.2 h2)
end
theorem Dw.dp {K : PySem.W.Frag} {S : Addr → Prop} {H : Hp} {v : V} {d : PyData} (c : d.canLay0 = true) (h : Dw K S H v d) : Dp K H v d := by
  cases d with
  | list ds =>
    obtain ⟨a, xs, rfl, h1, h2⟩ := h.lst
    exact .lst h1.sq (DrAll.dp ds xs (by simpa only [PyData.canLay0] using c) h2)
  | dict kvs => simp [PyData.canLay0] at c
  | none => rw [h.non]; exact .non
  | bool b => rw [h.bl]; exact .bl b
  | int i => rw [h.int]; exact .int i
  | str x => rw [h.str]; exact .str x
  | tuple ds =>
    obtain ⟨a, xs, rfl, h1, h2⟩ := h.tup
    exact .tup h1 (DrAll.dp ds xs (by simpa only [PyData.canLay0] using c) h2)
end G
namespace G
open PySem PySem.Spec PyProof.Rows L2
theorem PE_imp {X : Cx} {e : Expr} {t t' : TE} (h : PE X e t) (i : ∀ σ H Q, t' σ H Q → t σ H Q) : PE X e t' := ⟨fun pins s σ H Q I q => h.run pins s σ H Q I (i σ H Q q)⟩
theorem PT_imp {X : Cx} {e : Expr} {t t' : TT} (h : PT X e t) (i : ∀ σ H Q, t' σ H Q → t σ H Q) : PT X e t' := ⟨fun pins s σ H Q I q => h.run pins s σ H Q I (i σ H Q q)⟩
theorem PW_imp {X : Cx} {e : Expr} {t t' : TT} (h : PW X e t) (i : ∀ σ H Q, t' σ H Q → t σ H Q) : PW X e t' := ⟨fun w pins s σ H Q I q => h.run w pins s σ H Q I (i σ H Q q)⟩
theorem PA_imp {X : Cx} {e : List Expr} {t t' : TA} (h : PA X e t) (i : ∀ σ H Q, t' σ H Q → t σ H Q) : PA X e t' := ⟨fun p pins s σ H Q I q => h.run p pins s σ H Q I (i σ H Q q)⟩
theorem PS_imp {X : Cx} {e : Stmt} {t t' : TS} (h : PS X e t) (i : ∀ D σ H, t' D σ H → t D σ H) : PS X e t' := ⟨fun pins s σ H D I q => h.run pins s σ H D I (i D σ H q)⟩
theorem PSs_imp {X : Cx} {e : List Stmt} {t t' : TS} (h : PSs X e t) (i : ∀ D σ H, t' D σ H → t D σ H) : PSs X e t' := ⟨fun pins s σ H D I q => h.run pins s σ H D I (i D σ H q)⟩
/-- what the layer is told of a def's body: the parameters' addresses that may be written, what is wished of an exception -/
structure Gc where
  K : PySem.W.Frag
  mg : Str → Option Value
  A0 : Ax
  W : WX
def Gc.wx (g : Gc) (n : Str) (σ : St) (H : Hp) : Prop := ∀ C, g.mg n = some (.ref C) → g.W (.ref C) none σ H
def PostE (g : Gc) (S : Addr → Prop) (H : Hp) (σ : St) (ρ : List B) (r : Rs (Ev × List B)) (Q : VK) : Prop := match r with
  | .ok p => ∀ S' H' v, Tr S H (Ow σ ρ) S' H' (Ow σ p.2) → Rp g.K g.A0 S' H' σ p.2 → RE g.K g.A0 H S' H' σ p.2 v p.1 → Q v H'
  | .ex n ρ' => ∀ S' H', Tr S H (Ow σ ρ) S' H' (Ow σ ρ') → Rp g.K g.A0 S' H' σ ρ' → g.wx n σ H'
  | .bad => False
def tE (g : Gc) (f : SE) : TE := fun σ H Q => ∃ S ρ, Rp g.K g.A0 S H σ ρ ∧ PostE g S H σ ρ (f ρ) Q
def PostT (g : Gc) (S : Addr → Prop) (H : Hp) (σ : St) (ρ : List B) (r : Rs (Bool × List B)) (Q : Bool → Hp → Prop) : Prop := match r with
  | .ok p => ∀ S' H', Tr S H (Ow σ ρ) S' H' (Ow σ p.2) → Rp g.K g.A0 S' H' σ p.2 → Q p.1 H'
  | .ex n ρ' => ∀ S' H', Tr S H (Ow σ ρ) S' H' (Ow σ ρ') → Rp g.K g.A0 S' H' σ ρ' → g.wx n σ H'
  | .bad => False
abbrev SB := List B → Rs (Bool × List B)
def tT (g : Gc) (f : SB) : TT := fun σ H Q => ∃ S ρ, Rp g.K g.A0 S H σ ρ ∧ PostT g S H σ ρ (f ρ) Q
/-- an argument's value: no new object stays alone -/
def RE1 (K : PySem.W.Frag) (S : Addr → Prop) (H : Hp) (σ : St) (v : V) : Ev → Prop
  | .val d => Dr K S H v d
  | .fr _ => False
  | .sl i => σ[i]? = some (some v)
def PostA (g : Gc) (S : Addr → Prop) (H : Hp) (σ : St) (ρ : List B) (r : Rs (List Ev × List B)) (Q : List V → Hp → Prop) : Prop := match r with
  | .ok p => ∀ S' H' vs, Tr S H (Ow σ ρ) S' H' (Ow σ p.2) → Rp g.K g.A0 S' H' σ p.2 → Paired (RE1 g.K S' H' σ) vs p.1 → Q vs H'
  | .ex n ρ' => ∀ S' H', Tr S H (Ow σ ρ) S' H' (Ow σ ρ') → Rp g.K g.A0 S' H' σ ρ' → g.wx n σ H'
  | .bad => False
abbrev SA := List B → Rs (List Ev × List B)
def tA (g : Gc) (f : SA) : TA := fun σ H Q => ∃ S ρ, Rp g.K g.A0 S H σ ρ ∧ PostA g S H σ ρ (f ρ) Q
/-! ### the heap grows -/
section
variable {K : PySem.W.Frag} {A0 : Ax} {S S' S0 : Addr → Prop} {H H' H0 : Hp} {σ σ' : St} {ρ ρ' ρ0 : List B} {O O' O0 : Addr → Prop}
theorem same_alloc {p : Addr} {o : HO} (h : H p = none) : L2.Same H (upd H p o) := fun b x e => by rw [upd_ne (ne_of_none e h)]; exact e
theorem HasO.same (s : L2.Same H H') {a : Addr} {o : HO} (h : HasO H a o) : HasO H' a o := h.imp (fun q => s a _ q) fun ⟨q, od, z⟩ => ⟨q, od, s a _ z⟩
theorem Ex.same (s : L2.Same H H') : Ex S H S H' := ⟨fun _ h => h, fun a o _ _ h => h.same s, fun a xs h => s a _ h, fun a o u h => s a _ h⟩
theorem Rp.same (r : Rp K A0 S H σ ρ) (s : L2.Same H H') : Rp K A0 S H' σ ρ := by
  refine ⟨r.len, fun i b e => ?_, r.dis, fun a h => let ⟨o, e⟩ := r.al a h; ⟨o, s a o e⟩, r.np, fun j a h => let ⟨o, e⟩ := r.aa j a h; ⟨o, s a o e⟩, r.tb.ext s⟩
  have q := r.bd i b e
  cases b with
  | un => trivial
  | exc n => exact bd_exc (Ex.same s) q
  | val d => obtain ⟨v, e1, e2⟩ := q; exact ⟨v, e1, e2.ex (Ex.same s)⟩
  | own d => obtain ⟨a, e1, e2, e3⟩ := q; exact ⟨a, e1, e2, e3.ex (Ex.same s) fun o => s a o⟩
  | prm d => obtain ⟨a, e1, e0, e2, e3⟩ := q; exact ⟨a, e1, e0, e2, e3.ex (Ex.same s) fun o => s a o⟩
theorem Tr.same (t : Tr S0 H0 O0 S H O) (s : L2.Same H H') : Tr S0 H0 O0 S H' O :=
  ⟨t.s, fun a o h n => (t.keep a o h n).imp (fun q => s a o q) fun q => q.imp (fun ⟨q1, q2, od, q3⟩ => ⟨q1, q2, od, s a _ q3⟩) fun ⟨q1, o', q2, q3⟩ => ⟨q1, o', q2, s a _ q3⟩, fun a o h => let ⟨o', e⟩ := t.dom a o h; ⟨o', s a o' e⟩, t.o, t.g⟩
theorem Tr.grow (s : L2.Same H H') : Tr S H O S H' O := Tr.refl.same s
theorem Dw.ex {v : V} {d : PyData} (e : Ex S H S' H') (k : ∀ a o, H a = some o → H' a = some o) (h : Dw K S H v d) : Dw K S' H' v d := by
  rcases h with h | ⟨a, rfl, h⟩
  · exact .inl (h.ex e)
  · exact .inr ⟨a, rfl, h.ex e fun o => k a o⟩
theorem Rp.alive (r : Rp K A0 S H σ ρ) {a : Addr} (h : Ow σ ρ a) : ∃ o, H a = some o := by
  obtain ⟨i, q⟩ := h
  obtain ⟨_, d, o, e, _⟩ := r.own q
  exact ⟨o, e⟩
/-- S grows by one object -/
def Sadd (S : Addr → Prop) (a : Addr) : Addr → Prop := fun b => S b ∨ b = a
theorem Ex.add (a : Addr) : Ex S H (Sadd S a) H := ⟨fun _ h => .inl h, fun _ _ _ _ h => h, fun _ _ h => h, fun _ _ _ h => h⟩
theorem Rp.add (r : Rp K A0 S H σ ρ) {a : Addr} (ho : ¬ Ow σ ρ a) (h : ∃ o, H a = some o) : Rp K A0 (Sadd S a) H σ ρ := by
  refine ⟨r.len, fun i b e => ?_, r.dis, fun b hb => ?_, r.np, r.aa, r.tb⟩
  · have q := r.bd i b e
    cases b with
    | un => trivial
    | exc n => exact bd_exc (Ex.add a) q
    | val d => obtain ⟨v, e1, e2⟩ := q; exact ⟨v, e1, e2.ex (Ex.add a)⟩
    | own d =>
      obtain ⟨c, e1, e2, e3⟩ := q
      refine ⟨c, e1, fun z => ?_, e3.ex (Ex.add a) fun _ h => h⟩
      rcases z with z | z
      · exact e2 z
      · exact ho (z ▸ ⟨i, by unfold OwI; rw [e]; exact ⟨rfl, e1⟩⟩)
    | prm d =>
      obtain ⟨c, e1, e0, e2, e3⟩ := q
      refine ⟨c, e1, e0, fun z => ?_, e3.ex (Ex.add a) fun _ h => h⟩
      rcases z with z | z
      · exact e2 z
      · exact ho (z ▸ ⟨i, by unfold OwI; rw [e]; exact ⟨rfl, e1⟩⟩)
  · rcases hb with hb | rfl
    · exact r.al b hb
    · exact h
theorem Tr.add (t : Tr S0 H0 O0 S H O) {a : Addr} (h : H0 a = none ∨ O0 a) : Tr S0 H0 O0 (Sadd S a) H O :=
  ⟨fun b q => .inl (t.s b q), fun b o h n => (t.keep b o h n).imp id fun q => q.imp (fun ⟨q1, q2, q3⟩ => ⟨q1, .inl q2, q3⟩) id, t.dom, t.o, fun b q => by
    rcases q with q | rfl
    · exact t.g b q
    · rcases h with h | h
      · exact .inr (.inr h)
      · exact .inr (.inl h)⟩
theorem RE1.ex {v : V} {e : Ev} (x : Ex S H S' H') (h : RE1 K S H σ v e) : RE1 K S' H' σ v e := by
  cases e with
  | val d => exact Dr.ex x h
  | fr d => exact h
  | sl i => exact h
theorem RE1s.ex {vs : List V} {es : List Ev} (x : Ex S H S' H') (h : Paired (RE1 K S H σ) vs es) : Paired (RE1 K S' H' σ) vs es := Paired.mapP h fun _ _ q => q.ex x
end
/-- a new object is given to all -/
def settle : Ev → Ev
  | .fr d => .val d
  | e => e
theorem settle_ok {K : PySem.W.Frag} {A0 : Ax} {S S0 : Addr → Prop} {H H0 : Hp} {σ : St} {ρ : List B} {O0 : Addr → Prop} {v : V} {e : Ev}
    (t : Tr S0 H0 O0 S H (Ow σ ρ)) (r : Rp K A0 S H σ ρ) (h : RE K A0 H0 S H σ ρ v e) : ∃ S', Tr S0 H0 O0 S' H (Ow σ ρ) ∧ Rp K A0 S' H σ ρ ∧ RE1 K S' H σ v (settle e) ∧ Ex S H S' H := by
  cases e with
  | val d => exact ⟨S, t, r, h, Ex.same fun _ _ e => e⟩
  | sl i => exact ⟨S, t, r, h, Ex.same fun _ _ e => e⟩
  | fr d =>
    obtain ⟨a, rfl, h0, hs, ho, o, e1, e2⟩ := h
    exact ⟨Sadd S a, t.add (.inl h0.1), r.add ho ⟨o, e1⟩, .obj (.inl e1) (.inr rfl) (e2.ex (Ex.add a)), Ex.add a⟩
/-! ### from here to there -/
section
variable {g : Gc} {S S' : Addr → Prop} {H H' : Hp} {σ : St} {ρ ρ' : List B}
theorem PostE.from {r : Rs (Ev × List B)} {Q : VK} (t : Tr S H (Ow σ ρ) S' H' (Ow σ ρ')) (h : PostE g S H σ ρ r Q) : PostE g S' H' σ ρ' r Q := by
  cases r with
  | ok p => exact fun S2 H2 v t2 r2 e2 => h S2 H2 v (t.trans t2) r2 (e2.back fun a q => t.fresh q)
  | ex n ρ2 => exact fun S2 H2 t2 r2 => h S2 H2 (t.trans t2) r2
  | bad => exact h
theorem PostT.from {r : Rs (Bool × List B)} {Q : Bool → Hp → Prop} (t : Tr S H (Ow σ ρ) S' H' (Ow σ ρ')) (h : PostT g S H σ ρ r Q) : PostT g S' H' σ ρ' r Q := by
  cases r with
  | ok p => exact fun S2 H2 t2 r2 => h S2 H2 (t.trans t2) r2
  | ex n ρ2 => exact fun S2 H2 t2 r2 => h S2 H2 (t.trans t2) r2
  | bad => exact h
theorem PostA.from {r : Rs (List Ev × List B)} {Q : List V → Hp → Prop} (t : Tr S H (Ow σ ρ) S' H' (Ow σ ρ')) (h : PostA g S H σ ρ r Q) : PostA g S' H' σ ρ' r Q := by
  cases r with
  | ok p => exact fun S2 H2 vs t2 r2 e2 => h S2 H2 vs (t.trans t2) r2 e2
  | ex n ρ2 => exact fun S2 H2 t2 r2 => h S2 H2 (t.trans t2) r2
  | bad => exact h
/-- an expression, then what hangs on it -/
theorem tE_bind {f : SE} {R : VK} {α : Type} {k : Ev × List B → Rs α} {P : Rs α → Prop} (hex : ∀ n ρ', P (.ex n ρ') → ∀ S' H', Tr S H (Ow σ ρ) S' H' (Ow σ ρ') → Rp g.K g.A0 S' H' σ ρ' → g.wx n σ H') (hbad : ¬ P .bad)
    (r : Rp g.K g.A0 S H σ ρ) (h : P ((f ρ).bind k)) (hk : ∀ p S' H' v, Tr S H (Ow σ ρ) S' H' (Ow σ p.2) → Rp g.K g.A0 S' H' σ p.2 → RE g.K g.A0 H S' H' σ p.2 v p.1 → P (k p) → R v H') : tE g f σ H R := by
  refine ⟨S, ρ, r, ?_⟩
  cases e : f ρ with
  | ok p => rw [e] at h; exact fun S' H' v t r' q => hk p S' H' v t r' q h
  | ex n ρ' => rw [e] at h; exact hex n ρ' h
  | bad => rw [e] at h; exact (hbad h).elim
theorem tT_bind {f : SB} {R : Bool → Hp → Prop} {α : Type} {k : Bool × List B → Rs α} {P : Rs α → Prop} (hex : ∀ n ρ', P (.ex n ρ') → ∀ S' H', Tr S H (Ow σ ρ) S' H' (Ow σ ρ') → Rp g.K g.A0 S' H' σ ρ' → g.wx n σ H') (hbad : ¬ P .bad)
    (r : Rp g.K g.A0 S H σ ρ) (h : P ((f ρ).bind k)) (hk : ∀ p S' H', Tr S H (Ow σ ρ) S' H' (Ow σ p.2) → Rp g.K g.A0 S' H' σ p.2 → P (k p) → R p.1 H') : tT g f σ H R := by
  refine ⟨S, ρ, r, ?_⟩
  cases e : f ρ with
  | ok p => rw [e] at h; exact fun S' H' t r' => hk p S' H' t r' h
  | ex n ρ' => rw [e] at h; exact hex n ρ' h
  | bad => rw [e] at h; exact (hbad h).elim
theorem tA_bind {f : SA} {R : List V → Hp → Prop} {α : Type} {k : List Ev × List B → Rs α} {P : Rs α → Prop} (hex : ∀ n ρ', P (.ex n ρ') → ∀ S' H', Tr S H (Ow σ ρ) S' H' (Ow σ ρ') → Rp g.K g.A0 S' H' σ ρ' → g.wx n σ H') (hbad : ¬ P .bad)
    (r : Rp g.K g.A0 S H σ ρ) (h : P ((f ρ).bind k)) (hk : ∀ p S' H' vs, Tr S H (Ow σ ρ) S' H' (Ow σ p.2) → Rp g.K g.A0 S' H' σ p.2 → Paired (RE1 g.K S' H' σ) vs p.1 → P (k p) → R vs H') : tA g f σ H R := by
  refine ⟨S, ρ, r, ?_⟩
  cases e : f ρ with
  | ok p => rw [e] at h; exact fun S' H' v t r' q => hk p S' H' v t r' q h
  | ex n ρ' => rw [e] at h; exact hex n ρ' h
  | bad => rw [e] at h; exact (hbad h).elim
theorem exE {Q : VK} : ∀ n ρ', PostE g S H σ ρ (.ex n ρ') Q → ∀ S' H', Tr S H (Ow σ ρ) S' H' (Ow σ ρ') → Rp g.K g.A0 S' H' σ ρ' → g.wx n σ H' := fun _ _ h => h
theorem exT {Q : Bool → Hp → Prop} : ∀ n ρ', PostT g S H σ ρ (.ex n ρ') Q → ∀ S' H', Tr S H (Ow σ ρ) S' H' (Ow σ ρ') → Rp g.K g.A0 S' H' σ ρ' → g.wx n σ H' := fun _ _ h => h
theorem exA {Q : List V → Hp → Prop} : ∀ n ρ', PostA g S H σ ρ (.ex n ρ') Q → ∀ S' H', Tr S H (Ow σ ρ) S' H' (Ow σ ρ') → Rp g.K g.A0 S' H' σ ρ' → g.wx n σ H' := fun _ _ h => h
theorem PostE.bad {Q : VK} : ¬ PostE g S H σ ρ .bad Q := fun h => h
theorem PostT.bad {Q : Bool → Hp → Prop} : ¬ PostT g S H σ ρ .bad Q := fun h => h
theorem PostA.bad {Q : List V → Hp → Prop} : ¬ PostA g S H σ ρ .bad Q := fun h => h
end
/-! ### operations on data -/
/-- what an operation may give: a datum (the heap may grow), or a new object -/
def Out (K : PySem.W.Frag) (S : Addr → Prop) (H : Hp) (e : Ev) (Q : VK) : Prop := match e with
  | .val d => ∀ v H', L2.Same H H' → Dr K S H' v d → Q v H'
  | .fr d => ∀ a H', L2.Same H H' → H a = none → OwnAt K S H' a d → Q (.ref a) H'
  | .sl _ => False
theorem Out.ok {g : Gc} {S S0 : Addr → Prop} {H H0 : Hp} {σ : St} {ρ ρ0 : List B} {e : Ev} {Q : VK} (t : Tr S0 H0 (Ow σ ρ0) S H (Ow σ ρ)) (r : Rp g.K g.A0 S H σ ρ) (he : ∀ i, e ≠ .sl i) (h : PostE g S0 H0 σ ρ0 (.ok (e, ρ)) Q) : Out g.K S H e Q := by
  cases e with
  | val d => exact fun v H' s q => h S H' v (t.same s) (r.same s) q
  | fr d =>
    refine fun a H' s hn q => h S H' _ (t.same s) (r.same s) ⟨a, rfl, ⟨t.fresh hn, fun j hj => by obtain ⟨o, e⟩ := r.aa j a hj; rw [hn] at e; cases e⟩, fun z => ?_, fun z => ?_, q⟩
    · obtain ⟨o, e⟩ := r.al a z; rw [hn] at e; cases e
    · obtain ⟨o, e⟩ := r.alive z; rw [hn] at e; cases e
  | sl i => exact (he i rfl).elim
def resE (ρ : List B) : Option Ev → Rs (Ev × List B)
  | some (.val d) => .ok (.val d, ρ)
  | some (.fr d) => .ok (.fr d, ρ)
  | _ => .bad
theorem resE_out {g : Gc} {S S0 : Addr → Prop} {H H0 : Hp} {σ : St} {ρ ρ0 : List B} {o : Option Ev} {Q : VK} (t : Tr S0 H0 (Ow σ ρ0) S H (Ow σ ρ)) (r : Rp g.K g.A0 S H σ ρ) (h : PostE g S0 H0 σ ρ0 (resE ρ o) Q) : ∃ e, o = some e ∧ Out g.K S H e Q := by
  cases o with
  | none => exact h.elim
  | some e =>
    cases e with
    | val d => exact ⟨_, rfl, Out.ok t r (fun _ => nofun) h⟩
    | fr d => exact ⟨_, rfl, Out.ok t r (fun _ => nofun) h⟩
    | sl i => exact h.elim
/-- a two-place operation by data -/
def op2 (b : PyData → PyData → Option Ev) (fa fb : SE) : SE := fun ρ => (fa ρ).bind fun p => (fb p.2).bind fun q => resE q.2 ((peek q.2 p.1).bind fun d1 => (peek q.2 q.1).bind fun d2 => b d1 d2)
def OpD (K : PySem.W.Frag) (r : R2) (b : PyData → PyData → Option Ev) : Prop := ∀ S H x y d1 d2 e Q, Dw K S H x d1 → Dw K S H y d2 → b d1 d2 = some e → Out K S H e Q → r x y H Q
theorem op2_ok {g : Gc} {r : R2} {b : PyData → PyData → Option Ev} {fa fb : SE} (ho : OpD g.K r b) : ∀ σ H Q, tE g (op2 b fa fb) σ H Q → tOp r (tE g fa) (tE g fb) σ H Q := by
  rintro σ H Q ⟨S, ρ, rp, h⟩
  refine tE_bind (P := fun z => PostE g S H σ ρ z Q) exE PostE.bad rp h fun p S1 H1 v1 t1 r1 e1 h => ?_
  refine tE_bind (P := fun z => PostE g S1 H1 σ p.2 z Q) exE PostE.bad r1 (h.from t1) fun q S2 H2 v2 t2 r2 e2 h => ?_
  obtain ⟨e, he, out⟩ := resE_out t2 r2 h
  have e1' := e1.mono r1 t2
  cases p1 : peek q.2 p.1 with
  | none => rw [p1] at he; cases he
  | some d1 =>
    rw [p1] at he
    cases p2 : peek q.2 q.1 with
    | none => rw [p2] at he; cases he
    | some d2 =>
      rw [p2] at he
      exact ho S2 H2 v1 v2 d1 d2 e Q (peek_ok r2 e1' p1) (peek_ok r2 e2 p2) he out
def op1 (b : PyData → Option Ev) (fa : SE) : SE := fun ρ => (fa ρ).bind fun p => resE p.2 ((peek p.2 p.1).bind b)
theorem op1_ok {g : Gc} {r : V → Hp → VK → Prop} {b : PyData → Option Ev} {fa : SE} (ho : ∀ S H x d e Q, Dw g.K S H x d → b d = some e → Out g.K S H e Q → r x H Q) : ∀ σ H Q, tE g (op1 b fa) σ H Q → (tE g fa) σ H fun x H1 => r x H1 Q := by
  rintro σ H Q ⟨S, ρ, rp, h⟩
  refine tE_bind (P := fun z => PostE g S H σ ρ z Q) exE PostE.bad rp h fun p S1 H1 v1 t1 r1 e1 h => ?_
  obtain ⟨e, he, out⟩ := resE_out t1 r1 h
  cases p1 : peek p.2 p.1 with
  | none => rw [p1] at he; cases he
  | some d1 =>
    rw [p1] at he
    exact ho S1 H1 v1 d1 e Q (peek_ok r1 e1 p1) he out
/-- arguments that are looked at -/
def DwAll (K : PySem.W.Frag) (S : Addr → Prop) (H : Hp) : List V → List PyData → Prop := Paired (Dw K S H)
def peeks (ρ : List B) : List Ev → Option (List PyData)
  | [] => some []
  | e :: es => (peek ρ e).bind fun d => (peeks ρ es).map (d :: ·)
theorem RE1.re {K : PySem.W.Frag} {A0 : Ax} {S : Addr → Prop} {H H0 : Hp} {σ : St} {ρ : List B} {v : V} {e : Ev} (h : RE1 K S H σ v e) : RE K A0 H0 S H σ ρ v e := by
  cases e with
  | val d => exact h
  | sl i => exact h
  | fr d => exact h.elim
theorem peeks_ok {K : PySem.W.Frag} {A0 : Ax} {S : Addr → Prop} {H : Hp} {σ : St} {ρ : List B} (r : Rp K A0 S H σ ρ) : ∀ {vs : List V} {es : List Ev} {ds : List PyData}, Paired (RE1 K S H σ) vs es → peeks ρ es = some ds → DwAll K S H vs ds
  | _, _, ds, .nil, h => by cases h; exact .nil
  | _, _, ds, .cons (b := e) (l₂ := es) a t, h => by
    unfold peeks at h
    cases p : peek ρ e with
    | none => rw [p] at h; cases h
    | some d =>
      rw [p] at h
      cases q : peeks ρ es with
      | none => rw [q] at h; cases h
      | some ds' =>
        rw [q] at h; cases h
        exact .cons (peek_ok (H0 := H) r a.re p) (peeks_ok r t q)
/-- a call by data -/
def opN (b : List PyData → Option Ev) (fa : SA) : SE := fun ρ => (fa ρ).bind fun p => resE p.2 ((peeks p.2 p.1).bind b)
def CallD (K : PySem.W.Frag) (r : List V → Hp → VK → Prop) (b : List PyData → Option Ev) : Prop := ∀ S H xs ds e Q, DwAll K S H xs ds → b ds = some e → Out K S H e Q → r xs H Q
theorem opN_ok {g : Gc} {r : List V → Hp → VK → Prop} {b : List PyData → Option Ev} {fa : SA} (ho : CallD g.K r b) : ∀ σ H Q, tE g (opN b fa) σ H Q → tCB r (tA g fa) σ H Q := by
  rintro σ H Q ⟨S, ρ, rp, h⟩
  refine tA_bind (P := fun z => PostE g S H σ ρ z Q) exE PostE.bad rp h fun p S1 H1 vs t1 r1 e1 h => ?_
  obtain ⟨e, he, out⟩ := resE_out t1 r1 h
  cases p1 : peeks p.2 p.1 with
  | none => rw [p1] at he; cases he
  | some ds =>
    rw [p1] at he
    exact ho S1 H1 vs ds e Q (peeks_ok r1 e1 p1) he out
/-! ### names, constants -/
section
variable {X : Cx} {A0 : Ax} {W : WX}
abbrev gc (X : Cx) (A0 : Ax) (W : WX) : Gc := ⟨X.K, X.mg, A0, W⟩
def fV (i : Nat) : SE := fun ρ => match ρ[i]? with
  | some (.val d) => .ok (.val d, ρ)
  | some (.own _) => .ok (.sl i, ρ)
  | some (.prm _) => .ok (.sl i, ρ)
  | some (.exc _) => .ok (.sl i, ρ)
  | _ => .bad
theorem fV_ok {g : Gc} {i : Nat} : ∀ σ H Q, tE g (fV i) σ H Q → tVar i σ H Q := by
  rintro σ H Q ⟨S, ρ, r, h⟩
  unfold fV at h
  cases e : ρ[i]? with
  | none => rw [e] at h; exact h.elim
  | some b =>
    rw [e] at h
    have q := r.bd i b e
    cases b with
    | un => exact h.elim
    | exc n => exact ⟨_, q.2, h S H _ Tr.refl r q.2⟩
    | val d => obtain ⟨v, e1, e2⟩ := q; exact ⟨v, e1, h S H v Tr.refl r e2⟩
    | own d => obtain ⟨a, e1, _⟩ := q; exact ⟨_, e1, h S H _ Tr.refl r e1⟩
    | prm d => obtain ⟨a, e1, _⟩ := q; exact ⟨_, e1, h S H _ Tr.refl r e1⟩
theorem gv (i : Nat) {x : Str} {pos : Pos} (hN : X.N[i]? = some x := by rfl) (hv : Vis X.env.scope x := by first | exact Or.inl rfl | exact Or.inr (Or.inl rfl) | exact Or.inr (Or.inr rfl)) (hd : (x == ("__debug__" : Str)) = false := by decide)
    (hcd : (x == ("__classdict__" : Str)) = false := by decide) : PE X (.Name x pos) (tE (gc X A0 W) (fV i)) := PE_imp (pe_var hN hv hd hcd) fV_ok
def fC (d : PyData) : SE := fun ρ => .ok (.val d, ρ)
theorem fC_ok {g : Gc} {v : V} {d : PyData} (hd : ∀ S H, Dr g.K S H v d) : ∀ σ H Q, tE g (fC d) σ H Q → tC v σ H Q := fun σ H Q ⟨S, ρ, r, h⟩ => h S H v Tr.refl r (hd S H)
theorem gint {i j pos} : PE X (.Constant (.int i) j pos) (tE (gc X A0 W) (fC (.int i))) := PE_imp pe_int (fC_ok fun _ _ => .int i)
theorem gbl {b j pos} : PE X (.Constant (.bool b) j pos) (tE (gc X A0 W) (fC (.bool b))) := PE_imp pe_bl (fC_ok fun _ _ => .bl b)
theorem gnon {j pos} : PE X (.Constant .none j pos) (tE (gc X A0 W) (fC .none)) := PE_imp pe_non (fC_ok fun _ _ => .non)
theorem gstr {x j pos} : PE X (.Constant (.str x) j pos) (tE (gc X A0 W) (fC (.str x))) := PE_imp pe_str (fC_ok fun _ _ => .str x)
/-- a constant of the module -/
def KD (K : PySem.W.Frag) (u : Value) (d : PyData) : Prop := ∃ v, RelV v u ∧ ∀ S H, Dr K S H v d
theorem gglob {x : Str} {u : Value} {d : PyData} {pos : Pos} (hm : X.mg x = some u) (k : KD X.K u d) (hg : Gl X x := by rfl) (hd : (x == ("__debug__" : Str)) = false := by decide) : PE X (.Name x pos) (tE (gc X A0 W) (fC d)) := by
  obtain ⟨v, r, q⟩ := k
  exact PE_imp (pe_glob hg hm r hd) (fC_ok q)
end
end G
namespace G
open PySem PySem.Spec PyProof.Rows L2
/-! ### numbers -/
def smallI (i : Int) : Bool := decide (-18446744073709551616 < i) && decide (i < 18446744073709551616)
def mulOk (i j : Int) : Bool := smallI i || smallI j || decide (i.natAbs.log2 + j.natAbs.log2 < 1000000)
def divOk (j : Int) : Bool := decide (j ≠ 0) && (decide (j.natAbs < 1073741824) || decide (j.natAbs.log2 < 9000))
def addD : PyData → PyData → Option Ev
  | .int i, .int j => some (.val (.int (i + j)))
  | .str a, .str b => if a.length + b.length ≤ sizeLine then some (.val (.str (a ++ b))) else none
  | .tuple xs, .tuple ys => if xs.length + ys.length ≤ sizeLine then some (.val (.tuple (xs ++ ys))) else none
  | .list xs, .list ys => if xs.length + ys.length ≤ sizeLine then some (.fr (.list (xs ++ ys))) else none
  | _, _ => none
def subD : PyData → PyData → Option Ev
  | .int i, .int j => some (.val (.int (i - j)))
  | _, _ => none
def mulD : PyData → PyData → Option Ev
  | .int i, .int j => if mulOk i j = true then some (.val (.int (i * j))) else none
  | _, _ => none
def fdivD : PyData → PyData → Option Ev
  | .int i, .int j => if divOk j = true then some (.val (.int (i.fdiv j))) else none
  | _, _ => none
def modD : PyData → PyData → Option Ev
  | .int i, .int j => if j = 0 then none else some (.val (.int (i.fmod j)))
  | _, _ => none
def powD : PyData → PyData → Option Ev
  | .int i, .int j => if 0 ≤ j ∧ j ≤ 1000000 ∧ i.natAbs < 18446744073709551616 then some (.val (.int (i ^ j.toNat))) else none
  | _, _ => none
section
variable {K : PySem.W.Frag}
theorem outInt {S : Addr → Prop} {H : Hp} {Q : VK} {i : Int} (h : Out K S H (.val (.int i)) Q) : Q (.int i) H := h _ H (fun _ _ e => e) (.int i)
theorem outBl {S : Addr → Prop} {H : Hp} {Q : VK} {i : Bool} (h : Out K S H (.val (.bool i)) Q) : Q (.bl i) H := h _ H (fun _ _ e => e) (.bl i)
theorem outStr {S : Addr → Prop} {H : Hp} {Q : VK} {i : Str} (h : Out K S H (.val (.str i)) Q) : Q (.str i) H := h _ H (fun _ _ e => e) (.str i)
theorem outTup {S : Addr → Prop} {H : Hp} {Q : VK} {ds : List PyData} {xs : List V} (r : DrAll K S H xs ds) (h : Out K S H (.val (.tuple ds)) Q) : ∀ p, H p = none → Q (.ref p) (upd H p (.tup xs)) := fun p hp =>
  h _ _ (same_alloc hp) (.tup (.inl (.inl upd_same)) (r.ex (Ex.same (same_alloc hp))))
theorem outLst {S : Addr → Prop} {H : Hp} {Q : VK} {ds : List PyData} {xs : List V} (r : DrAll K S H xs ds) (h : Out K S H (.fr (.list ds)) Q) : ∀ p, H p = none → Q (.ref p) (upd H p (.lst xs)) := fun p hp =>
  h _ _ (same_alloc hp) hp ⟨_, upd_same, .lst (r.ex (Ex.same (same_alloc hp)))⟩
end
section
variable {X : Cx} {A0 : Ax} {W : WX} {a b : Expr} {fa fb : SE} {pos : Pos}
theorem gop {op : Operator} {r : R2} {bd : PyData → PyData → Option Ev} (ho : OpR X (binaryOp op) r) (hd : OpD X.K r bd) (ha : PE X a (tE (gc X A0 W) fa)) (hb : PE X b (tE (gc X A0 W) fb)) : PE X (.BinOp a op b pos) (tE (gc X A0 W) (op2 bd fa fb)) :=
  PE_imp (pe_op ho ha hb) (op2_ok hd)
/-- list + list, any that is read -/
def rCatL (K : PySem.W.Frag) : R2 := fun x y H Q => ∃ l b xs zs, x = .ref l ∧ y = .ref b ∧ LstX K H l xs ∧ LstX K H b zs ∧ xs.length + zs.length ≤ sizeLine ∧ ∀ p, H p = none → Q (.ref p) (upd H p (.lst (xs ++ zs)))
theorem intD {C : Int → Int → Prop} {gI : Int → Int → Int} {bd : PyData → PyData → Option Ev} (h : ∀ d1 d2 e, bd d1 d2 = some e → ∃ i j, d1 = .int i ∧ d2 = .int j ∧ C i j ∧ e = .val (.int (gI i j))) {K : PySem.W.Frag} : OpD K (rI C fun i j => .int (gI i j)) bd := by
  intro S H x y d1 d2 e Q h1 h2 he out
  obtain ⟨i, j, rfl, rfl, c, rfl⟩ := h d1 d2 e he
  exact ⟨i, j, h1.int, h2.int, c, outInt out⟩
theorem intD0 {gI : Int → Int → Int} {bd : PyData → PyData → Option Ev} (h : ∀ d1 d2 e, bd d1 d2 = some e → ∃ i j, d1 = .int i ∧ d2 = .int j ∧ e = .val (.int (gI i j))) {K : PySem.W.Frag} : OpD K (rI0 fun i j => .int (gI i j)) bd := by
  intro S H x y d1 d2 e Q h1 h2 he out
  obtain ⟨i, j, rfl, rfl, rfl⟩ := h d1 d2 e he
  exact ⟨i, j, h1.int, h2.int, outInt out⟩
theorem gsub (ha : PE X a (tE (gc X A0 W) fa)) (hb : PE X b (tE (gc X A0 W) fb)) : PE X (.BinOp a .Sub b pos) (tE (gc X A0 W) (op2 subD fa fb)) :=
  gop op_sub (intD0 (gI := fun i j => i - j) fun d1 d2 e h => by
    cases d1 <;> cases d2 <;> simp only [subD, reduceCtorEq] at h
    cases h; exact ⟨_, _, rfl, rfl, rfl⟩) ha hb
theorem gmod (ha : PE X a (tE (gc X A0 W) fa)) (hb : PE X b (tE (gc X A0 W) fb)) : PE X (.BinOp a .Mod b pos) (tE (gc X A0 W) (op2 modD fa fb)) :=
  gop op_modN (intD (C := fun _ j => j ≠ 0) (gI := fun i j => i.fmod j) fun d1 d2 e h => by
    cases d1 <;> cases d2 <;> simp only [modD, reduceCtorEq] at h
    rename_i i j
    split at h
    · cases h
    · rename_i hj; cases h; exact ⟨_, _, rfl, rfl, hj, rfl⟩) ha hb
theorem op_catL : OpR X (binaryOp .Add) (rCatL X.K) := by
  intro pins s σ H x y v u Q I rx ry h
  obtain ⟨l, b, xs, zs, rfl, rfl, h1, h2, hz, q⟩ := h
  cases rx
  cases ry
  obtain ⟨its, n, r, e, z⟩ := h1.at_ I
  obtain ⟨its2, n2, r2, e2, z2⟩ := h2.at_ I
  have l1 := r.length
  have l2 := r2.length
  refine PySem.P.add_list e e2 ?_ (by rw [List.size_toArray, List.size_toArray]; omega)
  have ea : its.toArray ++ its2.toArray = (its ++ its2).toArray := by simp
  rw [ea]
  exact ⟨.ref _, _, I.lnew (t' := s.toks) (r.append r2) (by rw [List.length_append]; omega), rfl, q _ I.fresh⟩
def rAddX (K : PySem.W.Frag) : R2 := fun x y H Q => rI0 (fun i j => .int (i + j)) x y H Q ∨ (∃ i j, x = .str i ∧ y = .str j ∧ i.length + j.length ≤ sizeLine ∧ Q (.str (i ++ j)) H) ∨ rCatA K x y H Q ∨ rCatL K x y H Q
theorem op_addX : OpR X (binaryOp .Add) (rAddX X.K) := op_add.or (op_add_str.or (op_catA.or op_catL))
theorem addX_ok {K : PySem.W.Frag} : OpD K (rAddX K) addD := by
  intro S H x y d1 d2 e Q h1 h2 he out
  cases d1 <;> cases d2 <;> simp only [addD, reduceCtorEq] at he
  · cases he; exact .inl ⟨_, _, h1.int, h2.int, outInt out⟩
  · split at he
    · rename_i hc
      cases he; exact .inr (.inl ⟨_, _, h1.str, h2.str, hc, outStr out⟩)
    · cases he
  · split at he
    · rename_i hc
      cases he
      obtain ⟨a, xs, rfl, q1, r1⟩ := h1.lst
      obtain ⟨b, ys, rfl, q2, r2⟩ := h2.lst
      exact .inr (.inr (.inr ⟨a, b, xs, ys, rfl, rfl, q1, q2, by rw [r1.length, r2.length]; exact hc, outLst (r1.append r2) out⟩))
    · cases he
  · split at he
    · rename_i hc
      cases he
      obtain ⟨a, xs, rfl, q1, r1⟩ := h1.tup
      obtain ⟨b, ys, rfl, q2, r2⟩ := h2.tup
      refine .inr (.inr (.inl ⟨a, b, xs, ys, rfl, rfl, q1, q2, by rw [r1.length, r2.length]; exact hc, fun z => ?_, fun _ z => ?_, fun _ _ => outTup (r1.append r2) out⟩))
      · subst z
        exact out _ H (fun _ _ e => e) (.tup q2 (r1.append r2))
      · subst z
        have := r1.append r2
        rw [List.append_nil] at this
        exact out _ H (fun _ _ e => e) (.tup q1 this)
    · cases he
theorem gadd (ha : PE X a (tE (gc X A0 W) fa)) (hb : PE X b (tE (gc X A0 W) fb)) : PE X (.BinOp a .Add b pos) (tE (gc X A0 W) (op2 addD fa fb)) := gop op_addX addX_ok ha hb
/-! ### comparisons -/
def cmpI (c : Int → Int → Bool) : PyData → PyData → Option Ev
  | .int i, .int j => some (.val (.bool (c i j)))
  | _, _ => none
def str2 : PyData → PyData → Bool
  | .str _, .str _ => true
  | _, _ => false
def eqD : PyData → PyData → Option Ev := fun x y => if (str2 x y || (SeqAt.shaped x && SeqAt.shaped y)) = true then some (.val (.bool (PyData.eqv x y))) else none
def neD : PyData → PyData → Option Ev := fun x y => if (str2 x y || (SeqAt.shaped x && SeqAt.shaped y)) = true then some (.val (.bool (!PyData.eqv x y))) else none
def itemsD : PyData → Option (List PyData)
  | .list ds => some ds
  | .tuple ds => some ds
  | _ => none
def inD : PyData → PyData → Option Ev := fun x y => (itemsD y).bind fun ds => if (SeqAt.shaped x && SeqAt.shaped y) = true then some (.val (.bool (ds.any fun z => PyData.eqv z x))) else none
def ninD : PyData → PyData → Option Ev := fun x y => (itemsD y).bind fun ds => if (SeqAt.shaped x && SeqAt.shaped y) = true then some (.val (.bool (!ds.any fun z => PyData.eqv z x))) else none
def isNoneD : PyData → Bool
  | .none => true
  | _ => false
def isD : PyData → PyData → Option Ev
  | .bool a, .bool b => some (.val (.bool (decide (a = b))))
  | x, .none => some (.val (.bool (isNoneD x)))
  | _, _ => none
def isnD : PyData → PyData → Option Ev
  | .bool a, .bool b => some (.val (.bool (!decide (a = b))))
  | x, .none => some (.val (.bool (!isNoneD x)))
  | _, _ => none
theorem cmpI_ok {K : PySem.W.Frag} {c : Int → Int → Bool} : OpD K (rI0 fun i j => .bl (c i j)) (cmpI c) := by
  intro S H x y d1 d2 e Q h1 h2 he out
  cases d1 <;> cases d2 <;> simp only [cmpI, reduceCtorEq] at he
  cases he; exact ⟨_, _, h1.int, h2.int, outBl out⟩
theorem shaped_lay {d : PyData} (h : SeqAt.shaped d = true) : d.canLay0 = true := SeqAt.canLay_of_shaped h
def rEqU (K : PySem.W.Frag) : R2 := fun x y H Q => rEq x y H Q ∨ rEqD K x y H Q
def rNeU (K : PySem.W.Frag) : R2 := fun x y H Q => rNe x y H Q ∨ rNeD K x y H Q
theorem op_eqU {X : Cx} (hu : X.A.units + 64 < cLine) : OpR X (compareOp .Eq) (rEqU X.K) := op_eq.or (op_eqD hu)
theorem op_neU {X : Cx} (hu : X.A.units + 64 < cLine) : OpR X (compareOp .NotEq) (rNeU X.K) := op_ne.or (op_neD hu)
theorem str2_ok {K : PySem.W.Frag} {S : Addr → Prop} {H : Hp} {x y : V} {d1 d2 : PyData} (h1 : Dw K S H x d1) (h2 : Dw K S H y d2) (h : str2 d1 d2 = true) : scal x y = true ∧ decide (x = y) = PyData.eqv d1 d2 := by
  cases d1 <;> cases d2 <;> simp only [str2, Bool.false_eq_true] at h
  have e1 := h1.str
  have e2 := h2.str
  subst e1 e2
  exact ⟨rfl, dec_str⟩
theorem eqD_ok {K : PySem.W.Frag} : OpD K (rEqU K) eqD := by
  intro S H x y d1 d2 e Q h1 h2 he out
  unfold eqD at he
  split at he
  · rename_i hc
    cases he
    rcases Bool.or_eq_true_iff.mp hc with hc | hc
    · obtain ⟨e1, e2⟩ := str2_ok h1 h2 hc
      exact .inl ⟨e1, by rw [e2]; exact outBl out⟩
    · simp only [Bool.and_eq_true] at hc
      exact .inr ⟨d1, d2, h1.dp (shaped_lay hc.1), h2.dp (shaped_lay hc.2), hc.1, hc.2, outBl out⟩
  · cases he
theorem neD_ok {K : PySem.W.Frag} : OpD K (rNeU K) neD := by
  intro S H x y d1 d2 e Q h1 h2 he out
  unfold neD at he
  split at he
  · rename_i hc
    cases he
    rcases Bool.or_eq_true_iff.mp hc with hc | hc
    · obtain ⟨e1, e2⟩ := str2_ok h1 h2 hc
      exact .inl ⟨e1, by rw [e2]; exact outBl out⟩
    · simp only [Bool.and_eq_true] at hc
      exact .inr ⟨d1, d2, h1.dp (shaped_lay hc.1), h2.dp (shaped_lay hc.2), hc.1, hc.2, outBl out⟩
  · cases he
def rNotInT (K : PySem.W.Frag) : R2 := fun x y H Q => ∃ d ds, Dp K H x d ∧ Dp K H y (.tuple ds) ∧ SeqAt.shaped d = true ∧ SeqAt.shaped (.tuple ds) = true ∧ Q (.bl (!ds.any fun z => PyData.eqv z d)) H
end
end G
/-! dicts whose keys are ints or texts -/
namespace G
open PySem PySem.Spec PyProof.Rows L2
def keyOf : PyData → Option Key
  | .int i => some (.inl i)
  | .str x => some (.inr x)
  | _ => none
theorem keyOf_kD (k : Key) : keyOf (kD k) = some k := by cases k <;> rfl
theorem Dw.key {K : PySem.W.Frag} {S : Addr → Prop} {H : Hp} {v : V} {d : PyData} {k : Key} (h : Dw K S H v d) (e : keyOf d = some k) : v = kV k := by
  cases d with
  | int i => cases e; exact h.int
  | str x => cases e; exact h.str
  | _ => cases e
/-- the datum at a key -/
def dget : List (PyData × PyData) → Key → Option PyData
  | [], _ => none
  | (k, d) :: r, q => if keyOf k = some q then some d else dget r q
/-- all keys are ints or texts, and there is one -/
def keyed : List (PyData × PyData) → Bool
  | [] => false
  | (k, _) :: _ => (keyOf k).isSome
theorem Dw.dic {K : PySem.W.Frag} {S : Addr → Prop} {H : Hp} {v : V} {kvs : List (PyData × PyData)} (h : Dw K S H v (.dict kvs)) : ∃ a o, v = .ref a ∧ HasO H a o ∧ Ct K S H o (.dict kvs) := by
  rcases h with h | ⟨a, rfl, o, h1, h2⟩
  · generalize hd : PyData.dict kvs = D at h
    cases h with
    | obj h1 _ c => subst hd; exact ⟨_, _, rfl, h1, c⟩
    | _ => cases hd
  · exact ⟨a, o, rfl, .inl h1, h2⟩
theorem Ct.key {K : PySem.W.Frag} {S : Addr → Prop} {H : Hp} {o : HO} {kvs : List (PyData × PyData)} (h : Ct K S H o (.dict kvs)) (hk : keyed kvs = true) : ∃ (ks : List (Key × V)) (ds : List PyData), o = .dK ks ∧ DrAll K S H (ks.map (·.2)) ds ∧ kvs = (ks.map fun p => kD p.1).zip ds := by
  generalize hd : PyData.dict kvs = D at h
  cases h with
  | lst _ => cases hd
  | dK c => cases hd; exact ⟨_, _, rfl, c, rfl⟩
  | dT c =>
    rename_i ks ds
    cases hd
    cases ks with
    | nil => cases hk
    | cons p r =>
      cases ds with
      | nil => cases hk
      | cons d r => cases hk
theorem HasO.rd {H : Hp} {a : Addr} {ks : List (Key × V)} (h : HasO H a (.dK ks)) : Rd H a (.dK ks) := by
  rcases h with h | ⟨_, od, h⟩
  · exact .inl h
  · exact .inr ⟨od, h⟩
theorem dget_val {K : PySem.W.Frag} {S : Addr → Prop} {H : Hp} (q : Key) : ∀ {ks : List (Key × V)} {ds : List PyData}, DrAll K S H (ks.map (·.2)) ds →
    (∀ d, dget ((ks.map fun p => kD p.1).zip ds) q = some d → ∃ v, valV ks q = some v ∧ Dr K S H v d) ∧ (dget ((ks.map fun p => kD p.1).zip ds) q = none → valV ks q = none)
  | [], ds, h => by
    cases h
    exact ⟨fun d e => (by cases e), fun _ => rfl⟩
  | (k, v) :: ks, _, .cons (d := d) (ds := ds) h1 h2 => by
    obtain ⟨ih1, ih2⟩ := dget_val q h2
    refine ⟨fun d' e => ?_, fun e => ?_⟩
    · simp only [List.map_cons, List.zip_cons_cons, dget, keyOf_kD, Option.some.injEq] at e
      by_cases hk : k = q
      · rw [if_pos hk] at e
        cases e
        exact ⟨v, valV_pos hk, h1⟩
      · rw [if_neg hk] at e
        obtain ⟨u, e1, e2⟩ := ih1 d' e
        exact ⟨u, by rw [valV_neg hk]; exact e1, e2⟩
    · simp only [List.map_cons, List.zip_cons_cons, dget, keyOf_kD, Option.some.injEq] at e
      by_cases hk : k = q
      · rw [if_pos hk] at e; cases e
      · rw [if_neg hk] at e
        rw [valV_neg hk]
        exact ih2 e
theorem dget_keyed {q : Key} {d : PyData} : ∀ {ks : List (List Key × V)} {ds : List PyData}, dget ((ks.map fun p => PyData.tuple (p.1.map kD)).zip ds) q ≠ some d
  | [], _, h => by cases h
  | _ :: ks, [], h => by cases h
  | _ :: ks, _ :: ds, h => by
    simp only [List.map_cons, List.zip_cons_cons, dget, keyOf, reduceCtorEq, if_false] at h
    exact dget_keyed h
/-- d[k], k there -/
theorem Dw.get {K : PySem.W.Frag} {S : Addr → Prop} {H : Hp} {x y : V} {kvs : List (PyData × PyData)} {k d : PyData} {q : Key} (h : Dw K S H x (.dict kvs)) (hk : Dw K S H y k) (hq : keyOf k = some q) (hd : dget kvs q = some d) : ∃ a v, x = .ref a ∧ DGet H a y (some v) ∧ Dr K S H v d := by
  obtain ⟨a, o, rfl, ho, c⟩ := h.dic
  generalize hD : PyData.dict kvs = D at c
  cases c with
  | lst _ => cases hD
  | dK c =>
    cases hD
    obtain ⟨v, e1, e2⟩ := (dget_val q c).1 d hd
    exact ⟨a, v, rfl, .inl ⟨_, q, ho.rd, hk.key hq, e1.symm⟩, e2⟩
  | dT c =>
    cases hD
    exact (dget_keyed hd).elim
def rIxG : R2 := fun x y H Q => ∃ a v, x = .ref a ∧ DGet H a y (some v) ∧ Q v H
section
variable {X : Cx}
theorem ix_dict (hu : X.A.units + 1 < cLine) : IxR X rIxG := by
  intro value slice pins s σ H x y v u Q I rx ry h hs
  obtain ⟨a, r, rfl, g, q⟩ := h
  obtain rfl : v = Value.ref a := rx
  exact tail_any (dict_typeIs I g) PySem.F.slot_dict_getitem.lookup (d_getItem hu I g ry fun w' s3 I3 rw' => ⟨r, H, I3, rw', q⟩) hs
end
/-- the dict with d at the key -/
def dput (kvs : List (PyData × PyData)) (q : Key) (d : PyData) : List (PyData × PyData) := if (dget kvs q).isSome = true then kvs.map (fun p => if keyOf p.1 = some q then (p.1, d) else p) else kvs ++ [(kD q, d)]
end G
namespace G
open PySem PySem.Spec PyProof.Rows L2
section
variable {X : Cx} {A0 : Ax} {W : WX} {a b c e : Expr} {fa fb fc f : SE} {pos : Pos}
theorem op_notInT (hu : X.A.units + 65 < cLine) : OpR X (compareOp .NotIn) (rNotInT X.K) := by
  intro pins s σ H x y v u Q I rx ry h
  obtain ⟨d, ds, hd, he, sd, se, q⟩ := h
  obtain ⟨as, r1⟩ := Dp.reads I d x v hd rx
  obtain ⟨bs, r2⟩ := Dp.reads I (.tuple ds) y u he ry
  exact SeqAt.notIn_tuple_reads r2 r1 (SeqAt.canLay_of_shaped se) (SeqAt.canLay_of_shaped sd) (room_in_shaped sd hu) ⟨.bl _, H, I, rfl, q⟩
theorem ninD_ok {K : PySem.W.Frag} : OpD K (fun x y H Q => rNotInD K x y H Q ∨ rNotInT K x y H Q) ninD := by
  intro S H x y d1 d2 e Q h1 h2 he out
  unfold ninD at he
  cases d2 <;> simp only [itemsD, Option.bind_none, Option.bind_some, reduceCtorEq] at he
  · split at he
    · rename_i ds hc
      simp only [Bool.and_eq_true] at hc
      cases he
      exact .inl ⟨d1, ds, h1.dp (shaped_lay hc.1), h2.dp (shaped_lay hc.2), hc.1, hc.2, outBl out⟩
    · cases he
  · split at he
    · rename_i ds hc
      simp only [Bool.and_eq_true] at hc
      cases he
      exact .inr ⟨d1, ds, h1.dp (shaped_lay hc.1), h2.dp (shaped_lay hc.2), hc.1, hc.2, outBl out⟩
    · cases he
theorem Dw.isNon {K : PySem.W.Frag} {S : Addr → Prop} {H : Hp} {v : V} {d : PyData} (h : Dw K S H v d) : decide (v = .non) = isNoneD d := by
  cases d with
  | none => rw [h.non]; rfl
  | bool b => rw [h.bl]; rfl
  | int i => rw [h.int]; rfl
  | str x => rw [h.str]; rfl
  | list ds => obtain ⟨a, xs, rfl, _⟩ := h.lst; rfl
  | tuple ds => obtain ⟨a, xs, rfl, _⟩ := h.tup; rfl
  | dict kvs =>
    rcases h with h | ⟨a, rfl, _⟩
    · cases h with
      | obj _ _ _ => rfl
    · rfl
theorem isD_ok {K : PySem.W.Frag} : OpD K (fun x y H Q => (y = .non ∧ Q (.bl (decide (x = .non))) H) ∨ ∃ a b, x = .bl a ∧ y = .bl b ∧ Q (.bl (decide (a = b))) H) isD := by
  intro S H x y d1 d2 e Q h1 h2 he out
  unfold isD at he
  split at he
  · cases he
    exact .inr ⟨_, _, h1.bl, h2.bl, outBl out⟩
  · cases he
    refine .inl ⟨h2.non, ?_⟩
    rw [h1.isNon]
    exact outBl out
  · cases he
theorem gcmp {op : CmpOp} {r : R2} {bd : PyData → PyData → Option Ev} (ho : OpR X (compareOp op) r) (hd : OpD X.K r bd) (ha : PE X a (tE (gc X A0 W) fa)) (hb : PE X b (tE (gc X A0 W) fb)) (hm : behindInMarks op b = false) :
    PE X (.Compare a [op] [b] pos) (tE (gc X A0 W) (op2 bd fa fb)) := PE_imp (pe_cmpR ho ha hb hm) (op2_ok hd)
theorem gle (ha : PE X a (tE (gc X A0 W) fa)) (hb : PE X b (tE (gc X A0 W) fb)) : PE X (.Compare a [.LtE] [b] pos) (tE (gc X A0 W) (op2 (cmpI fun i j => decide (i ≤ j)) fa fb)) := gcmp op_le cmpI_ok ha hb (nomark _)
theorem geq (hu : X.A.units + 64 < cLine) (ha : PE X a (tE (gc X A0 W) fa)) (hb : PE X b (tE (gc X A0 W) fb)) : PE X (.Compare a [.Eq] [b] pos) (tE (gc X A0 W) (op2 eqD fa fb)) := gcmp (op_eqU hu) eqD_ok ha hb (nomark _)
/-! ### a < b < c -/
def boolD : Option Ev → Option Bool
  | some (.val (.bool k)) => some k
  | _ => none
def ch3 (b1 b2 : PyData → PyData → Option Ev) (fa fb fc : SE) : SE := fun ρ => (fa ρ).bind fun p => (fb p.2).bind fun q =>
  match boolD ((peek q.2 p.1).bind fun d1 => (peek q.2 q.1).bind fun d2 => b1 d1 d2) with
  | some false => .ok (.val (.bool false), q.2)
  | some true => (fc q.2).bind fun r => resE r.2 ((peek r.2 q.1).bind fun d1 => (peek r.2 r.1).bind fun d2 => b2 d1 d2)
  | none => .bad
/-- an operation whose answer changes nothing and is the same for the same data -/
theorem chain_ok {r r' : R2} {b1 b2 : PyData → PyData → Option Ev} (hd : OpD X.K r b1) (hd' : OpD X.K r' b2) : ∀ σ H Q, tE (gc X A0 W) (ch3 b1 b2 fa fb fc) σ H Q → tChain r r' (tE (gc X A0 W) fa) (tE (gc X A0 W) fb) (tE (gc X A0 W) fc) σ H Q := by
  rintro σ H Q ⟨S, ρ, rp, h⟩
  refine tE_bind (P := fun z => PostE (gc X A0 W) S H σ ρ z Q) exE PostE.bad rp h fun p S1 H1 v1 t1 r1 e1 h => ?_
  refine tE_bind (P := fun z => PostE (gc X A0 W) S1 H1 σ p.2 z Q) exE PostE.bad r1 (h.from t1) fun q S2 H2 v2 t2 r2 e2 h => ?_
  have e1' := e1.mono r1 t2
  cases p1 : peek q.2 p.1 with
  | none => rw [p1] at h; exact h.elim
  | some d1 =>
    rw [p1] at h
    cases p2 : peek q.2 q.1 with
    | none => rw [p2] at h; exact h.elim
    | some d2 =>
      rw [p2] at h
      simp only [Option.bind_some] at h
      cases hb1 : b1 d1 d2 with
      | none => rw [hb1] at h; exact h.elim
      | some ev =>
        rw [hb1] at h
        cases ev with
        | fr d => exact h.elim
        | sl i => exact h.elim
        | val d =>
          cases d with
          | bool k =>
            refine hd S2 H2 v1 v2 d1 d2 _ _ (peek_ok r2 e1' p1) (peek_ok r2 e2 p2) hb1 fun v H3 s3 dv => ?_
            obtain rfl := dv.w.bl
            refine ⟨k, rfl, ?_⟩
            have t3 := t2.same s3
            have r3 := r2.same s3
            cases k with
            | false => exact iteF ((h : PostE (gc X A0 W) S1 H1 σ p.2 (.ok (.val (.bool false), q.2)) Q) S2 H3 _ t3 r3 (.bl false))
            | true =>
              refine iteT ?_
              refine tE_bind (P := fun z => PostE (gc X A0 W) S2 H3 σ q.2 z Q) exE PostE.bad r3 (PostE.from t3 h) fun r S4 H4 v4 t4 r4 e4 h4 => ?_
              obtain ⟨ev, he, out⟩ := resE_out t4 r4 h4
              have e2' : RE X.K A0 H1 S4 H4 σ r.2 v2 q.1 := RE.mono r3 t4 (e2.mono (ρ' := q.2) r2 (Tr.refl.same s3))
              cases p3 : peek r.2 q.1 with
              | none => rw [p3] at he; cases he
              | some d3 =>
                rw [p3] at he
                cases p4 : peek r.2 r.1 with
                | none => rw [p4] at he; cases he
                | some d4 =>
                  rw [p4] at he
                  exact hd' S4 H4 v2 v4 d3 d4 ev Q (peek_ok r4 e2' p3) (peek_ok r4 e4 p4) he out
          | _ => exact h.elim
theorem gchain {op op' : CmpOp} {r r' : R2} {b1 b2 : PyData → PyData → Option Ev} (ho : OpR X (compareOp op) r) (ho' : OpR X (compareOp op') r') (hd : OpD X.K r b1) (hd' : OpD X.K r' b2)
    (ha : PE X a (tE (gc X A0 W) fa)) (hb : PE X b (tE (gc X A0 W) fb)) (hc : PE X c (tE (gc X A0 W) fc)) (hm : lastMarks [op, op'] [b, c] = false := by with_unfolding_all rfl) :
    PE X (.Compare a [op, op'] [b, c] pos) (tE (gc X A0 W) (ch3 b1 b2 fa fb fc)) := PE_imp (pe_chain ho ho' ha hb hc hm) (chain_ok hd hd')
end
/-! ### tests -/
section
variable {X : Cx} {A0 : Ax} {W : WX} {a b c e : Expr} {f fa fb : SE} {ga gb : SB} {pos : Pos} {rest : List Expr}
def fB (f : SE) : SB := fun ρ => (f ρ).bind fun p => match peek p.2 p.1 with
  | some (.bool k) => .ok (k, p.2)
  | _ => .bad
theorem fB_ok {g : Gc} : ∀ σ H Q, tT g (fB f) σ H Q → tB (tE g f) σ H Q := by
  rintro σ H Q ⟨S, ρ, rp, h⟩
  refine tE_bind (P := fun z => PostT g S H σ ρ z Q) exT PostT.bad rp h fun p S1 H1 v1 t1 r1 e1 h => ?_
  cases p1 : peek p.2 p.1 with
  | none => rw [p1] at h; exact h.elim
  | some d =>
    rw [p1] at h
    cases d with
    | bool k => exact ⟨k, (peek_ok r1 e1 p1).bl, h S1 H1 t1 r1⟩
    | _ => exact h.elim
theorem gtv (h : PE X e (tE (gc X A0 W) f)) (he : ∀ whole, isTrue e X.env whole = (do let v ← whole; standAt e.pos; holding [v] (truthy v)) := by intro _; rfl) : PT X e (tT (gc X A0 W) (fB f)) := PT_imp (pt_val h he) fB_ok
/-- a op b as a test -/
theorem gtcmp {op : CmpOp} {r : R2} {bd : PyData → PyData → Option Ev} (ho : OpR X (compareOp op) r) (hd : OpD X.K r bd) (ha : PE X a (tE (gc X A0 W) fa)) (hb : PE X b (tE (gc X A0 W) fb)) (hm : behindInMarks op b = false) :
    PT X (.Compare a [op] [b] pos) (tT (gc X A0 W) (fB (op2 bd fa fb))) := PT_imp (pt_cmpR ho ha hb hm) fun σ H Q h => op2_ok hd σ H _ (fB_ok σ H Q h)
def andB (fa fb : SB) : SB := fun ρ => (fa ρ).bind fun p => if p.1 = true then fb p.2 else .ok (false, p.2)
def orB (fa fb : SB) : SB := fun ρ => (fa ρ).bind fun p => if p.1 = true then .ok (true, p.2) else fb p.2
def notB (fa : SB) : SB := fun ρ => (fa ρ).bind fun p => .ok (!p.1, p.2)
theorem gand1 (ha : PT X a (tT (gc X A0 W) ga)) : PW X (.BoolOp .And [a] pos) (tT (gc X A0 W) ga) := pw_and1 ha
theorem gor1 (ha : PT X a (tT (gc X A0 W) ga)) : PW X (.BoolOp .Or [a] pos) (tT (gc X A0 W) ga) := pw_or1 ha
theorem gand (ha : PT X a (tT (gc X A0 W) ga)) (hb : PW X (.BoolOp .And (b :: rest) pos) (tT (gc X A0 W) gb)) : PW X (.BoolOp .And (a :: b :: rest) pos) (tT (gc X A0 W) (andB ga gb)) := by
  refine PW_imp (pw_and ha hb) ?_
  rintro σ H Q ⟨S, ρ, rp, h⟩
  refine tT_bind (P := fun z => PostT (gc X A0 W) S H σ ρ z Q) exT PostT.bad rp h fun p S1 H1 t1 r1 h => ?_
  cases hp : p.1 with
  | false => rw [hp] at h; exact iteF ((show PostT (gc X A0 W) S H σ ρ (.ok (false, p.2)) Q from h) S1 H1 t1 r1)
  | true => rw [hp] at h; exact iteT ⟨S1, p.2, r1, PostT.from t1 h⟩
theorem gor (ha : PT X a (tT (gc X A0 W) ga)) (hb : PW X (.BoolOp .Or (b :: rest) pos) (tT (gc X A0 W) gb)) : PW X (.BoolOp .Or (a :: b :: rest) pos) (tT (gc X A0 W) (orB ga gb)) := by
  refine PW_imp (pw_or ha hb) ?_
  rintro σ H Q ⟨S, ρ, rp, h⟩
  refine tT_bind (P := fun z => PostT (gc X A0 W) S H σ ρ z Q) exT PostT.bad rp h fun p S1 H1 t1 r1 h => ?_
  cases hp : p.1 with
  | true => rw [hp] at h; exact iteT ((show PostT (gc X A0 W) S H σ ρ (.ok (true, p.2)) Q from h) S1 H1 t1 r1)
  | false => rw [hp] at h; exact iteF ⟨S1, p.2, r1, PostT.from t1 h⟩
theorem gnot (ha : PT X a (tT (gc X A0 W) ga)) : PT X (.UnaryOp .Not a pos) (tT (gc X A0 W) (notB ga)) := by
  refine PT_imp (pt_not ha) ?_
  rintro σ H Q ⟨S, ρ, rp, h⟩
  exact tT_bind (P := fun z => PostT (gc X A0 W) S H σ ρ z Q) exT PostT.bad rp h fun p S1 H1 t1 r1 h => h S1 H1 t1 r1
/-! and, or, not as values -/
def andV (fa fb : SE) : SE := fun ρ => (fB fa ρ).bind fun p => if p.1 = true then fb p.2 else .ok (.val (.bool false), p.2)
def orV (fa fb : SE) : SE := fun ρ => (fB fa ρ).bind fun p => if p.1 = true then .ok (.val (.bool true), p.2) else fb p.2
def notV (fa : SE) : SE := fun ρ => (fB fa ρ).bind fun p => .ok (.val (.bool (!p.1)), p.2)
theorem fB_bind {g : Gc} {S : Addr → Prop} {H : Hp} {σ : St} {ρ : List B} {R : VK} {Q : VK} {k : Bool × List B → Rs (Ev × List B)} (r : Rp g.K g.A0 S H σ ρ) (h : PostE g S H σ ρ ((fB fa ρ).bind k) Q)
    (hk : ∀ (c : Bool) (ρ1 : List B) S' H', Tr S H (Ow σ ρ) S' H' (Ow σ ρ1) → Rp g.K g.A0 S' H' σ ρ1 → PostE g S H σ ρ (k (c, ρ1)) Q → R (.bl c) H') : tE g fa σ H R := by
  refine tE_bind (f := fa) (k := fun p => (match peek p.2 p.1 with | some (.bool c) => (Rs.ok (c, p.2) : Rs (Bool × List B)) | _ => Rs.bad).bind k) (P := fun z => PostE g S H σ ρ z Q) exE PostE.bad r ?_ fun p S1 H1 v1 t1 r1 e1 h => ?_
  · have e : (fB fa ρ).bind k = (fa ρ).bind (fun p => (match peek p.2 p.1 with | some (.bool c) => (Rs.ok (c, p.2) : Rs (Bool × List B)) | _ => Rs.bad).bind k) := by
      unfold fB
      cases fa ρ with
      | ok p => rfl
      | ex n ρ' => rfl
      | bad => rfl
    rw [e] at h
    exact h
  · cases p1 : peek p.2 p.1 with
    | none => rw [p1] at h; exact h.elim
    | some d =>
      rw [p1] at h
      cases d with
      | bool c =>
        rw [(peek_ok r1 e1 p1).bl]
        exact hk c p.2 S1 H1 t1 r1 h
      | _ => exact h.elim
theorem gandV (ha : PE X a (tE (gc X A0 W) fa)) (hb : PE X (.BoolOp .And (b :: rest) pos) (tE (gc X A0 W) fb)) : PE X (.BoolOp .And (a :: b :: rest) pos) (tE (gc X A0 W) (andV fa fb)) := by
  refine PE_imp (pe_and ha hb) ?_
  rintro σ H Q ⟨S, ρ, rp, h⟩
  refine fB_bind rp h fun c ρ1 S1 H1 t1 r1 h => ⟨c, rfl, ?_⟩
  cases c with
  | false => exact iteF ((show PostE (gc X A0 W) S H σ ρ (.ok (.val (.bool false), ρ1)) Q from h) S1 H1 _ t1 r1 (.bl false))
  | true => exact iteT ⟨S1, ρ1, r1, PostE.from t1 h⟩
theorem gone {op} (h : PE X a (tE (gc X A0 W) fa)) : PE X (.BoolOp op [a] pos) (tE (gc X A0 W) fa) := pe_one h
theorem gnotV (ha : PE X a (tE (gc X A0 W) fa)) : PE X (.UnaryOp .Not a pos) (tE (gc X A0 W) (notV fa)) := by
  refine PE_imp (pe_not ha) ?_
  rintro σ H Q ⟨S, ρ, rp, h⟩
  exact fB_bind rp h fun c ρ1 S1 H1 t1 r1 h => ⟨c, rfl, (show PostE (gc X A0 W) S H σ ρ (.ok (.val (.bool (!c)), ρ1)) Q from h) S1 H1 _ t1 r1 (.bl _)⟩
def ifE (t : SB) (fa fb : SE) : SE := fun ρ => (t ρ).bind fun p => if p.1 = true then fa p.2 else fb p.2
theorem gif {t : Expr} (ht : PT X t (tT (gc X A0 W) ga)) (ha : PE X a (tE (gc X A0 W) fa)) (hb : PE X b (tE (gc X A0 W) fb)) : PE X (.IfExp t a b pos) (tE (gc X A0 W) (ifE ga fa fb)) := by
  refine PE_imp (pe_ifExp ht ha hb) ?_
  rintro σ H Q ⟨S, ρ, rp, h⟩
  refine tT_bind (P := fun z => PostE (gc X A0 W) S H σ ρ z Q) exE PostE.bad rp h fun p S1 H1 t1 r1 h => ?_
  cases hp : p.1 with
  | true => rw [hp] at h; exact iteT ⟨S1, p.2, r1, PostE.from t1 h⟩
  | false => rw [hp] at h; exact iteF ⟨S1, p.2, r1, PostE.from t1 h⟩
end
/-! ### arguments, displays -/
section
variable {X : Cx} {A0 : Ax} {W : WX} {e : Expr} {es : List Expr} {f : SE} {fs : SA} {pos : Pos}
def aNil : SA := fun ρ => .ok ([], ρ)
def aCons (f : SE) (fs : SA) : SA := fun ρ => (f ρ).bind fun p => (fs p.2).bind fun q => .ok (settle p.1 :: q.1, q.2)
theorem gnil : PA X [] (tA (gc X A0 W) aNil) := PA_imp pa_nil fun σ H Q ⟨S, ρ, r, h⟩ => h S H [] Tr.refl r .nil
theorem gcons (ha : PE X e (tE (gc X A0 W) f)) (hr : PA X es (tA (gc X A0 W) fs)) (hs : starEach (e :: es) X.env = (false, eval e X.env) :: starEach es X.env := by rfl) : PA X (e :: es) (tA (gc X A0 W) (aCons f fs)) := by
  refine PA_imp (pa_cons ha hr hs) ?_
  rintro σ H Q ⟨S, ρ, rp, h⟩
  refine tE_bind (P := fun z => PostA (gc X A0 W) S H σ ρ z Q) exA PostA.bad rp h fun p S1 H1 v1 t1 r1 e1 h => ?_
  obtain ⟨S1', t1', r1', e1', _⟩ := settle_ok t1 r1 e1
  refine tA_bind (P := fun z => PostA (gc X A0 W) S1' H1 σ p.2 z Q) exA PostA.bad r1' (h.from t1') fun q S2 H2 vs t2 r2 e2 h => ?_
  exact h S2 H2 (v1 :: vs) t2 r2 (.cons (e1'.ex (r1'.ex t2)) e2)
/-- what stands in a slot is given away -/
def shr (ρ : List B) : Ev → Option (PyData × List B)
  | .val d => some (d, ρ)
  | .fr d => some (d, ρ)
  | .sl i => match ρ[i]? with
    | some (.own d) => some (d, ρ.set i (.val d))
    | some (.val d) => some (d, ρ)
    | _ => none
theorem ow_set {σ : St} {ρ : List B} {i : Nat} {b : B} (hb : isOw (some b) = false) {a : Addr} (h : Ow σ (ρ.set i b) a) : Ow σ ρ a ∧ ¬ ∃ o, OwI σ ρ i o ∧ o = a ∧ ∀ j, OwI σ ρ j a → j = i := by
  obtain ⟨j, h1, h2⟩ := h
  by_cases e : i = j
  · subst e
    by_cases hl : i < ρ.length
    · rw [List.getElem?_set_self hl, hb] at h1; cases h1
    · rw [List.getElem?_eq_none (by rw [List.length_set]; omega)] at h1; cases h1
  · rw [List.getElem?_set_ne e] at h1
    exact ⟨⟨j, h1, h2⟩, fun ⟨o, _, _, u⟩ => e (u j ⟨h1, h2⟩).symm⟩
theorem shr_sl {K : PySem.W.Frag} {A0 : Ax} {S : Addr → Prop} {H : Hp} {σ : St} {ρ : List B} {i : Nat} {d : PyData} (r : Rp K A0 S H σ ρ) (e : ρ[i]? = some (.own d)) :
    ∃ a, σ[i]? = some (some (.ref a)) ∧ Ow σ ρ a ∧ Rp K A0 (Sadd S a) H σ (ρ.set i (.val d)) ∧ Dr K (Sadd S a) H (.ref a) d ∧ (∀ b, Ow σ (ρ.set i (.val d)) b → Ow σ ρ b) := by
  obtain ⟨a, e1, e2, o, e3, e4⟩ := r.bd i _ e
  have ow : OwI σ ρ i a := by unfold OwI; rw [e]; exact ⟨rfl, e1⟩
  have hl : i < ρ.length := (List.getElem?_eq_some_iff.mp e).1
  have dr : Dr K (Sadd S a) H (.ref a) d := .obj (.inl e3) (.inr rfl) (e4.ex (Ex.add a))
  have sub : ∀ b, Ow σ (ρ.set i (.val d)) b → Ow σ ρ b := fun b h => (ow_set rfl h).1
  refine ⟨a, e1, ⟨i, ow⟩, ⟨by rw [List.length_set]; exact r.len, fun j b hb => ?_, fun j k c h1 h2 => ?_, fun c hc => ?_, fun j d' c h1 h2 => ?_, r.aa, r.tb⟩, dr, sub⟩
  · by_cases hj : i = j
    · subst hj
      rw [List.getElem?_set_self hl] at hb; cases hb
      exact ⟨_, e1, dr⟩
    · rw [List.getElem?_set_ne hj] at hb
      have q := r.bd j b hb
      cases b with
      | un => trivial
      | exc n => exact bd_exc (Ex.add a) q
      | val d' => obtain ⟨v, q1, q2⟩ := q; exact ⟨v, q1, q2.ex (Ex.add a)⟩
      | own d' =>
        obtain ⟨c, q1, q2, q3⟩ := q
        refine ⟨c, q1, fun z => ?_, q3.ex (Ex.add a) fun _ h => h⟩
        rcases z with z | rfl
        · exact q2 z
        · exact hj (r.dis i j c ow (by unfold OwI; rw [hb]; exact ⟨rfl, q1⟩))
      | prm d' =>
        obtain ⟨c, q1, q0, q2, q3⟩ := q
        refine ⟨c, q1, q0, fun z => ?_, q3.ex (Ex.add a) fun _ h => h⟩
        rcases z with z | rfl
        · exact q2 z
        · exact hj (r.dis i j c ow (by unfold OwI; rw [hb]; exact ⟨rfl, q1⟩))
  · have w1 : OwI σ ρ j c := by
      by_cases hj : i = j
      · subst hj; unfold OwI at h1; rw [List.getElem?_set_self hl] at h1; cases h1.1
      · unfold OwI at h1 ⊢; rw [List.getElem?_set_ne hj] at h1; exact h1
    have w2 : OwI σ ρ k c := by
      by_cases hj : i = k
      · subst hj; unfold OwI at h2; rw [List.getElem?_set_self hl] at h2; cases h2.1
      · unfold OwI at h2 ⊢; rw [List.getElem?_set_ne hj] at h2; exact h2
    exact r.dis j k c w1 w2
  · rcases hc with hc | rfl
    · exact r.al c hc
    · exact ⟨o, e3⟩
  · by_cases hj : i = j
    · subst hj; rw [List.getElem?_set_self hl] at h1; cases h1
    · rw [List.getElem?_set_ne hj] at h1; exact r.np j d' c h1 h2
theorem shr_ok {K : PySem.W.Frag} {A0 : Ax} {S S0 : Addr → Prop} {H H0 : Hp} {σ : St} {ρ ρ' : List B} {O0 : Addr → Prop} {v : V} {e : Ev} {d : PyData}
    (t : Tr S0 H0 O0 S H (Ow σ ρ)) (r : Rp K A0 S H σ ρ) (h : RE1 K S H σ v e) (q : shr ρ e = some (d, ρ')) :
    ∃ S', Tr S0 H0 O0 S' H (Ow σ ρ') ∧ Rp K A0 S' H σ ρ' ∧ Dr K S' H v d ∧ Ex S H S' H := by
  cases e with
  | val d' => cases q; exact ⟨S, t, r, h, Ex.same fun _ _ e => e⟩
  | fr d' => exact h.elim
  | sl i =>
    have hv : σ[i]? = some (some v) := h
    unfold shr at q
    cases e : ρ[i]? with
    | none => simp only [e, reduceCtorEq] at q
    | some b =>
      simp only [e] at q
      cases b with
      | un => cases q
      | exc n => cases q
      | prm d' => cases q
      | val d' =>
        cases q
        obtain ⟨u, e1, e2⟩ := r.bd i _ e
        rw [hv] at e1; cases e1
        exact ⟨S, t, r, e2, Ex.same fun _ _ e => e⟩
      | own d' =>
        cases q
        obtain ⟨a, e1, ow, r', dr, sub⟩ := shr_sl r e
        rw [hv] at e1; cases e1
        refine ⟨Sadd S a, ?_, r', dr, Ex.add a⟩
        have t' := t.add (a := a) (by
          rcases t.o a ow with z | z
          · exact .inr z
          · exact .inl z)
        exact ⟨t'.s, t'.keep, t'.dom, fun b hb => t.o b (sub b hb), t'.g⟩
def shrs (ρ : List B) : List Ev → Option (List PyData × List B)
  | [] => some ([], ρ)
  | e :: es => (shr ρ e).bind fun p => (shrs p.2 es).map fun q => (p.1 :: q.1, q.2)
theorem shrs_ok {K : PySem.W.Frag} {A0 : Ax} {S0 : Addr → Prop} {H H0 : Hp} {σ : St} {O0 : Addr → Prop} : ∀ {vs : List V} {es : List Ev} {S : Addr → Prop} {ρ ρ' : List B} {ds : List PyData},
    Tr S0 H0 O0 S H (Ow σ ρ) → Rp K A0 S H σ ρ → Paired (RE1 K S H σ) vs es → shrs ρ es = some (ds, ρ') → ∃ S', Tr S0 H0 O0 S' H (Ow σ ρ') ∧ Rp K A0 S' H σ ρ' ∧ DrAll K S' H vs ds ∧ Ex S H S' H
  | _, _, S, ρ, ρ', ds, t, r, .nil, q => by cases q; exact ⟨S, t, r, .nil, Ex.same fun _ _ e => e⟩
  | _, _, S, ρ, ρ', ds, t, r, .cons (b := e) (l₂ := es) a rest, q => by
    unfold shrs at q
    cases h1 : shr ρ e with
    | none => rw [h1] at q; cases q
    | some p =>
      rw [h1] at q
      cases h2 : shrs p.2 es with
      | none => rw [Option.bind_some, h2] at q; cases q
      | some p2 =>
        rw [Option.bind_some, h2] at q; cases q
        obtain ⟨S1, t1, r1, d1, x1⟩ := shr_ok t r a h1
        obtain ⟨S2, t2, r2, d2, x2⟩ := shrs_ok t1 r1 (RE1s.ex x1 rest) h2
        exact ⟨S2, t2, r2, .cons (d1.ex x2) d2, ⟨fun b hb => x2.s b (x1.s b hb), fun _ _ _ _ e => e, fun _ _ e => e, fun _ _ _ e => e⟩⟩
/-- a display: what it makes of the items -/
def dispE (mk : List PyData → Ev) (fs : SA) : SE := fun ρ => (fs ρ).bind fun p => match shrs p.2 p.1 with
  | some (ds, ρ') => if ds.length ≤ sizeLine then resE ρ' (some (mk ds)) else .bad
  | none => .bad
theorem disp_ok {g : Gc} {mk : List PyData → Ev} {σ : St} {H : Hp} {Q : VK} (h : tE g (dispE mk fs) σ H Q) {R : List V → Hp → Prop}
    (hR : ∀ S' H' vs ds, DrAll g.K S' H' vs ds → vs.length ≤ sizeLine → Out g.K S' H' (mk ds) Q → R vs H') : tA g fs σ H R := by
  obtain ⟨S, ρ, rp, h⟩ := h
  refine tA_bind (P := fun z => PostE g S H σ ρ z Q) exE PostE.bad rp h fun p S1 H1 vs t1 r1 e1 h => ?_
  cases q : shrs p.2 p.1 with
  | none => rw [q] at h; exact h.elim
  | some pr =>
    obtain ⟨ds, ρ'⟩ := pr
    rw [q] at h
    obtain ⟨S2, t2, r2, d2, _⟩ := shrs_ok t1 r1 e1 q
    simp only at h
    split at h
    · rename_i hl
      obtain ⟨ev, he, out⟩ := resE_out t2 r2 h
      cases he
      exact hR S2 H1 vs ds d2 (by rw [d2.length]; exact hl) out
    · exact h.elim
def tupE (fs : SA) : SE := dispE (fun ds => .val (.tuple ds)) fs
def lstE (fs : SA) : SE := dispE (fun ds => .fr (.list ds)) fs
theorem gtup {x1} (h : PA X es (tA (gc X A0 W) fs)) : PE X (.Tuple es x1 pos) (tE (gc X A0 W) (tupE fs)) := PE_imp (pe_tup h) fun σ H Q q => disp_ok (g := gc X A0 W) q fun S' H' vs ds d hl out => ⟨hl, outTup d out⟩
theorem glst (h : PA X es (tA (gc X A0 W) fs)) : PE X (.List es pos) (tE (gc X A0 W) (lstE fs)) := PE_imp (pe_lst h) fun σ H Q q => disp_ok (g := gc X A0 W) q fun S' H' vs ds d hl out => ⟨hl, outLst d out⟩
end
/-! ### items, slices -/
section
variable {X : Cx} {A0 : Ax} {W : WX} {a b : Expr} {fa fb : SE} {pos : Pos}
def ixD : PyData → PyData → Option Ev
  | .list ds, .int i => (atI ds i).map .val
  | .tuple ds, .int i => (atI ds i).map .val
  | .str z, .int i => if z.length ≤ sizeLine then (atI z.cps.toList i).map fun c => .val (.str ⟨#[c]⟩) else none
  | .dict kvs, k => (keyOf k).bind fun q => (dget kvs q).map .val
  | _, _ => none
theorem atI_dr {K : PySem.W.Frag} {S : Addr → Prop} {H : Hp} {xs : List V} {ds : List PyData} {i : Int} {d : PyData} (r : DrAll K S H xs ds) (h : atI ds i = some d) : ∃ v, atI xs i = some v ∧ Dr K S H v d := by
  unfold atI at h ⊢
  rw [r.length]
  cases e : ixN ds.length i with
  | none => rw [e] at h; cases h
  | some j =>
    rw [e] at h
    exact r.get h
theorem ixD_ok {K : PySem.W.Frag} : OpD K (fun x y H Q => rIx K x y H Q ∨ rIxG x y H Q) ixD := by
  intro S H x y d1 d2 e Q h1 h2 he out
  cases d1 with
  | none => cases d2 <;> cases he
  | bool b => cases d2 <;> cases he
  | int b => cases d2 <;> cases he
  | str z =>
    cases d2 with
    | int i =>
      simp only [ixD] at he
      split at he
      · rename_i hz
        cases e1 : atI z.cps.toList i with
        | none => rw [e1] at he; cases he
        | some c =>
          rw [e1] at he; cases he
          exact .inl (.inr (.inr ⟨z, i, c, h1.str, h2.int, hz, e1, outStr out⟩))
      · cases he
    | _ => cases he
  | list ds =>
    cases d2 with
    | int i =>
      simp only [ixD] at he
      cases e1 : atI ds i with
      | none => rw [e1] at he; cases he
      | some d =>
        rw [e1] at he; cases he
        obtain ⟨a, xs, rfl, q, r⟩ := h1.lst
        obtain ⟨v, e2, dv⟩ := atI_dr r e1
        exact .inl (.inl ⟨a, xs, i, v, rfl, h2.int, q.sq, e2, out v H (fun _ _ e => e) dv⟩)
    | _ => cases he
  | tuple ds =>
    cases d2 with
    | int i =>
      simp only [ixD] at he
      cases e1 : atI ds i with
      | none => rw [e1] at he; cases he
      | some d =>
        rw [e1] at he; cases he
        obtain ⟨a, xs, rfl, q, r⟩ := h1.tup
        obtain ⟨v, e2, dv⟩ := atI_dr r e1
        exact .inl (.inr (.inl ⟨a, xs, i, v, rfl, h2.int, q, e2, out v H (fun _ _ e => e) dv⟩))
    | _ => cases he
  | dict kvs =>
    have he' : ((keyOf d2).bind fun q => (dget kvs q).map Ev.val) = some e := by cases d2 <;> exact he
    cases hq : keyOf d2 with
    | none => rw [hq] at he'; cases he'
    | some q =>
      rw [hq] at he'
      cases hg : dget kvs q with
      | none => simp only [Option.bind, hg, Option.map_none, reduceCtorEq] at he'
      | some d =>
        simp only [Option.bind, hg, Option.map_some, Option.some.injEq] at he'
        subst he'
        obtain ⟨a, v, rfl, g, dr⟩ := h1.get h2 hq hg
        exact .inr ⟨a, v, rfl, g, out v H (fun _ _ e => e) dr⟩
theorem gix (hu : X.A.units + 1 < cLine) (ha : PE X a (tE (gc X A0 W) fa)) (hb : PE X b (tE (gc X A0 W) fb)) (hs : PlainIx b := by exact fun _ _ => rfl) : PE X (.Subscript a b pos) (tE (gc X A0 W) (op2 ixD fa fb)) := PE_imp (pe_ix (ix_seq.or (ix_dict hu)) ha hb hs) (op2_ok ixD_ok)
end
end G
namespace G
open PySem PySem.Spec PyProof.Rows L2
/-! ### what is read off the real heap -/
section
variable {X : Cx} {pins : List (Addr × Obj)} {σ : St} {H : Hp} {s : Shared} {S : Addr → Prop}
theorem pairs_vals {P : Program} {w : World} : ∀ {es : List DictEntry} {vs : List (Key × Value)}, Pairs (mixKind P w) es vs → es.map (·.val) = vs.map (·.2)
  | _, _, .nil => rfl
  | _, _, .cons _ he t => by simp only [List.map_cons, he, pairs_vals t]
theorem kv_vals {κ : Type} : ∀ {kvs : List (κ × V)} {vs : List (κ × Value)}, KV kvs vs → Vals (kvs.map (·.2)) (vs.map (·.2)) ∧ kvs.map (·.1) = vs.map (·.1)
  | _, _, .nil => ⟨.nil, rfl⟩
  | _, _, .cons ⟨a, b⟩ t => by
    obtain ⟨h1, h2⟩ := kv_vals t
    exact ⟨.cons b h1, by simp only [List.map_cons, a, h2]⟩
theorem zip_fst {α β : Type} : ∀ {l : List α} {m : List β}, l.length = m.length → (l.zip m).map (·.1) = l
  | [], [], _ => rfl
  | a :: l, b :: m, h => by simp only [List.zip_cons_cons, List.map_cons, zip_fst (Nat.succ.inj h)]
theorem zip_snd {α β : Type} : ∀ {l : List α} {m : List β}, l.length = m.length → (l.zip m).map (·.2) = m
  | [], [], _ => rfl
  | a :: l, b :: m, h => by simp only [List.zip_cons_cons, List.map_cons, zip_snd (Nat.succ.inj h)]
theorem kt_vals {P : Program} {w : World} : ∀ {kvs : List (List Key × V)} {xs : List (List Key × Addr × Value)}, KT H kvs xs → Vals (kvs.map (·.2)) ((xs.map (entryOfKey (tupleKind (mixKind P w)))).map (·.val))
  | _, _, .nil => .nil
  | _, _, .cons ⟨_, _, h3⟩ t => .cons h3 (kt_vals t)
/-- no object that is the module table -/
def NoSys (as : List Addr) : Prop := sysModules ∉ as
/-- what more is known around a body: no repr is running; the module table stands in the base -/
structure GX (X : Cx) : Prop where
  gd : X.A.guards = some []
  sys : ∃ o es ep, X.base.get? sysModules = some o ∧ o.data = .dict es ep
  un : X.A.units + 150 < cLine
theorem GX.ne_lst (G : GX X) (I : Inv X pins σ H s) {a : Addr} {xs : List V} (ha : LstX X.K H a xs) : a ≠ sysModules := by
  obtain ⟨o, es, ep, e, hc⟩ := G.sys
  rintro rfl
  obtain ⟨e2, hn⟩ := I.bs _ _ e
  rcases ha with h | ⟨o', h⟩ | ⟨its, n, h, _⟩
  · rw [hn] at h; cases h
  · rw [hn] at h; cases h
  · have := I.mod.kin _ _ h
    rw [e] at this; cases this
    cases hc
theorem Ct.reads_lst (G : GX X) (I : Inv X pins σ H s) {xs : List V} {ds : List PyData} (h : ∀ us, Vals xs us → ∃ as, ReadsAll s.heap us ds as ∧ NoSys as) {a : Addr} (ha : LstX X.K H a xs) : ∃ as, Reads s.heap (.ref a) (.list ds) as ∧ NoSys as := by
  obtain ⟨its, n, rv, e, z⟩ := ha.at_ I
  obtain ⟨as, hr, hn⟩ := h its rv
  refine ⟨_, Reads.list e rfl rfl (by simpa using hr), fun hm => ?_⟩
  rcases List.mem_cons.mp hm with hm | hm
  · exact G.ne_lst I ha hm.symm
  · exact hn hm
theorem nosys_nil : NoSys [] := fun h => nomatch h
theorem pairs_read {h : Heap} {P : Program} {w : World} : ∀ {es : List DictEntry} {vs : List (Key × Value)}, Pairs (mixKind P w) es vs → ∃ as, ReadsAll h (es.map (·.key)) (vs.map fun p => kD p.1) as ∧ NoSys as
  | _, _, .nil => ⟨_, .nil, nosys_nil⟩
  | _, _, .cons (e := e) (kv := kv) hk _ t => by
    obtain ⟨as, q, n⟩ := pairs_read (h := h) t
    rcases keyIs_shape hk with ⟨i, u, e1, e2⟩ | ⟨x, u, e1, e2⟩
    · exact ⟨[] ++ as, .cons (by show Reads h e.key (kD kv.1) []; rw [e1, e2]; exact Reads.int i u) q, n⟩
    · exact ⟨[] ++ as, .cons (by show Reads h e.key (kD kv.1) []; rw [e1, e2]; exact Reads.str x u) q, n⟩
theorem keys_read {h : Heap} : ∀ (ks : List Key) (us : List Value), Vals (ks.map kV) us → ∃ as, ReadsAll h us (ks.map kD) as ∧ NoSys as
  | [], _, r => by cases r; exact ⟨_, .nil, nosys_nil⟩
  | .inl i :: ks, _, .cons r t => by
    obtain ⟨as, q, n⟩ := keys_read (h := h) ks _ t
    obtain ⟨u, rfl⟩ := r
    exact ⟨[] ++ as, .cons (Reads.int i u) q, n⟩
  | .inr x :: ks, _, .cons r t => by
    obtain ⟨as, q, n⟩ := keys_read (h := h) ks _ t
    obtain ⟨u, rfl⟩ := r
    exact ⟨[] ++ as, .cons (Reads.str x u) q, n⟩
theorem nosys_app {as bs : List Addr} (h : NoSys as) (h' : NoSys bs) : NoSys (as ++ bs) := fun z => (List.mem_append.mp z).elim h h'
theorem kt_read (I : Inv X pins σ H s) : ∀ {kvs : List (List Key × V)} {xs : List (List Key × Addr × Value)}, KT H kvs xs → ∃ as, ReadsAll s.heap ((xs.map (entryOfKey (tupleKind (mixKind X.prog X.w)))).map (·.key)) (kvs.map fun p => PyData.tuple (p.1.map kD)) as ∧ NoSys as
  | _, _, .nil => ⟨_, .nil, nosys_nil⟩
  | _, _, .cons (a := p) (b := q) ⟨h1, h2, h3⟩ t => by
    obtain ⟨as, r, n1⟩ := kt_read I t
    obtain ⟨_, its, rv, o, ho, hc, n, hd⟩ := I.hok _ _ h2
    obtain ⟨bs, r2, n2⟩ := keys_read (h := s.heap) p.1 its rv
    exact ⟨_, .cons (Reads.tuple ho hc hd r2) r, nosys_app n2 n1⟩
theorem hokO (I : Inv X pins σ H s) {a : Addr} {o : HO} (h : HasO H a o) : ObjOk X.prog X.w H s.heap a o := by
  rcases h with h | ⟨_, od, h⟩
  · exact I.hok a _ h
  · exact (show ObjOk X.prog X.w H s.heap a (.frz od o) from I.hok a _ h).2
theorem reads_all (G : GX X) (I : Inv X pins σ H s) {v : V} {d : PyData} (h : Dr X.K S H v d) : ∀ u, RelV v u → ∃ as, Reads s.heap u d as ∧ NoSys as :=
  Dr.rec (motive_1 := fun v d _ => ∀ u, RelV v u → ∃ as, Reads s.heap u d as ∧ NoSys as) (motive_2 := fun vs ds _ => vs.length = ds.length ∧ ∀ us, Vals vs us → ∃ as, ReadsAll s.heap us ds as ∧ NoSys as) (motive_3 := fun o d _ => ∀ a, HasO H a o → ∃ as, Reads s.heap (.ref a) d as ∧ NoSys as)
    (fun u r => by cases r; exact ⟨_, Reads.none, nosys_nil⟩)
    (fun b u r => by cases r; exact ⟨_, Reads.bool b, nosys_nil⟩)
    (fun i u r => by obtain ⟨t, rfl⟩ := r; exact ⟨_, Reads.int i t, nosys_nil⟩)
    (fun x u r => by obtain ⟨t, rfl⟩ := r; exact ⟨_, Reads.str x t, nosys_nil⟩)
    (fun ha hs _ ih u r => by cases r; exact ih _ ha)
    (fun hl _ ih u r => by cases r; exact Ct.reads_lst G I ih.2 (.inr hl))
    (fun ht _ ih u r => by
      cases r
      obtain ⟨its, rv, ⟨o, ho, hc, n, hd⟩, _⟩ := I.tuple ht
      obtain ⟨as, hr, hn⟩ := ih.2 its rv
      exact ⟨_, Reads.tuple ho hc hd hr, hn⟩)
    ⟨rfl, fun us r => by cases r; exact ⟨_, ReadsAll.nil, nosys_nil⟩⟩
    (fun _ _ ih1 ih2 => ⟨by simp only [List.length_cons, ih2.1], fun us r => by
      cases r with
      | cons r1 r2 =>
        obtain ⟨as, q1, n1⟩ := ih1 _ r1
        obtain ⟨bs, q2, n2⟩ := ih2.2 _ r2
        exact ⟨_, ReadsAll.cons q1 q2, nosys_app n1 n2⟩⟩)
    (fun _ ih a ha => Ct.reads_lst G I ih.2 (.inl ha.lst))
    (fun {kvs ds} _ ih a ha => by
      obtain ⟨_, hsys, vs, kv, o, es, ep, ho, hx, hdt, _, hp, _⟩ := hokO I ha
      obtain ⟨q1, q2⟩ := kv_vals kv
      obtain ⟨as, r1, n1⟩ := pairs_read (h := s.heap) hp
      obtain ⟨hl, ih⟩ := ih
      obtain ⟨bs, r2, n2⟩ := ih _ q1
      refine ⟨_, Reads.dict ho hx.1 hdt (as := as) (bs := bs) ?_ ?_, nosys_app (as := a :: as) (fun z => (List.mem_cons.mp z).elim (fun e => by rw [e, beq_self_eq_true] at hsys; cases hsys) n1) n2⟩
      · rw [zip_fst (by simpa using hl), show (fun p : Key × V => kD p.1) = kD ∘ (·.1) from rfl, ← List.map_map, q2, List.map_map]
        exact r1
      · rw [zip_snd (by simpa using hl), pairs_vals hp]
        exact r2)
    (fun {kvs ds} _ ih a ha => by
      obtain ⟨_, hsys, xs, kt, o, es, ep, ho, hx, hdt, hes, _⟩ := hokO I ha
      obtain ⟨as, r1, n1⟩ := kt_read I kt
      obtain ⟨hl, ih⟩ := ih
      obtain ⟨bs, r2, n2⟩ := ih _ (kt_vals (P := X.prog) (w := X.w) kt)
      refine ⟨_, Reads.dict ho hx.1 hdt (as := as) (bs := bs) ?_ ?_, nosys_app (as := a :: as) (fun z => (List.mem_cons.mp z).elim (fun e => by rw [e, beq_self_eq_true] at hsys; cases hsys) n1) n2⟩
      · rw [zip_fst (by simpa using hl), hes]
        exact r1
      · rw [zip_snd (by simpa using hl), hes]
        exact r2) h
theorem Dw.reads (G : GX X) (I : Inv X pins σ H s) {v : V} {d : PyData} {u : Value} (h : Dw X.K S H v d) (r : RelV v u) : ∃ as, Reads s.heap u d as ∧ NoSys as := by
  rcases h with h | ⟨a, rfl, o, e, c⟩
  · exact reads_all G I h u r
  · exact reads_all (S := fun b => S b ∨ b = a) G I (Dr.obj (.inl e) (.inr rfl) (c.ex (Ex.add a))) u r
/-! ### repr -/
mutual
def szD : PyData → Nat
  | .none => 4
  | .bool _ => 5
  | .int _ => 1921
  | .str x => if x.cps.toList.all (fun c => decide (c < 4294967296)) = true then 10 * x.length + 2 else 4294967296
  | .list xs => szAll xs + 4
  | .tuple xs => szAll xs + 4
  | .dict kvs => szKv kvs + 4
def szAll : List PyData → Nat
  | [] => 0
  | x :: xs => szD x + 2 + szAll xs
def szKv : List (PyData × PyData) → Nat
  | [] => 0
  | (k, v) :: r => szD k + szD v + 4 + szKv r
end
theorem textFrom_le : ∀ (ts : List Str) (k : Nat) (acc : Str), (textFrom k acc ts).length ≤ acc.length + piled ts
  | [], k, acc => by show acc.length ≤ _; omega
  | t :: r, k, acc => by
    have ih := textFrom_le r (k + 1) (acc ++ (if k > 0 then ", " else "" : String) ++ t)
    have e : (acc ++ (if k > 0 then ", " else "" : String) ++ t).length = acc.length + (if k > 0 then 2 else 0) + t.length := by
      rw [strLen_append, strLen_append]
      split <;> rfl
    rw [e] at ih
    rw [piled_cons]
    show (textFrom (k + 1) _ r).length ≤ _
    have h2 : (if k > 0 then 2 else 0) ≤ 2 := by split <;> omega
    omega
theorem listText_le (ts : List Str) : (listText ts).length ≤ piled ts + 2 := by
  unfold listText
  rw [strLen_append]
  have := textFrom_le ts 0 "["
  have e1 : (("[" : String) : Str).length = 1 := rfl
  have e2 : (("]" : String) : Str).length = 1 := rfl
  omega
theorem join_le (ts : List Str) : (Str.join ", " ts).length ≤ piled ts := by
  by_cases h : ts = []
  · subst h; exact Nat.zero_le _
  · have := join_length_add ts h; omega
theorem tupleText_le (ts : List Str) : (tupleText ts).length ≤ piled ts + 3 := by
  unfold tupleText
  rw [strLen_append, strLen_append]
  have := join_le ts
  have e1 : (("(" : String) : Str).length = 1 := rfl
  have e2 : ((if ts.length == 1 then ",)" else ")" : String) : Str).length ≤ 2 := by split <;> decide
  omega
theorem dictText_le (ts : List Str) : (dictText ts).length ≤ piled ts + 2 := by
  unfold dictText
  rw [strLen_append, strLen_append]
  have := join_le ts
  have e1 : (("{" : String) : Str).length = 1 := rfl
  have e2 : (("}" : String) : Str).length = 1 := rfl
  omega
mutual
theorem shown_le : ∀ d : PyData, d.showable = true → szD d ≤ 4294967295 → d.shown.length ≤ szD d
  | .none, _, _ => by simp only [PyData.shown, szD]; decide
  | .bool b, _, _ => by cases b <;> simp only [PyData.shown, szD] <;> decide
  | .int i, h, _ => by
    simp only [PyData.showable, decide_eq_true_eq] at h
    simp only [PyData.shown, szD]
    have := int_text_length_le (a := i) (k := 1920) (by decide) h
    show (Str.ofString (toString i)).length ≤ _
    rw [PySem.ofString_length]
    omega
  | .str x, _, h => by
    simp only [PyData.shown]
    unfold szD at h ⊢
    split at h
    · rename_i hc
      rw [if_pos hc]
      exact StrLaws.reprText_len x fun c hm => by
        have := List.all_eq_true.mp hc c hm
        have e : (16 : Nat) ^ 8 = 4294967296 := by decide
        rw [e]; exact of_decide_eq_true this
    · omega
  | .list xs, h, z => by
    simp only [PyData.showable] at h
    simp only [szD] at z ⊢
    simp only [PyData.shown]
    have := listText_le (PyData.shownAll xs)
    have := shownAll_le xs h (by omega)
    omega
  | .tuple xs, h, z => by
    simp only [PyData.showable] at h
    simp only [szD] at z ⊢
    simp only [PyData.shown]
    have := tupleText_le (PyData.shownAll xs)
    have := shownAll_le xs h (by omega)
    omega
  | .dict kvs, h, z => by
    simp only [PyData.showable] at h
    simp only [szD] at z ⊢
    simp only [PyData.shown]
    have := dictText_le (PyData.shownKv kvs)
    have := shownKv_le kvs h (by omega)
    omega
theorem shownAll_le : ∀ xs : List PyData, PyData.showableAll xs = true → szAll xs ≤ 4294967295 → piled (PyData.shownAll xs) ≤ szAll xs
  | [], _, _ => by simp only [PyData.shownAll, szAll]; decide
  | x :: xs, h, z => by
    simp only [PyData.showableAll, Bool.and_eq_true] at h
    simp only [szAll] at z ⊢
    simp only [PyData.shownAll, piled_cons]
    have := shown_le x h.1 (by omega)
    have := shownAll_le xs h.2 (by omega)
    omega
theorem shownKv_le : ∀ kvs : List (PyData × PyData), PyData.showableKv kvs = true → szKv kvs ≤ 4294967295 → piled (PyData.shownKv kvs) ≤ szKv kvs
  | [], _, _ => by simp only [PyData.shownKv, szKv]; decide
  | (k, v) :: r, h, z => by
    simp only [PyData.showableKv, Bool.and_eq_true] at h
    simp only [szKv] at z ⊢
    simp only [PyData.shownKv, piled_cons]
    have := shown_le k h.1.1 (by omega)
    have := shown_le v h.1.2 (by omega)
    have := shownKv_le r h.2 (by omega)
    rw [strLen_append, strLen_append]
    have e : ((": " : String) : Str).length = 2 := rfl
    omega
end
def reprOk (d : PyData) : Bool := d.showable && (decide (szD d ≤ 16000000) && decide (d.depth ≤ 64))
def reprD : List PyData → Option Ev
  | [d] => if reprOk d = true then some (.val (.str d.shown)) else none
  | _ => none
theorem call_repr (G : GX X) : CallR X (.builtin "repr") (fun xs H Q => ∃ S d, DwAll X.K S H xs [d] ∧ reprOk d = true ∧ Q (.str d.shown) H) := by
  rintro pins s σ H xs us Q I rx ⟨S, d, hd, ok, q⟩
  cases hd with
  | cons hd hn =>
    cases hn
    obtain ⟨u, rfl, ru⟩ := vals1 rx
    simp only [reprOk, Bool.and_eq_true, decide_eq_true_eq] at ok
    obtain ⟨sh, hz, hdp⟩ := ok
    have hl := shown_le d sh (by omega)
    have hsz : d.shown.length ≤ sizeLine := by rw [sizeLine_eq]; omega
    obtain ⟨as, rd, ns⟩ := hd.reads G I ru
    have hun := G.un
    cases rd with
    | none => exact PySem.P.repr_of_none ⟨.str _, H, I.tok _, ⟨_, rfl⟩, by simpa only [PyData.shown] using q⟩
    | bool b => exact PySem.P.repr_of_bool ⟨.str _, H, I.tok _, ⟨_, rfl⟩, by simpa only [PyData.shown] using q⟩
    | int i t => exact PySem.P.repr_of_int (by simpa only [PyData.showable, decide_eq_true_eq] using sh) ⟨.str _, H, I.tok _, ⟨_, rfl⟩, by simpa only [PyData.shown] using q⟩
    | str x t => exact PySem.P.repr_of_str ⟨.str _, H, I.tok _, ⟨_, rfl⟩, by simpa only [PyData.shown] using q⟩ (by simpa only [PyData.shown] using hsz)
    | list h1 h2 h3 h4 => exact repr_of_reads' (Reads.list h1 h2 h3 h4) sh (fun _ => ns) G.gd (by omega) (fun _ _ e => e) (fun h' u tk k => ⟨.str _, H, I.kept k, ⟨_, rfl⟩, q⟩) hsz
    | tuple h1 h2 h3 h4 => exact repr_of_reads' (Reads.tuple h1 h2 h3 h4) sh (fun _ => ns) G.gd (by omega) (fun _ _ e => e) (fun h' u tk k => ⟨.str _, H, I.kept k, ⟨_, rfl⟩, q⟩) hsz
    | dict h1 h2 h3 h4 h5 => exact repr_of_reads' (Reads.dict h1 h2 h3 h4 h5) sh (fun _ => ns) G.gd (by omega) (fun _ _ e => e) (fun h' u tk k => ⟨.str _, H, I.kept k, ⟨_, rfl⟩, q⟩) hsz
end
/-! ### built-in calls -/
section
variable {X : Cx} {A0 : Ax} {W : WX} {x : Str} {p pos : Pos} {e : Expr} {es : List Expr} {fs : SA} {f : SE} {bid T : String} {r : List V → Hp → VK → Prop} {bd : List PyData → Option Ev}
theorem gcall (hc : CallR X (.builtin bid) r) (hd : CallD X.K r bd) (hm : X.mg x = none) (hv : bootBuiltins x = some (.builtin bid)) (ha : PA X (e :: es) (tA (gc X A0 W) fs)) (hg : Gl X x := by rfl) (hn : x ≠ "__name__" := by decide) (hdb : (x == ("__debug__" : Str)) = false := by decide)
    (he : starEach (e :: es) X.env = (false, eval e X.env) :: starEach es X.env := by rfl) (hpl : (backTo pos (starEach es X.env)).any (·.1) = false := by rfl) : PE X (.Call (.Name x p) (e :: es) [] pos) (tE (gc X A0 W) (opN bd fs)) :=
  PE_imp (pe_callB hc hg hm hv ha hn hdb he hpl) (opN_ok hd)
theorem gcallT (hc : CallR X (.type T) r) (hd : CallD X.K r bd) (hm : X.mg x = none) (hv : bootBuiltins x = some (.type T)) (ha : PA X (e :: es) (tA (gc X A0 W) fs)) (hg : Gl X x := by rfl) (hn : x ≠ "__name__" := by decide) (hdb : (x == ("__debug__" : Str)) = false := by decide)
    (he : starEach (e :: es) X.env = (false, eval e X.env) :: starEach es X.env := by rfl) (hpl : (backTo pos (starEach es X.env)).any (·.1) = false := by rfl) : PE X (.Call (.Name x p) (e :: es) [] pos) (tE (gc X A0 W) (opN bd fs)) :=
  PE_imp (pe_callTy hc hg hm hv ha hn hdb he hpl) (opN_ok hd)
theorem reprD_ok {K : PySem.W.Frag} : CallD K (fun xs H Q => ∃ S d, DwAll K S H xs [d] ∧ reprOk d = true ∧ Q (.str d.shown) H) reprD := by
  intro S H xs ds ev Q h he out
  match ds, he with
  | [d], he =>
    simp only [reprD] at he
    split at he
    · rename_i ok; cases he; exact ⟨S, d, h, ok, outStr out⟩
    · cases he
theorem g_repr (gx : GX X) (hm : X.mg "repr" = none) (ha : PA X (e :: es) (tA (gc X A0 W) fs)) (hg : Gl X "repr" := by rfl)
    (he : starEach (e :: es) X.env = (false, eval e X.env) :: starEach es X.env := by rfl) (hpl : (backTo pos (starEach es X.env)).any (·.1) = false := by rfl) : PE X (.Call (.Name "repr" p) (e :: es) [] pos) (tE (gc X A0 W) (opN reprD fs)) :=
  gcall (call_repr gx) reprD_ok hm PyProof.Rows.boot_repr ha hg (by decide) (by decide) he hpl
theorem dw1 {K : PySem.W.Frag} {S : Addr → Prop} {H : Hp} {xs : List V} {d : PyData} (h : DwAll K S H xs [d]) : ∃ v, xs = [v] ∧ Dw K S H v d := by
  cases h with
  | cons a b => cases b; exact ⟨_, rfl, a⟩
theorem dw2 {K : PySem.W.Frag} {S : Addr → Prop} {H : Hp} {xs : List V} {d e : PyData} (h : DwAll K S H xs [d, e]) : ∃ v u, xs = [v, u] ∧ Dw K S H v d ∧ Dw K S H u e := by
  cases h with
  | cons a b => cases b with
    | cons b c => cases c; exact ⟨_, _, rfl, a, b⟩
/-! len -/
def lenD : List PyData → Option Ev
  | [.list ds] => some (.val (.int ds.length))
  | [.tuple ds] => some (.val (.int ds.length))
  | [.str z] => if z.length ≤ sizeLine then some (.val (.int z.length)) else none
  | _ => none
theorem lenD_ok {K : PySem.W.Frag} : CallD K (fun xs H Q => ∃ x n, xs = [x] ∧ LenV K x H n ∧ Q (.int n) H) lenD := by
  intro S H xs ds ev Q h he out
  match ds, he with
  | [.list ds], he =>
    cases he
    obtain ⟨v, rfl, hv⟩ := dw1 h
    obtain ⟨a, ys, rfl, q, rr⟩ := hv.lst
    exact ⟨_, ds.length, rfl, .inl ⟨ys, q.sq, rr.length.symm⟩, outInt out⟩
  | [.tuple ds], he =>
    cases he
    obtain ⟨v, rfl, hv⟩ := dw1 h
    obtain ⟨a, ys, rfl, q, rr⟩ := hv.tup
    exact ⟨_, ds.length, rfl, .inr ⟨ys, q, rr.length.symm⟩, outInt out⟩
  | [.str z], he =>
    simp only [lenD] at he
    split at he
    · rename_i hz
      cases he
      obtain ⟨v, rfl, hv⟩ := dw1 h
      rw [hv.str]
      exact ⟨_, z.length, rfl, ⟨hz, rfl⟩, outInt out⟩
    · cases he
theorem g_len (hm : X.mg "len" = none) (ha : PA X (e :: es) (tA (gc X A0 W) fs)) (hg : Gl X "len" := by rfl)
    (he : starEach (e :: es) X.env = (false, eval e X.env) :: starEach es X.env := by rfl) (hpl : (backTo pos (starEach es X.env)).any (·.1) = false := by rfl) : PE X (.Call (.Name "len" p) (e :: es) [] pos) (tE (gc X A0 W) (opN lenD fs)) :=
  gcall call_len lenD_ok hm PySem.boot_len ha hg (by decide) (by decide) he hpl
/-! all, any over a list of bools -/
def boolsD : List PyData → Option (List Bool)
  | [] => some []
  | .bool b :: r => (boolsD r).map (b :: ·)
  | _ => none
theorem boolsD_ok {K : PySem.W.Frag} {S : Addr → Prop} {H : Hp} : ∀ {vs : List V} {ds : List PyData} {bs : List Bool}, DrAll K S H vs ds → boolsD ds = some bs → vs = bs.map V.bl
  | [], ds, bs, h, e => by cases h; cases e; rfl
  | v :: vs, ds, bs, h, e => by
    cases h with
    | cons h1 h2 =>
      rename_i d ds
      cases d with
      | bool b =>
        simp only [boolsD] at e
        cases e1 : boolsD ds with
        | none => rw [e1] at e; cases e
        | some bs' => rw [e1] at e; cases e; rw [h1.w.bl, boolsD_ok h2 e1]; rfl
      | _ => cases e
def allD : List PyData → Option Ev
  | [.list ds] => (boolsD ds).map fun bs => .val (.bool (bs.all id))
  | _ => none
def anyD : List PyData → Option Ev
  | [.list ds] => (boolsD ds).map fun bs => .val (.bool (bs.any id))
  | _ => none
theorem allD_ok {K : PySem.W.Frag} : CallD K (rAll K) allD := by
  intro S H xs ds ev Q h he out
  match ds, he with
  | [.list ds], he =>
    simp only [allD] at he
    cases e1 : boolsD ds with
    | none => rw [e1] at he; cases he
    | some bs =>
      rw [e1] at he; cases he
      obtain ⟨v, rfl, hv⟩ := dw1 h
      obtain ⟨a, ys, rfl, q, rr⟩ := hv.lst
      obtain rfl := boolsD_ok rr e1
      exact ⟨a, bs, rfl, q.sq, outBl out⟩
theorem g_all (hc : X.calm = true) (hm : X.mg "all" = none) (ha : PA X (e :: es) (tA (gc X A0 W) fs)) (hg : Gl X "all" := by rfl)
    (he : starEach (e :: es) X.env = (false, eval e X.env) :: starEach es X.env := by rfl) (hpl : (backTo pos (starEach es X.env)).any (·.1) = false := by rfl) : PE X (.Call (.Name "all" p) (e :: es) [] pos) (tE (gc X A0 W) (opN allD fs)) :=
  gcall (cr_all hc) allD_ok hm (by decide +kernel) ha hg (by decide) (by decide) he hpl
/-! abs, max, min of two ints -/
def absD : List PyData → Option Ev
  | [.int i] => some (.val (.int (if i < 0 then -i else i)))
  | _ => none
def max2D : List PyData → Option Ev
  | [.int i, .int j] => some (.val (.int (if j > i then j else i)))
  | _ => none
def min2D : List PyData → Option Ev
  | [.int i, .int j] => some (.val (.int (if j < i then j else i)))
  | _ => none
theorem max2D_ok {K : PySem.W.Frag} : CallD K (fun xs H Q => ∃ i j, xs = [.int i, .int j] ∧ Q (.int (if j > i then j else i)) H) max2D := by
  intro S H xs ds ev Q h he out
  match ds, he with
  | [.int i, .int j], he => cases he; obtain ⟨v, u, rfl, hv, hu⟩ := dw2 h; exact ⟨i, j, by rw [hv.int, hu.int], outInt out⟩
theorem min2D_ok {K : PySem.W.Frag} : CallD K (fun xs H Q => ∃ i j, xs = [.int i, .int j] ∧ Q (.int (if j < i then j else i)) H) min2D := by
  intro S H xs ds ev Q h he out
  match ds, he with
  | [.int i, .int j], he => cases he; obtain ⟨v, u, rfl, hv, hu⟩ := dw2 h; exact ⟨i, j, by rw [hv.int, hu.int], outInt out⟩
theorem g_max2 (hc : X.calm = true) (hm : X.mg "max" = none) (ha : PA X (e :: es) (tA (gc X A0 W) fs)) (hg : Gl X "max" := by rfl)
    (he : starEach (e :: es) X.env = (false, eval e X.env) :: starEach es X.env := by rfl) (hpl : (backTo pos (starEach es X.env)).any (·.1) = false := by rfl) : PE X (.Call (.Name "max" p) (e :: es) [] pos) (tE (gc X A0 W) (opN max2D fs)) :=
  gcall (call_max2 hc) max2D_ok hm (by decide +kernel) ha hg (by decide) (by decide) he hpl
theorem g_min2 (hc : X.calm = true) (hm : X.mg "min" = none) (ha : PA X (e :: es) (tA (gc X A0 W) fs)) (hg : Gl X "min" := by rfl)
    (he : starEach (e :: es) X.env = (false, eval e X.env) :: starEach es X.env := by rfl) (hpl : (backTo pos (starEach es X.env)).any (·.1) = false := by rfl) : PE X (.Call (.Name "min" p) (e :: es) [] pos) (tE (gc X A0 W) (opN min2D fs)) :=
  gcall (call_min2 hc) min2D_ok hm (by decide +kernel) ha hg (by decide) (by decide) he hpl
/-! tuple(x), list(x) -/
def tupleD : List PyData → Option Ev
  | [.list ds] => some (.val (.tuple ds))
  | [.tuple ds] => some (.val (.tuple ds))
  | _ => none
def listD : List PyData → Option Ev
  | [.list ds] => some (.fr (.list ds))
  | [.tuple ds] => some (.fr (.list ds))
  | [.dict kvs] => if keyed kvs = true then some (.fr (.list (kvs.map (·.1)))) else none
  | _ => none
theorem tupleD_ok {K : PySem.W.Frag} : CallD K (fun xs H Q => ∃ p ys, xs = [.ref p] ∧ ((SqL K H p ys ∧ ∀ l, H l = none → Q (.ref l) (upd H l (.tup ys))) ∨ (SqT K H p ys ∧ Q (.ref p) H))) tupleD := by
  intro S H xs ds ev Q h he out
  match ds, he with
  | [.list ds], he =>
    cases he
    obtain ⟨v, rfl, hv⟩ := dw1 h
    obtain ⟨a, ys, rfl, q, rr⟩ := hv.lst
    exact ⟨a, ys, rfl, .inl ⟨q.sq, outTup rr out⟩⟩
  | [.tuple ds], he =>
    cases he
    obtain ⟨v, rfl, hv⟩ := dw1 h
    obtain ⟨a, ys, rfl, q, rr⟩ := hv.tup
    exact ⟨a, ys, rfl, .inr ⟨q, out _ H (fun _ _ e => e) (.tup q rr)⟩⟩
theorem g_tuple (hm : X.mg "tuple" = none) (ha : PA X (e :: es) (tA (gc X A0 W) fs)) (hg : Gl X "tuple" := by rfl)
    (he : starEach (e :: es) X.env = (false, eval e X.env) :: starEach es X.env := by rfl) (hpl : (backTo pos (starEach es X.env)).any (·.1) = false := by rfl) : PE X (.Call (.Name "tuple" p) (e :: es) [] pos) (tE (gc X A0 W) (opN tupleD fs)) :=
  gcallT call_tuple_of tupleD_ok hm (by decide +kernel) ha hg (by decide) (by decide) he hpl
/-! isinstance with a built-in class -/
def tyD : PyData → String
  | .none => "NoneType"
  | .bool _ => "bool"
  | .int _ => "int"
  | .str _ => "str"
  | .list _ => "list"
  | .tuple _ => "tuple"
  | .dict _ => "dict"
theorem Dw.tyx {K : PySem.W.Frag} {S : Addr → Prop} {H : Hp} {v : V} {d : PyData} (h : Dw K S H v d) : TyX K H v (.type (tyD d)) := by
  cases d with
  | none => rw [h.non]; exact .base .non
  | bool b => rw [h.bl]; exact .base (.bl b)
  | int i => rw [h.int]; exact .base (.int i)
  | str x => rw [h.str]; exact .base (.str x)
  | list ds =>
    obtain ⟨a, xs, rfl, q, _⟩ := h.lst
    rcases q with q | ⟨o, q⟩ | ⟨its, n, q, _⟩
    · exact .base (.lst q)
    · exact .base (.frz q)
    · exact .kList q rfl
  | tuple ds =>
    obtain ⟨a, xs, rfl, q, _⟩ := h.tup
    rcases q with (q | ⟨o, q⟩) | ⟨o, its, n, q, c, _⟩
    · exact .base (.tup q)
    · exact .fTuple q
    · exact .kTuple q c
  | dict kvs =>
    have key : ∀ (o : HO) (a : Addr), HasO H a o → Ct K S H o (.dict kvs) → TyX K H (.ref a) (.type "dict") := fun o a e c => by
      generalize hd : PyData.dict kvs = D at c
      cases c with
      | lst _ => cases hd
      | dK _ =>
        rcases e with e | ⟨_, od, e⟩
        · exact .base (.dK e)
        · exact .fDict e
      | dT _ =>
        rcases e with e | ⟨e, _⟩
        · exact .base (.dT e)
        · exact e.elim
    rcases h with h | ⟨a, rfl, o, e, c⟩
    · cases h with
      | obj e _ c => exact key _ _ e c
    · exact key _ _ (.inl e) c
def isiS (T s : String) : Bool := s == T || (T == "int" && s == "bool")
def isiB (T : String) (d : PyData) : Bool := isiS T (tyD d)
def isiD (T : String) : PyData → Option Ev := fun d => some (.val (.bool (isiB T d)))
def KitOk (T : String) : Prop := ∀ d, kitB (tyD d) T = some (isiB T d)
theorem kit_mk {T : String} (h : (["NoneType", "bool", "int", "str", "list", "tuple", "dict"].all fun s => kitB s T == some (isiS T s)) = true) : KitOk T := fun d => by
  have := List.all_eq_true.mp h (tyD d) (by cases d <;> simp [tyD])
  exact eq_of_beq this
theorem kit_int : KitOk "int" := kit_mk (by decide +kernel)
theorem kit_bool : KitOk "bool" := kit_mk (by decide +kernel)
theorem kit_tuple : KitOk "tuple" := kit_mk (by decide +kernel)
theorem kit_str : KitOk "str" := kit_mk (by decide +kernel)
theorem g_isi {T : String} {y : Str} {p2 : Pos} (k : KitOk T) (hm : X.mg "isinstance" = none) (hm2 : X.mg y = none) (hv2 : bootBuiltins y = some (.type T)) (ha : PE X e (tE (gc X A0 W) f)) (hg : Gl X "isinstance" := by rfl) (hg2 : Gl X y := by rfl)
    (hn2 : y ≠ "__name__" := by decide) (hdb2 : (y == ("__debug__" : Str)) = false := by decide)
    (he : starEach [e, .Name y p2] X.env = (false, eval e X.env) :: starEach [.Name y p2] X.env := by rfl) (he2 : starEach [.Name y p2] X.env = (false, eval (.Name y p2) X.env) :: starEach [] X.env := by rfl)
    (hpl : (backTo pos (starEach [.Name y p2] X.env)).any (·.1) = false := by rfl) :
    PE X (.Call (.Name "isinstance" p) [e, .Name y p2] [] pos) (tE (gc X A0 W) (op1 (isiD T) f)) := by
  refine PE_imp (pe_callB call_isi hg hm (by decide +kernel) (pa_cons ha (pa_cons (pe_bltn (v := .ty T) hg2 hm2 hv2 rfl hn2 hdb2) pa_nil he2) he) (by decide) (by decide) he hpl) fun σ H Q h => ?_
  refine op1_ok (g := gc X A0 W) (r := fun x H Q => rIsi X.K [x, .ty T] H Q) (b := isiD T) (fun S H x d ev Q hd he out => ?_) σ H Q h
  cases he
  exact ⟨x, .ty T, .type (tyD d), .type T, _, rfl, .ty T, hd.tyx, kit_ty (k d), outBl out⟩
end
end G
namespace G
open PySem PySem.Spec PyProof.Rows L2
/-- how a statement ends -/
inductive Fl where
  | nx (ρ : List B) | rt (e : Ev) (ρ : List B) | bk (ρ : List B) | ct (ρ : List B)
abbrev SS := List B → Rs Fl
def Fl.env : Fl → List B
  | .nx ρ => ρ
  | .rt _ ρ => ρ
  | .bk ρ => ρ
  | .ct ρ => ρ
def EndFl (g : Gc) (H0 : Hp) (D : Ends) (S : Addr → Prop) (H : Hp) (σ : St) : Fl → Prop
  | .nx _ => D.nx σ H
  | .bk _ => D.bk σ H
  | .ct _ => D.ct σ H
  | .rt e ρ => ∀ v, RE g.K g.A0 H0 S H σ ρ v e → D.rt v H
def PostS (g : Gc) (S : Addr → Prop) (H : Hp) (σ : St) (ρ : List B) (r : Rs Fl) (D : Ends) : Prop := match r with
  | .ok fl => ∀ S' H' σ', Tr S H (Ow σ ρ) S' H' (Ow σ' fl.env) → Rp g.K g.A0 S' H' σ' fl.env → EndFl g H D S' H' σ' fl
  | .ex n ρ' => ∀ S' H' σ', Tr S H (Ow σ ρ) S' H' (Ow σ' ρ') → Rp g.K g.A0 S' H' σ' ρ' → g.wx n σ' H'
  | .bad => False
def tSt (g : Gc) (f : SS) : TS := fun D σ H => ∃ S ρ, Rp g.K g.A0 S H σ ρ ∧ PostS g S H σ ρ (f ρ) D
section
variable {g : Gc} {S S' : Addr → Prop} {H H' : Hp} {σ σ' : St} {ρ ρ' : List B} {D : Ends}
theorem PostS.from {r : Rs Fl} (t : Tr S H (Ow σ ρ) S' H' (Ow σ' ρ')) (h : PostS g S H σ ρ r D) : PostS g S' H' σ' ρ' r D := by
  cases r with
  | ok fl =>
    intro S2 H2 σ2 t2 r2
    have q := h S2 H2 σ2 (t.trans t2) r2
    cases fl with
    | nx _ => exact q
    | bk _ => exact q
    | ct _ => exact q
    | rt e ρ2 => exact fun v re => q v (re.back fun a hz => t.fresh hz)
  | ex n ρ2 => exact fun S2 H2 σ2 t2 r2 => h S2 H2 σ2 (t.trans t2) r2
  | bad => exact h
theorem PostS.bad : ¬ PostS g S H σ ρ .bad D := fun h => h
theorem exS : ∀ n ρ', PostS g S H σ ρ (.ex n ρ') D → ∀ S' H', Tr S H (Ow σ ρ) S' H' (Ow σ ρ') → Rp g.K g.A0 S' H' σ ρ' → g.wx n σ H' := fun _ _ h S' H' t r => h S' H' σ t r
end
def nxS : SS := fun ρ => .ok (.nx ρ)
def seqS (f1 f2 : SS) : SS := fun ρ => (f1 ρ).bind fun r => match r with
  | .nx ρ' => f2 ρ'
  | r => .ok r
section
variable {X : Cx} {A0 : Ax} {W : WX} {st : Stmt} {rest : List Stmt} {f f1 f2 : SS} {e : Expr} {fe : SE} {pos : Pos}
theorem gs_nil : PSs X [] (tSt (gc X A0 W) nxS) := PSs_imp pss_nil fun D σ H ⟨S, ρ, r, h⟩ => h S H σ Tr.refl r
theorem seq_ok {g : Gc} : ∀ D σ H, tSt g (seqS f1 f2) D σ H → tSeq (tSt g f1) (tSt g f2) D σ H := by
  rintro D σ H ⟨S, ρ, r, h⟩
  refine ⟨S, ρ, r, ?_⟩
  unfold seqS at h
  cases e : f1 ρ with
  | bad => rw [e] at h; exact h
  | ex n ρ' => rw [e] at h; exact h
  | ok fl =>
    rw [e] at h
    cases fl with
    | nx ρ' => exact fun S' H' σ' t r' => ⟨S', ρ', r', PostS.from t h⟩
    | rt ev ρ' => exact h
    | bk ρ' => exact h
    | ct ρ' => exact h
theorem gs_cons (h1 : PS X st (tSt (gc X A0 W) f1)) (h2 : PSs X rest (tSt (gc X A0 W) f2)) : PSs X (st :: rest) (tSt (gc X A0 W) (seqS f1 f2)) := PSs_imp (pss_cons h1 h2) seq_ok
theorem gs_one (h1 : PS X st (tSt (gc X A0 W) f1)) : PSs X [st] (tSt (gc X A0 W) f1) := pss_one h1
def bkS : SS := fun ρ => .ok (.bk ρ)
def ctS : SS := fun ρ => .ok (.ct ρ)
def retS (fe : SE) : SS := fun ρ => (fe ρ).bind fun p => .ok (.rt p.1 p.2)
theorem gs_ret (he : PE X e (tE (gc X A0 W) fe)) : PS X (.Return (some e) pos) (tSt (gc X A0 W) (retS fe)) := PS_imp (ps_ret he) fun D σ H ⟨S, ρ, r, h⟩ =>
  tE_bind (P := fun z => PostS (gc X A0 W) S H σ ρ z D) exS PostS.bad r h fun p S1 H1 v1 t1 r1 e1 h => h S1 H1 σ t1 r1 v1 e1
def retNS : SS := fun ρ => .ok (.rt (.val .none) ρ)
def dropS (fe : SE) : SS := fun ρ => (fe ρ).bind fun p => .ok (.nx p.2)
theorem gs_expr (he : PE X e (tE (gc X A0 W) fe)) (hs : swapsWith e none pos.line X.env = pure false := by rfl) : PS X (.Expr e pos) (tSt (gc X A0 W) (dropS fe)) := PS_imp (ps_expr he hs) fun D σ H ⟨S, ρ, r, h⟩ =>
  tE_bind (P := fun z => PostS (gc X A0 W) S H σ ρ z D) exS PostS.bad r h fun p S1 H1 v1 t1 r1 e1 h => h S1 H1 σ t1 r1
def ifS (c : SB) (f1 f2 : SS) : SS := fun ρ => (c ρ).bind fun p => if p.1 = true then f1 p.2 else f2 p.2
theorem gs_if {c : Expr} {a b : List Stmt} {fc : SB} (hc : PT X c (tT (gc X A0 W) fc)) (ha : PSs X a (tSt (gc X A0 W) f1)) (hb : PSs X b (tSt (gc X A0 W) f2)) : PS X (.If c a b pos) (tSt (gc X A0 W) (ifS fc f1 f2)) := PS_imp (ps_if hc ha hb) fun D σ H ⟨S, ρ, r, h⟩ =>
  tT_bind (P := fun z => PostS (gc X A0 W) S H σ ρ z D) exS PostS.bad r h fun p S1 H1 t1 r1 h => by
    cases hp : p.1 with
    | true => rw [hp] at h; exact iteT ⟨S1, p.2, r1, PostS.from t1 h⟩
    | false => rw [hp] at h; exact iteF ⟨S1, p.2, r1, PostS.from t1 h⟩
end
/-! ### a slot is stored -/
section
variable {K : PySem.W.Frag} {A0 : Ax} {S S0 : Addr → Prop} {H H0 : Hp} {σ : St} {ρ : List B} {O0 : Addr → Prop} {i : Nat}
theorem Bd.other {σ : St} {j : Nat} {b : B} {x : Option V} (hj : i ≠ j) (h : Bd K A0 S H σ j b) : Bd K A0 S H (σ.set i x) j b := by
  cases b with
  | un => trivial
  | exc n => exact ⟨h.1, by rw [List.getElem?_set_ne hj]; exact h.2⟩
  | val d => obtain ⟨v, e, q⟩ := h; exact ⟨v, by rw [List.getElem?_set_ne hj]; exact e, q⟩
  | own d => obtain ⟨v, e, q⟩ := h; exact ⟨v, by rw [List.getElem?_set_ne hj]; exact e, q⟩
  | prm d => obtain ⟨v, e, q⟩ := h; exact ⟨v, by rw [List.getElem?_set_ne hj]; exact e, q⟩
theorem OwI.other {x : Option V} {b : B} {j : Nat} {a : Addr} (hj : i ≠ j) (h : OwI (σ.set i x) (ρ.set i b) j a) : OwI σ ρ j a := by
  obtain ⟨h1, h2⟩ := h
  rw [List.getElem?_set_ne hj] at h1 h2
  exact ⟨h1, h2⟩
theorem Rp.setVal (r : Rp K A0 S H σ ρ) {v : V} {d : PyData} (hd : Dr K S H v d) : Rp K A0 S H (σ.set i (some v)) (ρ.set i (.val d)) ∧ ∀ a, Ow (σ.set i (some v)) (ρ.set i (.val d)) a → Ow σ ρ a := by
  have own : ∀ j a, OwI (σ.set i (some v)) (ρ.set i (.val d)) j a → OwI σ ρ j a := fun j a h => by
    by_cases hj : i = j
    · subst hj
      obtain ⟨h1, _⟩ := h
      by_cases hl : i < ρ.length
      · rw [List.getElem?_set_self hl] at h1; cases h1
      · rw [List.getElem?_eq_none (by rw [List.length_set]; omega)] at h1; cases h1
    · exact OwI.other hj h
  refine ⟨⟨by rw [List.length_set, List.length_set]; exact r.len, fun j b hb => ?_, fun j k a h1 h2 => r.dis j k a (own j a h1) (own k a h2), r.al, fun j d' a h1 h2 => ?_, r.aa, r.tb⟩, fun a ⟨j, h⟩ => ⟨j, own j a h⟩⟩
  by_cases hj : i = j
  · subst hj
    have hl : i < ρ.length := by
      have := (List.getElem?_eq_some_iff.mp hb).1
      simpa using this
    rw [List.getElem?_set_self hl] at hb; cases hb
    exact ⟨v, by rw [List.getElem?_set_self (by rw [r.len]; exact hl)], hd⟩
  · rw [List.getElem?_set_ne hj] at hb
    exact (r.bd j b hb).other hj
  · by_cases hj : i = j
    · subst hj
      by_cases hl : i < ρ.length
      · rw [List.getElem?_set_self hl] at h1; cases h1
      · rw [List.getElem?_eq_none (by rw [List.length_set]; omega)] at h1; cases h1
    · rw [List.getElem?_set_ne hj] at h1 h2
      exact r.np j d' a h1 h2
theorem Rp.setOwn (r : Rp K A0 S H σ ρ) {a : Addr} {d : PyData} (hs : ¬ S a) (ho : ¬ Ow σ ρ a) (hp : ∀ j, A0 j ≠ some a) (ha : OwnAt K S H a d) : Rp K A0 S H (σ.set i (some (.ref a))) (ρ.set i (.own d)) ∧ ∀ b, Ow (σ.set i (some (.ref a))) (ρ.set i (.own d)) b → Ow σ ρ b ∨ b = a := by
  have own : ∀ j b, OwI (σ.set i (some (.ref a))) (ρ.set i (.own d)) j b → (OwI σ ρ j b ∧ i ≠ j) ∨ (j = i ∧ b = a) := fun j b h => by
    by_cases hj : i = j
    · subst hj
      obtain ⟨h1, h2⟩ := h
      by_cases hl : i < ρ.length
      · rw [List.getElem?_set_self (by rw [r.len]; exact hl)] at h2; cases h2; exact .inr ⟨rfl, rfl⟩
      · rw [List.getElem?_eq_none (by rw [List.length_set]; omega)] at h1; cases h1
    · exact .inl ⟨OwI.other hj h, hj⟩
  refine ⟨⟨by rw [List.length_set, List.length_set]; exact r.len, fun j b hb => ?_, fun j k b h1 h2 => ?_, r.al, fun j d' b h1 h2 => ?_, r.aa, r.tb⟩, fun b ⟨j, h⟩ => ?_⟩
  · by_cases hj : i = j
    · subst hj
      have hl : i < ρ.length := by
        have := (List.getElem?_eq_some_iff.mp hb).1
        simpa using this
      rw [List.getElem?_set_self hl] at hb; cases hb
      exact ⟨a, by rw [List.getElem?_set_self (by rw [r.len]; exact hl)], hs, ha⟩
    · rw [List.getElem?_set_ne hj] at hb
      exact (r.bd j b hb).other hj
  · rcases own j b h1 with ⟨q1, _⟩ | ⟨q1, q2⟩
    · rcases own k b h2 with ⟨p1, _⟩ | ⟨p1, p2⟩
      · exact r.dis j k b q1 p1
      · exact (ho (p2 ▸ ⟨j, q1⟩)).elim
    · rcases own k b h2 with ⟨p1, _⟩ | ⟨p1, p2⟩
      · exact (ho (q2 ▸ ⟨k, p1⟩)).elim
      · rw [q1, p1]
  · by_cases hj : i = j
    · subst hj
      by_cases hl : i < ρ.length
      · rw [List.getElem?_set_self (by rw [r.len]; exact hl)] at h2; cases h2; exact hp
      · rw [List.getElem?_eq_none (by rw [List.length_set]; omega)] at h1; cases h1
    · rw [List.getElem?_set_ne hj] at h1 h2
      exact r.np j d' b h1 h2
  · rcases own j b h with ⟨q, _⟩ | ⟨_, q⟩
    · exact .inl ⟨j, q⟩
    · exact .inr q
end
def bindV (i : Nat) : Ev → List B → Rs (List B)
  | .val d, ρ => .ok (ρ.set i (.val d))
  | .fr d, ρ => .ok (ρ.set i (.own d))
  | .sl j, ρ => match shr ρ (.sl j) with
    | some (d, ρ') => .ok (ρ'.set i (.val d))
    | none => .bad
theorem bindV_ok {g : Gc} {S S0 : Addr → Prop} {H H0 : Hp} {σ σ0 : St} {ρ ρ0 ρ' : List B} {i : Nat} {e : Ev} {v : V} (t : Tr S0 H0 (Ow σ0 ρ0) S H (Ow σ ρ)) (r : Rp g.K g.A0 S H σ ρ) (h : RE g.K g.A0 H0 S H σ ρ v e)
    (hb : bindV i e ρ = .ok ρ') : ∃ S', Tr S0 H0 (Ow σ0 ρ0) S' H (Ow (σ.set i (some v)) ρ') ∧ Rp g.K g.A0 S' H (σ.set i (some v)) ρ' := by
  cases e with
  | val d =>
    cases hb
    obtain ⟨r', s⟩ := r.setVal (i := i) h
    exact ⟨S, ⟨t.s, t.keep, t.dom, fun a q => t.o a (s a q), t.g⟩, r'⟩
  | fr d =>
    cases hb
    obtain ⟨a, rfl, h0, hs, ho, ha⟩ := h
    obtain ⟨r', s⟩ := r.setOwn (i := i) hs ho h0.2 ha
    refine ⟨S, ⟨t.s, t.keep, t.dom, fun b q => ?_, t.g⟩, r'⟩
    rcases s b q with q | rfl
    · exact t.o b q
    · exact .inr h0.1
  | sl j =>
    unfold bindV at hb
    cases q : shr ρ (.sl j) with
    | none => simp only [q, reduceCtorEq] at hb
    | some p =>
      obtain ⟨d, ρ1⟩ := p
      simp only [q] at hb
      cases hb
      obtain ⟨S', t', r', hd, _⟩ := shr_ok t r (show RE1 g.K S H σ v (.sl j) from h) q
      obtain ⟨r2, s⟩ := r'.setVal (i := i) hd
      have t2 := t'
      exact ⟨S', ⟨t2.s, t2.keep, t2.dom, fun a z => t2.o a (s a z), t2.g⟩, r2⟩
def asgS (i : Nat) (fe : SE) : SS := fun ρ => (fe ρ).bind fun p => (bindV i p.1 p.2).bind fun ρ' => .ok (.nx ρ')
section
variable {X : Cx} {A0 : Ax} {W : WX} {e : Expr} {fe : SE} {pos pos' : Pos}
theorem gs_set (i : Nat) {x : Str} (hN : X.N.Nodup) (he : PE X e (tE (gc X A0 W) fe)) (hi : X.N[i]? = some x := by rfl) (hx : Loc X.env.scope x := by first | exact Or.inl rfl | exact Or.inr rfl) (hs : swapsWith e (some (.Name x pos')) pos.line X.env = pure false := by rfl) (hf : X.fn x = true ∨ X.env.scope.names.lookup x = some .local := by first | exact .inl rfl | exact .inr rfl | assumption) :
    PS X (.Assign [.Name x pos'] e pos) (tSt (gc X A0 W) (asgS i fe)) := PS_imp (ps_set hN hi hx he hs hf) fun D σ H ⟨S, ρ, r, h⟩ =>
  tE_bind (P := fun z => PostS (gc X A0 W) S H σ ρ z D) exS PostS.bad r h fun p S1 H1 v1 t1 r1 e1 h => by
    show D.nx _ _
    cases hb : bindV i p.1 p.2 with
    | bad => rw [hb] at h; exact h.elim
    | ex n ρ' =>
      exfalso
      revert hb
      unfold bindV
      split
      · nofun
      · nofun
      · split <;> nofun
    | ok ρ' =>
      rw [hb] at h
      obtain ⟨S2, t2, r2⟩ := bindV_ok t1 r1 e1 hb
      exact h S2 H1 _ t2 r2
end
/-! ### targets -/
abbrev SG := PyData → List B → Rs (List B)
def PostG (g : Gc) (tv : List Nat) (S : Addr → Prop) (H : Hp) (σ : St) (ρ : List B) (r : Rs (List B)) (Q : St → Hp → Prop) : Prop := match r with
  | .ok ρ' => ∀ S' H' σ', Tr S H (Ow σ ρ) S' H' (Ow σ' ρ') → Rp g.K g.A0 S' H' σ' ρ' → wipe σ' tv = wipe σ tv → Q σ' H'
  | _ => False
def tG (g : Gc) (tv : List Nat) (ft : SG) : TG := fun v σ H Q => ∃ S ρ d, Rp g.K g.A0 S H σ ρ ∧ Dr g.K S H v d ∧ PostG g tv S H σ ρ (ft d ρ) Q
theorem wipe_get {σ : St} {k : Nat} : ∀ {vs : List Nat}, (wipe σ vs)[k]? = if k ∈ vs then (σ[k]?).map fun _ => none else σ[k]?
  | [] => by simp [wipe]
  | v :: vs => by
    unfold wipe
    by_cases hk : v = k
    · subst hk
      rw [if_pos (List.mem_cons_self ..)]
      by_cases hl : v < σ.length
      · rw [List.getElem?_set_self (by rw [wipe_length]; exact hl), List.getElem?_eq_getElem hl]; rfl
      · rw [List.getElem?_eq_none (by rw [List.length_set, wipe_length]; omega), List.getElem?_eq_none (by omega)]; rfl
    · rw [List.getElem?_set_ne hk, wipe_get]
      by_cases hm : k ∈ vs
      · rw [if_pos hm, if_pos (List.mem_cons_of_mem _ hm)]
      · rw [if_neg hm, if_neg]
        intro z
        rcases List.mem_cons.mp z with z | z
        · exact hk z.symm
        · exact hm z
theorem wipe_set {σ : St} {i : Nat} {x : Option V} {vs : List Nat} (h : i ∈ vs) : wipe (σ.set i x) vs = wipe σ vs := by
  apply List.ext_getElem?
  intro k
  rw [wipe_get, wipe_get]
  by_cases hk : k ∈ vs
  · rw [if_pos hk, if_pos hk]
    by_cases hi : i = k
    · subst hi
      by_cases hl : i < σ.length
      · rw [List.getElem?_set_self hl, List.getElem?_eq_getElem hl]; rfl
      · rw [List.getElem?_eq_none (by rw [List.length_set]; omega), List.getElem?_eq_none (by omega)]
    · rw [List.getElem?_set_ne hi]
  · rw [if_neg hk, if_neg hk, List.getElem?_set_ne (fun z => hk (by rw [← z]; exact h))]
theorem PostG.from {g : Gc} {tv : List Nat} {S S' : Addr → Prop} {H H' : Hp} {σ σ' : St} {ρ ρ' : List B} {r : Rs (List B)} {Q : St → Hp → Prop} (t : Tr S H (Ow σ ρ) S' H' (Ow σ' ρ')) (hw : wipe σ' tv = wipe σ tv) (h : PostG g tv S H σ ρ r Q) : PostG g tv S' H' σ' ρ' r Q := by
  cases r with
  | ok p => exact fun S2 H2 σ2 t2 r2 w2 => h S2 H2 σ2 (t.trans t2) r2 (w2.trans hw)
  | ex n ρ2 => exact h
  | bad => exact h
def nmG (i : Nat) : SG := fun d ρ => .ok (ρ.set i (.val d))
def nilG : List PyData → List B → Rs (List B) := fun ds ρ => match ds with
  | [] => .ok ρ
  | _ => .bad
def consG (t : SG) (u : List PyData → List B → Rs (List B)) : List PyData → List B → Rs (List B) := fun ds ρ => match ds with
  | d :: r => (t d ρ).bind (u r)
  | [] => .bad
def tupG (n : Nat) (u : List PyData → List B → Rs (List B)) : SG := fun d ρ => match d with
  | .tuple ds => if ds.length = n then u ds ρ else .bad
  | .list ds => if ds.length = n then u ds ρ else .bad
  | _ => .bad
section
variable {X : Cx} {A0 : Ax} {W : WX} {pos : Pos} {tv : List Nat}
theorem gg_name (i : Nat) {x : Str} (hN : X.N.Nodup) (hi : X.N[i]? = some x := by rfl) (hx : Loc X.env.scope x := by first | exact Or.inl rfl | exact Or.inr rfl) (hf : X.fn x = true ∨ X.env.scope.names.lookup x = some .local := by first | exact .inl rfl | exact .inr rfl | assumption) (hm : i ∈ tv := by decide) : PG X (.Name x pos) (tG (gc X A0 W) tv (nmG i)) := by
  refine ⟨fun pins s σ H v u Q I r h => (pg_name hN hi hx hf).run pins s σ H v u Q I r ?_⟩
  obtain ⟨S, ρ, d, rp, hd, h⟩ := h
  obtain ⟨r', s⟩ := rp.setVal (i := i) hd
  exact h S H _ ⟨fun _ q => q, fun _ _ q _ => .inl q, fun _ o q => ⟨o, q⟩, fun a q => .inl (s a q), fun _ q => .inl q⟩ r' (wipe_set hm)
/-- target = value, the value a datum -/
def asgG (t : SG) (fe : SE) : SS := fun ρ => (fe ρ).bind fun p => match shr p.2 (settle p.1) with
  | some (d, ρ1) => (match t d ρ1 with
    | .ok ρ' => .ok (.nx ρ')
    | _ => .bad)
  | none => .bad
end
end G
namespace G
open PySem PySem.Spec PyProof.Rows L2
/-! ### while -/
/-! ### what is walked -/
theorem Ex.trans {S S1 S2 : Addr → Prop} {H H1 H2 : Hp} (a : Ex S H S1 H1) (b : Ex S1 H1 S2 H2) : Ex S H S2 H2 :=
  ⟨fun c h => b.s c (a.s c h), fun c o h n e => b.sh c o (a.s c h) n (a.sh c o h n e), fun c xs h => b.tup c xs (a.tup c xs h), fun c o u h => b.frz c o u (a.frz c o u h)⟩
structure ItOk (K : PySem.W.Frag) (J : It) (S0 : Addr → Prop) (H0 : Hp) (ds : List PyData) : Prop where
  at_ : ∀ S H i d, Ex S0 H0 S H → ds[i]? = some d → J.go i H ∧ ∀ x H', J.yld i H x H' → L2.Same H H' ∧ Dr K S H' x d
  end_ : ∀ S H, Ex S0 H0 S H → J.stop ds.length H
theorem ItOk.mono {K : PySem.W.Frag} {J : It} {S S' : Addr → Prop} {H H' : Hp} {ds : List PyData} (x : Ex S H S' H') (h : ItOk K J S H ds) : ItOk K J S' H' ds :=
  ⟨fun S2 H2 i d q => h.at_ S2 H2 i d (x.trans q), fun S2 H2 q => h.end_ S2 H2 (x.trans q)⟩
abbrev SI := List B → Rs (List PyData × List B)
def PostI (g : Gc) (S : Addr → Prop) (H : Hp) (σ : St) (ρ : List B) (r : Rs (List PyData × List B)) (R : It → Hp → Prop) : Prop := match r with
  | .ok p => ∀ S' H' J, Tr S H (Ow σ ρ) S' H' (Ow σ p.2) → Rp g.K g.A0 S' H' σ p.2 → ItOk g.K J S' H' p.1 → R J H'
  | .ex n ρ' => ∀ S' H', Tr S H (Ow σ ρ) S' H' (Ow σ ρ') → Rp g.K g.A0 S' H' σ ρ' → g.wx n σ H'
  | .bad => False
def tI (g : Gc) (f : SI) : TI := fun σ H R => ∃ S ρ, Rp g.K g.A0 S H σ ρ ∧ PostI g S H σ ρ (f ρ) R
theorem tI_bind {g : Gc} {S : Addr → Prop} {H : Hp} {σ : St} {ρ : List B} {f : SI} {R : It → Hp → Prop} {α : Type} {k : List PyData × List B → Rs α} {P : Rs α → Prop} (hex : ∀ n ρ', P (.ex n ρ') → ∀ S' H', Tr S H (Ow σ ρ) S' H' (Ow σ ρ') → Rp g.K g.A0 S' H' σ ρ' → g.wx n σ H') (hbad : ¬ P .bad)
    (r : Rp g.K g.A0 S H σ ρ) (h : P ((f ρ).bind k)) (hk : ∀ p S' H' J, Tr S H (Ow σ ρ) S' H' (Ow σ p.2) → Rp g.K g.A0 S' H' σ p.2 → ItOk g.K J S' H' p.1 → P (k p) → R J H') : tI g f σ H R := by
  refine ⟨S, ρ, r, ?_⟩
  cases e : f ρ with
  | ok p => rw [e] at h; exact fun S' H' v t r' q => hk p S' H' v t r' q h
  | ex n ρ' => rw [e] at h; exact hex n ρ' h
  | bad => rw [e] at h; exact (hbad h).elim
theorem exI {g : Gc} {S : Addr → Prop} {H : Hp} {σ : St} {ρ : List B} {R : It → Hp → Prop} : ∀ n ρ', PostI g S H σ ρ (.ex n ρ') R → ∀ S' H', Tr S H (Ow σ ρ) S' H' (Ow σ ρ') → Rp g.K g.A0 S' H' σ ρ' → g.wx n σ H' := fun _ _ h => h
theorem PostI.bad {g : Gc} {S : Addr → Prop} {H : Hp} {σ : St} {ρ : List B} {R : It → Hp → Prop} : ¬ PostI g S H σ ρ .bad R := fun h => h
/-- a list or tuple walked -/
def seqI (k : PyData → Option (List PyData)) (fe : SE) : SI := fun ρ => (fe ρ).bind fun p => match shr p.2 (settle p.1) with
  | some (d, ρ1) => (match k d with
    | some ds => .ok (ds, ρ1)
    | none => .bad)
  | none => .bad
theorem seqI_bind {g : Gc} {k : PyData → Option (List PyData)} {fe : SE} {σ : St} {H : Hp} {R : It → Hp → Prop} (h : tI g (seqI k fe) σ H R) {R' : VK}
    (hk : ∀ S' H' v d ds, Dr g.K S' H' v d → k d = some ds → (∀ J, ItOk g.K J S' H' ds → R J H') → R' v H') : tE g fe σ H R' := by
  obtain ⟨S, ρ, r, h⟩ := h
  refine tE_bind (P := fun z => PostI g S H σ ρ z R) exI PostI.bad r h fun p S1 H1 v1 t1 r1 e1 h => ?_
  obtain ⟨S1', t1', r1', e1', _⟩ := settle_ok t1 r1 e1
  cases q : shr p.2 (settle p.1) with
  | none => rw [q] at h; exact h.elim
  | some pr =>
    obtain ⟨d, ρ1⟩ := pr
    rw [q] at h
    obtain ⟨S2, t2, r2, hd, _⟩ := shr_ok t1' r1' e1' q
    simp only at h
    cases e : k d with
    | none => rw [e] at h; exact h.elim
    | some ds =>
      rw [e] at h
      exact hk S2 H1 v1 d ds hd e fun J ok => h S2 H1 J t2 r2 ok
def lstK : PyData → Option (List PyData)
  | .list ds => some ds
  | _ => none
def tupK : PyData → Option (List PyData)
  | .tuple ds => some ds
  | _ => none
theorem itl_ok {K : PySem.W.Frag} {S : Addr → Prop} {H : Hp} {v : V} {ds : List PyData} (h : Dr K S H v (.list ds)) : ∃ a, v = .ref a ∧ (∃ xs, SqL K H a xs) ∧ ItOk K (Itl K a) S H ds := by
  obtain ⟨a, xs0, rfl, q0, _⟩ := h.w.lst
  have key : ∀ S2 H2, Ex S H S2 H2 → ∃ xs, SqL K H2 a xs ∧ DrAll K S2 H2 xs ds := fun S2 H2 x => by
    obtain ⟨a', xs, e, q1, q2⟩ := (h.ex x).w.lst
    cases e
    exact ⟨xs, q1.sq, q2⟩
  refine ⟨a, rfl, ⟨xs0, q0.sq⟩, fun S2 H2 i d x e => ?_, fun S2 H2 x => ?_⟩
  · obtain ⟨xs, q1, q2⟩ := key S2 H2 x
    obtain ⟨u, e1, e2⟩ := q2.get e
    refine ⟨⟨xs, u, q1, e1⟩, fun y H' hy => ?_⟩
    obtain ⟨rfl, hy⟩ := hy
    have := hy xs q1
    rw [e1] at this; cases this
    exact ⟨fun _ _ e => e, e2⟩
  · obtain ⟨xs, q1, q2⟩ := key S2 H2 x
    exact ⟨xs, q1, by rw [q2.length]; exact Nat.le_refl _⟩
theorem itt_ok {K : PySem.W.Frag} {S : Addr → Prop} {H : Hp} {v : V} {ds : List PyData} (h : Dr K S H v (.tuple ds)) : ∃ a, v = .ref a ∧ (∃ xs, SqT K H a xs) ∧ ItOk K (Itt K a) S H ds := by
  obtain ⟨a, xs0, rfl, q0, _⟩ := h.w.tup
  have key : ∀ S2 H2, Ex S H S2 H2 → ∃ xs, SqT K H2 a xs ∧ DrAll K S2 H2 xs ds := fun S2 H2 x => by
    obtain ⟨a', xs, e, q1, q2⟩ := (h.ex x).w.tup
    cases e
    exact ⟨xs, q1, q2⟩
  refine ⟨a, rfl, ⟨xs0, q0⟩, fun S2 H2 i d x e => ?_, fun S2 H2 x => ?_⟩
  · obtain ⟨xs, q1, q2⟩ := key S2 H2 x
    obtain ⟨u, e1, e2⟩ := q2.get e
    refine ⟨⟨xs, u, q1, e1⟩, fun y H' hy => ?_⟩
    obtain ⟨rfl, hy⟩ := hy
    have := hy xs q1
    rw [e1] at this; cases this
    exact ⟨fun _ _ e => e, e2⟩
  · obtain ⟨xs, q1, q2⟩ := key S2 H2 x
    exact ⟨xs, q1, by rw [q2.length]; exact Nat.le_refl _⟩
theorem itr_ok {K : PySem.W.Frag} {S : Addr → Prop} {H : Hp} {lo : Int} {n : Nat} : ItOk K (Itr lo n) S H ((List.range n).map fun i : Nat => PyData.int (lo + i)) := by
  refine ⟨fun S2 H2 i d x e => ?_, fun S2 H2 x => by rw [List.length_map, List.length_range]; exact Nat.le_refl _⟩
  rw [List.getElem?_map] at e
  by_cases hi : i < n
  · rw [List.getElem?_range hi] at e
    cases e
    refine ⟨hi, fun y H' hy => ?_⟩
    obtain ⟨rfl, rfl⟩ := hy
    exact ⟨fun _ _ e => e, .int _⟩
  · rw [List.getElem?_eq_none (by rw [List.length_range]; omega)] at e; cases e
section
variable {X : Cx} {A0 : Ax} {W : WX} {tg l : Expr} {fe : SE} {pos p : Pos}
theorem PI_imp {iter : Expr} {t t' : TI} (h : PI X tg iter t) (i : ∀ σ H R, t' σ H R → t σ H R) : PI X tg iter t' := ⟨fun pins s σ H R I q => h.run pins s σ H R I (i σ H R q)⟩
def rngOk (i : Int) : Bool := decide (-4611686018427387904 ≤ i) && decide (i < 4611686018427387904)
theorem rngOk_ok {i : Int} (h : rngOk i = true) : -(2 ^ 62) ≤ i ∧ i < 2 ^ 62 := by
  simp only [rngOk, Bool.and_eq_true, decide_eq_true_eq] at h
  have : (2 : Int) ^ 62 = 4611686018427387904 := by decide
  omega
def rng1I (fa : SA) : SI := fun ρ => (fa ρ).bind fun p => match peeks p.2 p.1 with
  | some [.int j] => if rngOk j = true then .ok ((List.range j.toNat).map fun i : Nat => PyData.int (0 + i), p.2) else .bad
  | _ => .bad
def rng2I (fa : SA) : SI := fun ρ => (fa ρ).bind fun p => match peeks p.2 p.1 with
  | some [.int i, .int j] => if (rngOk i && rngOk j) = true then .ok ((List.range (j - i).toNat).map fun k : Nat => PyData.int (i + k), p.2) else .bad
  | _ => .bad
variable {a b : Expr} {fa : SA}
theorem gi_range1 (hm : X.mg "range" = none) (ha : PA X [a] (tA (gc X A0 W) fa)) (hg : Gl X "range" := by rfl) (hs : starEach [a] X.env = [(false, eval a X.env)] := by rfl) : PI X tg (.Call (.Name "range" p) [a] [] pos) (tI (gc X A0 W) (rng1I fa)) := PI_imp (pi_range1 hg hm ha hs) fun σ H R ⟨S, ρ, r, h⟩ =>
  tA_bind (P := fun z => PostI (gc X A0 W) S H σ ρ z R) exI PostI.bad r h fun p S1 H1 vs t1 r1 e1 h => by
    cases q : peeks p.2 p.1 with
    | none => rw [q] at h; exact h.elim
    | some ds =>
      rw [q] at h
      match ds, h, peeks_ok r1 e1 q with
      | [.int j], h, dw =>
        simp only at h
        split at h
        · rename_i hj
          obtain ⟨v, rfl, hv⟩ := dw1 dw
          have := rngOk_ok hj
          exact ⟨j, by rw [hv.int], this.1, this.2, h S1 H1 _ t1 r1 itr_ok⟩
        · exact h.elim
end
/-! ### for -/
def forL (t : SG) (b : SS) : List PyData → List B → Rs Fl
  | [], ρ => .ok (.nx ρ)
  | d :: ds, ρ => match t d ρ with
    | .ok ρ1 => (b ρ1).bind fun r => (match r with
      | .nx ρ2 => forL t b ds ρ2
      | .ct ρ2 => forL t b ds ρ2
      | .bk ρ2 => .ok (.nx ρ2)
      | .rt e ρ2 => .ok (.rt e ρ2))
    | _ => .bad
def forS (it : SI) (t : SG) (b : SS) : SS := fun ρ => (it ρ).bind fun p => forL t b p.1 p.2
theorem drop_cons {α : Type} {l : List α} {i : Nat} {d : α} (h : l[i]? = some d) : l.drop i = d :: l.drop (i + 1) := by
  obtain ⟨hi, e⟩ := List.getElem?_eq_some_iff.mp h
  rw [List.drop_eq_getElem_cons hi, e]
section
variable {X : Cx} {A0 : Ax} {W : WX} {tg iter : Expr} {pos : Pos} {tv : List Nat}
theorem gs_for {body : List Stmt} {fi : SI} {ft : SG} {fb : SS} (hp : PassesOwn (model X.prog X.w) X.A X.env X.xe) (hc : X.calm = true) (hi : PI X tg iter (tI (gc X A0 W) fi)) (hg : PG X tg (tG (gc X A0 W) tv ft)) (hb : PSs X body (tSt (gc X A0 W) fb))
    (hs : ∀ x, foldedSetIterable iter X.env x = pure x := by intro _; rfl) : PS X (.For tg iter body [] pos) (tSt (gc X A0 W) (forS fi ft fb)) := by
  refine PS_imp (ps_for hp hc hi hg hb hs) ?_
  rintro D σ H ⟨S, ρ, r, h⟩
  refine tI_bind (P := fun z => PostS (gc X A0 W) S H σ ρ z D) exS PostS.bad r h fun p S1 H1 J t1 r1 ok h1 => ?_
  obtain ⟨ds, ρ1⟩ := p
  refine ⟨fun i m σ H => i + m = ds.length ∧ ∃ S ρ, Rp X.K A0 S H σ ρ ∧ ItOk X.K J S H ds ∧ PostS (gc X A0 W) S H σ ρ (forL ft fb (ds.drop i) ρ) D, ⟨ds.length, by omega, S1, ρ1, r1, ok, PostS.from t1 h1⟩, ?_⟩
  rintro i m σ H ⟨hm, S, ρ, r, ok, h⟩
  cases m with
  | zero =>
    have hi : i = ds.length := by omega
    subst hi
    rw [List.drop_length] at h
    exact .inl ⟨ok.end_ S H (Ex.same fun _ _ e => e), h S H σ Tr.refl r⟩
  | succ n =>
    have hl : i < ds.length := by omega
    have e : ds[i]? = some ds[i] := List.getElem?_eq_getElem hl
    obtain ⟨hgo, hy⟩ := ok.at_ S H i _ (Ex.same fun _ _ e => e) e
    rw [drop_cons e] at h
    refine .inr ⟨hgo, fun σ' H' => ∃ S ρ, Rp X.K A0 S H' σ' ρ ∧ ItOk X.K J S H' ds ∧ PostS (gc X A0 W) S H' σ' ρ (forL ft fb (ds.drop (i + 1)) ρ) D, fun σ' H' q => ⟨n, Nat.lt_succ_self n, by omega, q⟩, fun x H' y => ?_⟩
    obtain ⟨sm, dx⟩ := hy x H' y
    have tg0 : Tr S H (Ow σ ρ) S H' (Ow σ ρ) := Tr.grow sm
    refine ⟨S, ρ, ds[i], r.same sm, dx, ?_⟩
    simp only [forL] at h
    cases e1 : ft ds[i] ρ with
    | bad => rw [e1] at h; exact h.elim
    | ex k ρ' => rw [e1] at h; exact h.elim
    | ok ρ2 =>
      rw [e1] at h
      simp only at h
      intro S2 H2 σ2 t2 r2 _
      have t02 := tg0.trans t2
      have x02 : Ex S H S2 H2 := r.ex t02
      refine ⟨S2, ρ2, r2, ?_⟩
      cases e2 : fb ρ2 with
      | bad => rw [e2] at h; exact h.elim
      | ex k ρ' => rw [e2] at h; exact PostS.from t02 h
      | ok fl =>
        rw [e2] at h
        cases fl with
        | nx ρ' => exact fun S' H' σ' t' r' => ⟨S', ρ', r', ok.mono (x02.trans (r2.ex t')), PostS.from (t02.trans t') h⟩
        | ct ρ' => exact fun S' H' σ' t' r' => ⟨S', ρ', r', ok.mono (x02.trans (r2.ex t')), PostS.from (t02.trans t') h⟩
        | bk ρ' => exact fun S' H' σ' t' r' => h S' H' σ' (t02.trans t') r'
        | rt ev ρ' => exact fun S' H' σ' t' r' v re => h S' H' σ' (t02.trans t') r' v (re.back fun a hz => t02.fresh hz)
end
end G
namespace G
open PySem PySem.Spec PyProof.Rows L2
/-! ### what a def promises: F of its parameters' bindings -/
def A0f (vs : List V) (bs : List B) (i : Nat) : Option Addr := match bs[i]?, vs[i]? with
  | some (.prm _), some (.ref a) => some a
  | _, _ => none
abbrev A0p (Γ : Gx) (vs : List V) (bs : List B) : Ax := ⟨A0f vs bs, Γ⟩
theorem A0p_ok {vs : List V} {bs : List B} {i : Nat} {a : Addr} (h : A0f vs bs i = some a) : (∃ d, bs[i]? = some (.prm d)) ∧ vs[i]? = some (.ref a) := by
  unfold A0f at h
  split at h
  · rename_i d a' e1 e2; cases h; exact ⟨⟨_, e1⟩, e2⟩
  · cases h
abbrev pst (vs : List V) : St := vs.map some
def PostF (Γ : Gx) (K : PySem.W.Frag) (mg : Str → Option Value) (S : Addr → Prop) (H : Hp) (vs : List V) (bs : List B) (r : Rs (Ev × List B)) (Q : VK) (E : XK) : Prop := match r with
  | .ok p => ∀ S' H' v, Tr S H (Ow (pst vs) bs) S' H' (Ow (pst vs) p.2) → Rp K (A0p Γ vs bs) S' H' (pst vs) p.2 → RE K (A0p Γ vs bs) H S' H' (pst vs) p.2 v p.1 → Q v H'
  | .ex n _ => ∀ S' H', Tr S H (Ow (pst vs) bs) S' H' (fun _ => False) → (∀ a, S' a → ∃ o, H' a = some o) → LamX.Tabs Γ.T H' → ∀ C, mg n = some (.ref C) → E (.ref C) none H'
  | .bad => False
/-- the base has the module table -/
def SysOk (base : Heap) : Prop := ∃ o es ep, base.get? sysModules = some o ∧ o.data = .dict es ep
structure FnG (P : Program) (w : World) (K : PySem.W.Frag) (mg : Str → Option Value) (base : Heap) (Γ : Gx) (k : Nat) (f : Addr) (fd : FuncData) (ps : List Str) (F : SE) : Prop where
  run : ∀ (A : Around) (outer : List Env) (s : Shared) (H : Hp) (args : Args) (us : List Value) (vs : List V) (Q : VK) (E : XK) (S : Addr → Prop) (bs : List B), Room k A → A.guards = some [] → Env0 P w K mg base A outer s H → BindsTo s fd args (ps.zip us) → Vals vs us →
    vs.length = ps.length → (∀ (i : Nat) (d : PyData), bs[i]? ≠ some (B.own d)) → Rp K (A0p Γ vs bs) S H (pst vs) bs → PostF Γ K mg S H vs bs (F bs) Q E → codeAny (model P w) A (.call (.ref f) args) (CR (CX P w) outer P w H s Q E) s
theorem FnG.mono {P : Program} {w : World} {K : PySem.W.Frag} {mg : Str → Option Value} {base : Heap} {Γ : Gx} {j k : Nat} {f : Addr} {fd : FuncData} {ps : List Str} {F : SE} (G : FnG P w K mg base Γ j f fd ps F) (h : j ≤ k) : FnG P w K mg base Γ k f fd ps F :=
  ⟨fun A outer s H args us vs Q E S bs hr => G.run A outer s H args us vs Q E S bs (hr.mono h)⟩
/-- the parameters' bindings behind the body -/
def outB : B → B
  | .prm d => .prm d
  | _ => .un
def retF0 (outs : List B) : Fl → Rs (Ev × List B)
  | .rt (.val d) _ => .ok (.val d, outs)
  | .rt (.fr d) _ => .ok (.fr d, outs)
  | .rt (.sl i) ρ => match ρ[i]? with
    | some (.val d) => .ok (.val d, outs)
    | some (.own d) => .ok (.fr d, outs)
    | _ => .bad
  | .nx _ => .ok (.val .none, outs)
  | _ => .bad
def retF (m : Nat) (fl : Fl) : Rs (Ev × List B) := if m ≤ fl.env.length then retF0 ((fl.env.take m).map outB) fl else .bad
/-- a def by its body: N names -/
def defF (N : Nat) (body : SS) : SE := fun bs => (body (bs ++ List.replicate (N - bs.length) .un)).bind (retF bs.length)
section
variable {Γ : Gx} {K : PySem.W.Frag} {A0 : Ax} {S S' : Addr → Prop} {H H' : Hp}
theorem start_get {N : List Str} {vs : List V} {i : Nat} {v : V} (h : (pst vs)[i]? = some (some v)) : (L2.start N vs)[i]? = some (some v) := by
  unfold L2.start
  have hi : i < (pst vs).length := (List.getElem?_eq_some_iff.mp h).1
  rw [List.getElem?_append_left hi]
  exact h
theorem Rp.begin_ {N : List Str} {vs : List V} {bs : List B} (hN : vs.length ≤ N.length) (r : Rp K (A0p Γ vs bs) S H (pst vs) bs) : Rp K (A0p Γ vs bs) S H (L2.start N vs) (bs ++ List.replicate (N.length - bs.length) .un) ∧
    (∀ a, Ow (L2.start N vs) (bs ++ List.replicate (N.length - bs.length) .un) a ↔ Ow (pst vs) bs a) := by
  have hl : bs.length = vs.length := by rw [← r.len]; simp [pst]
  have inn : ∀ i a, OwI (L2.start N vs) (bs ++ List.replicate (N.length - bs.length) .un) i a → OwI (pst vs) bs i a := fun i a ⟨h1, h2⟩ => by
    by_cases hi : i < bs.length
    · rw [List.getElem?_append_left hi] at h1
      unfold L2.start at h2
      rw [List.getElem?_append_left (by simpa [pst] using (by omega : i < vs.length))] at h2
      exact ⟨h1, h2⟩
    · rw [List.getElem?_append_right (by omega), List.getElem?_replicate] at h1
      split at h1 <;> cases h1
  have out : ∀ i a, OwI (pst vs) bs i a → OwI (L2.start N vs) (bs ++ List.replicate (N.length - bs.length) .un) i a := fun i a ⟨h1, h2⟩ => by
    have hi : i < bs.length := by
      by_cases hi : i < bs.length
      · exact hi
      · rw [List.getElem?_eq_none (by omega)] at h1; cases h1
    exact ⟨by rw [List.getElem?_append_left hi]; exact h1, start_get h2⟩
  refine ⟨⟨?_, fun i b hb => ?_, fun i j a h1 h2 => r.dis i j a (inn i a h1) (inn j a h2), r.al, fun i d a h1 h2 => ?_, r.aa, r.tb⟩, fun a => ⟨fun ⟨i, h⟩ => ⟨i, inn i a h⟩, fun ⟨i, h⟩ => ⟨i, out i a h⟩⟩⟩
  · unfold L2.start
    rw [List.length_append, List.length_append, List.length_map, List.length_replicate, List.length_replicate, hl]
  · by_cases hi : i < bs.length
    · rw [List.getElem?_append_left hi] at hb
      have q := r.bd i b hb
      cases b with
      | un => trivial
      | exc n => exact ⟨q.1, start_get q.2⟩
      | val d => obtain ⟨v, e, q⟩ := q; exact ⟨v, start_get e, q⟩
      | own d => obtain ⟨v, e, q⟩ := q; exact ⟨v, start_get e, q⟩
      | prm d => obtain ⟨v, e, q⟩ := q; exact ⟨v, start_get e, q⟩
    · rw [List.getElem?_append_right (by omega), List.getElem?_replicate] at hb
      split at hb
      · cases hb; trivial
      · cases hb
  · by_cases hi : i < bs.length
    · rw [List.getElem?_append_left hi] at h1
      unfold L2.start at h2
      rw [List.getElem?_append_left (by simpa [pst] using (by omega : i < vs.length))] at h2
      exact r.np i d a h1 h2
    · rw [List.getElem?_append_right (by omega), List.getElem?_replicate] at h1
      split at h1 <;> cases h1
/-- from the body's end to the parameters -/
theorem outs_ok {vs : List V} {bs : List B} {σ : St} {ρ : List B} {m : Nat} (hm : m = vs.length) (hlen : m ≤ ρ.length) (r : Rp K (A0p Γ vs bs) S H σ ρ) : Rp K (A0p Γ vs bs) S H (pst vs) ((ρ.take m).map outB) ∧ ∀ a, Ow (pst vs) ((ρ.take m).map outB) a → Ow σ ρ a := by
  have get : ∀ i b, ((ρ.take m).map outB)[i]? = some b → i < m ∧ ∃ b0, ρ[i]? = some b0 ∧ b = outB b0 := fun i b h => by
    rw [List.getElem?_map] at h
    by_cases hi : i < m
    · rw [List.getElem?_take_of_lt hi] at h
      cases e : ρ[i]? with
      | none => rw [e] at h; cases h
      | some b0 => rw [e] at h; cases h; exact ⟨hi, b0, rfl, rfl⟩
    · rw [List.getElem?_eq_none (by rw [List.length_take]; omega)] at h; cases h
  have prm : ∀ (i : Nat) (d : PyData), ((ρ.take m).map outB)[i]? = some (B.prm d) → ρ[i]? = some (B.prm d) ∧ ∃ a, σ[i]? = some (some (V.ref a)) ∧ vs[i]? = some (V.ref a) ∧ (¬ S a ∧ OwnAt K S H a d) ∧ A0f vs bs i = some a := fun i d h => by
    obtain ⟨hi, b0, e, eb⟩ := get i _ h
    cases b0 with
    | prm d0 =>
      cases eb
      obtain ⟨a, e1, e2, e3⟩ := r.bd i _ e
      exact ⟨e, a, e1, (A0p_ok e2).2, e3, e2⟩
    | _ => cases eb
  have own : ∀ i a, OwI (pst vs) ((ρ.take m).map outB) i a → OwI σ ρ i a := fun i a ⟨h1, h2⟩ => by
    cases e : ((ρ.take m).map outB)[i]? with
    | none => rw [e] at h1; cases h1
    | some b =>
      obtain ⟨hi, b0, e0, eb⟩ := get i b e
      cases b with
      | prm d =>
        obtain ⟨p1, a', p2, p3, _⟩ := prm i d e
        have : (pst vs)[i]? = some (some (.ref a')) := by simp [pst, p3]
        rw [this] at h2; cases h2
        exact ⟨by rw [p1]; rfl, p2⟩
      | un => rw [e] at h1; cases h1
      | exc _ => rw [e] at h1; cases h1
      | val d => rw [e] at h1; cases h1
      | own d => cases b0 <;> cases eb
  refine ⟨⟨by simp [pst]; omega, fun i b hb => ?_, fun i j a h1 h2 => r.dis i j a (own i a h1) (own j a h2), r.al, fun i d a h1 _ => ?_, r.aa, r.tb⟩, fun a ⟨i, h⟩ => ⟨i, own i a h⟩⟩
  · obtain ⟨hi, b0, e0, eb⟩ := get i b hb
    cases b with
    | un => trivial
    | exc _ => cases b0 <;> cases eb
    | val d => cases b0 <;> cases eb
    | own d => cases b0 <;> cases eb
    | prm d =>
    obtain ⟨p1, a', p2, p3, p4, p5⟩ := prm i d hb
    exact ⟨a', by simp [pst, p3], p5, p4.1, p4.2⟩
  · obtain ⟨_, b0, _, eb⟩ := get i _ h1
    cases b0 <;> cases eb
end
section
variable {P : Program} {w : World} {K : PySem.W.Frag} {mg : Str → Option Value} {base : Heap} {Γ : Gx}
abbrev WF (E : XK) : WX := fun cls d _ H => E cls d H
/-- what the body's end says to the caller -/
theorem body_reads {vs : List V} {bs : List B} {N : List Str} {S0 : Addr → Prop} {H : Hp} {body : SS} {Q : VK} {E : XK} (hN : vs.length ≤ N.length) (hbs : ∀ (i : Nat) (d : PyData), bs[i]? ≠ some (B.own d)) (rp : Rp K (A0p Γ vs bs) S0 H (pst vs) bs)
    (hF : PostF Γ K mg S0 H vs bs (defF N.length body bs) Q E) : PostS ⟨K, mg, A0p Γ vs bs, WF E⟩ S0 H (L2.start N vs) (bs ++ List.replicate (N.length - bs.length) .un) (body (bs ++ List.replicate (N.length - bs.length) .un)) { nx := fun _ H' => Q .non H', rt := Q } := by
  have hbl : bs.length = vs.length := by rw [← rp.len]; simp [pst]
  obtain ⟨_, ow⟩ := rp.begin_ (N := N) hN
  have trP : ∀ {S' : Addr → Prop} {H' : Hp} {O' O2 : Addr → Prop}, Tr S0 H (Ow (L2.start N vs) (bs ++ List.replicate (N.length - bs.length) .un)) S' H' O' → (∀ a, O2 a → O' a) → Tr S0 H (Ow (pst vs) bs) S' H' O2 := fun t h =>
    ⟨t.s, fun a o e n => t.keep a o e fun z => n ((ow a).mp z), t.dom, fun a z => (t.o a (h a z)).imp (ow a).mp id, fun a z => (t.g a z).imp id (Or.imp (ow a).mp id)⟩
  unfold defF at hF
  cases eb : body (bs ++ List.replicate (N.length - bs.length) .un) with
  | bad => rw [eb] at hF; exact hF
  | ex n ρ' =>
    rw [eb] at hF
    exact fun S' H' σ' t' r' C hC => hF S' H' (trP t' fun a z => z.elim) r'.al r'.tb C hC
  | ok fl =>
    rw [eb] at hF
    intro S' H' σ' t' r'
    have hF : PostF Γ K mg S0 H vs bs (retF bs.length fl) Q E := hF
    unfold retF at hF
    split at hF
    rotate_left
    · exact hF.elim
    rename_i hm
    obtain ⟨ro, so⟩ := outs_ok hbl hm r'
    cases fl with
    | nx ρ' => exact hF S' H' .non (trP t' so) ro .non
    | bk ρ' => exact hF.elim
    | ct ρ' => exact hF.elim
    | rt ev ρ' =>
      intro v re
      cases ev with
      | val d => exact hF S' H' v (trP t' so) ro re
      | fr d =>
        obtain ⟨a, e1, h0, hs, ho, hc⟩ := re
        exact hF S' H' v (trP t' so) ro ⟨a, e1, h0, hs, fun z => ho (so a z), hc⟩
      | sl i =>
        have hv : σ'[i]? = some (some v) := re
        simp only [retF0] at hF
        cases ei : ρ'[i]? with
        | none => simp only [ei] at hF; exact hF.elim
        | some b =>
          simp only [ei] at hF
          have q := r'.bd i b ei
          cases b with
          | un => exact hF.elim
          | exc _ => exact hF.elim
          | prm d => exact hF.elim
          | val d =>
            obtain ⟨u, e1, e2⟩ := q
            rw [hv] at e1; cases e1
            exact hF S' H' v (trP t' so) ro e2
          | own d =>
            obtain ⟨a, e1, e2, e3⟩ := q
            rw [hv] at e1; cases e1
            have ow1 : OwI σ' ρ' i a := ⟨by rw [ei]; rfl, hv⟩
            have np := r'.np i d a ei hv
            refine hF S' H' _ (trP t' so) ro ⟨a, rfl, ⟨?_, np⟩, e2, fun z => ?_, e3⟩
            · rcases t'.o a ⟨i, ow1⟩ with z | z
              · exfalso
                obtain ⟨j, z1, z2⟩ := (ow a).mp z
                cases ej : bs[j]? with
                | none => rw [ej] at z1; cases z1
                | some bj =>
                  rw [ej] at z1
                  cases bj with
                  | un => cases z1
                  | exc _ => cases z1
                  | val _ => cases z1
                  | own d' => exact hbs j d' ej
                  | prm d' =>
                    obtain ⟨a', q1, q2, _⟩ := rp.bd j _ ej
                    rw [z2] at q1; cases q1
                    exact np j q2
              · exact z
            · obtain ⟨j, z1, z2⟩ := z
              have z1 : isOw ((List.map outB (List.take bs.length ρ'))[j]?) = true := z1
              have ro : Rp K (A0p Γ vs bs) S' H' (pst vs) (List.map outB (List.take bs.length ρ')) := ro
              cases ej : (List.map outB (List.take bs.length ρ'))[j]? with
              | none => rw [ej] at z1; cases z1
              | some bj =>
                rw [ej] at z1
                have q := ro.bd j bj ej
                cases bj with
                | un => cases z1
                | exc _ => cases z1
                | val _ => cases z1
                | own d' =>
                  rw [List.getElem?_map] at ej
                  cases ek : (List.take bs.length ρ')[j]? with
                  | none => rw [ek] at ej; cases ej
                  | some b0 => rw [ek] at ej; cases b0 <;> cases ej
                | prm d' =>
                  obtain ⟨a', q1, q2, _⟩ := q
                  rw [z2] at q1; cases q1
                  exact np j q2
/-- the code of the def at f -/
def CodeAt (K : PySem.W.Frag) (f : Addr) (cdv : Value) : Prop := ∃ (oc : Value) (od : Option Addr) (fd : FuncData) (osl : Array (Option Value)), K.lookup f = some ⟨oc, od, .func fd, osl⟩ ∧ fd.code = cdv
/-- a def as it stands in K, whatever its defaults -/
def FnEx (K : PySem.W.Frag) (dV : Value) (x qual : Str) (st : Stmt) (f : Addr) (fd : FuncData) : Prop :=
  ∃ (oc : Value) (od : Option Addr) (kV doc pm : Value) (an : Option Addr) (cdv ct : Value) (osl : Array (Option Value)),
    fd = PySem.W.fnOf x qual (defArgs st) (defBody st) (defScope st) dV kV doc pm an cdv ct ∧ K.lookup f = some ⟨oc, od, .func fd, osl⟩ ∧ PySem.W.codeIn K cdv qual = true
/-- THE RULE: a def by its body -/
theorem fnG_of {dV : Value} {x qual : Str} {st : Stmt} {f : Addr} {fd : FuncData} {N ps : List Str} {k : Nat} {body : SS} (F : FnEx K dV x qual st f fd) (S : FnScope N ps (defScope st)) (sys : SysOk base)
    (hbody : ∀ (cdv : Value), CodeAt K f cdv → ∀ (A : Around) (outer : List Env) (s : Shared) (H : Hp) (E : XK) (A0 : Nat → Option Addr), Room k (cxOf (CX P w) P w K mg base N qual (defScope st) f cdv A outer s H E).A → GX (cxOf (CX P w) P w K mg base N qual (defScope st) f cdv A outer s H E) →
      Takes (cxOf (CX P w) P w K mg base N qual (defScope st) f cdv A outer s H E) (WF E) →
      PSs (cxOf (CX P w) P w K mg base N qual (defScope st) f cdv A outer s H E) (defBody st) (tSt (gc (cxOf (CX P w) P w K mg base N qual (defScope st) f cdv A outer s H E) ⟨A0, Γ⟩ (WF E)) body)) :
    FnG P w K mg base Γ (k + 1) f fd ps (defF N.length body) := by
  obtain ⟨oc, od, kV, doc, pm, an, cdv, ct, osl, rfl, lk, hcd⟩ := F
  refine ⟨fun A outer s H args us vs Q E S0 bs hr hgd e0 hb r hl hbs rp hF => ?_⟩
  have KX : K.In s.heap := e0.mod.kin.keeps fun b o e => (e0.bs b o e).1
  have lim : s.heap.NoLimit := e0.mod.nolimit.keeps fun b o e => (e0.bs b o e).1
  have hpl : ps.length ≤ N.length := by have := congrArg List.length S.pre; rw [List.length_take] at this; omega
  have hbl : bs.length = vs.length := by rw [← rp.len]; simp [pst]
  have hkind : ∀ y ∈ ps.zip us, (defScope st).names.lookup y.1 = some .local ∨ ((defScope st).names.lookup y.1 = some .cell ∧ ((cellsFrom (s.heap.objs.size + 1) (defScope st).names []).lookup y.1).isSome = true) := fun ⟨n, v⟩ hy => by
    rcases S.par n (List.of_mem_zip hy).1 with q | q
    · exact .inl q
    · exact .inr ⟨q, PySem.W.cellsFrom_some _ _ _ (.inl q)⟩
  refine codeAny_call_function hr.depth (KX _ _ lk) rfl S.co S.gen rfl (PySem.W.codeRec_of KX hcd) (hb _ _ _ _ ?_)
  refine wpAny_newFunctionEnv_cells S.kind hkind fun env he s1 x => ?_
  subst he
  refine ⟨lim.keeps x.toInCall.keep, codeAny_func ?_⟩
  have hrd : Room k (A.deeper (envOfC qual (defScope st) s.heap.objs.size f cdv)) := hr.deeper _
  have ht := hbody cdv ⟨oc, od, _, osl, lk, rfl⟩ A outer s H E (A0f vs bs) hrd ⟨hgd, sys, by have := hrd.un; show (A.deeper (envOfC qual (defScope st) s.heap.objs.size f cdv)).units + 150 < _; omega⟩ (takes_of rfl rfl rfl rfl)
  have I : Inv (cxOf (CX P w) P w K mg base N qual (defScope st) f cdv A outer s H E) [] (L2.start N vs) H s1 := inv_start S hr.hd e0 hl r x
  obtain ⟨rp', ow⟩ := rp.begin_ (N := N) (by omega)
  have fin : ∀ {σ' : St} {H' : Hp} {v : V} {u : Value} {s' : Shared}, Inv (cxOf (CX P w) P w K mg base N qual (defScope st) f cdv A outer s H E) [] σ' H' s' → RelV v u → Q v H' → CE outer P w H s Q u s' :=
    fun {σ' H' v u s'} J rv q => ⟨v, H', J.os, J.bare, J.base, J.hok, rv, q⟩
  refine wpAny_mono (ht.run [] s1 (L2.start N vs) H { nx := fun _ H' => Q .non H', rt := Q } I ⟨S0, _, rp', ?_⟩) (fun fl s' hs => ?_) fun e s' hs => hs
  · exact body_reads (by omega) hbs rp hF
  · cases fl with
    | ret u =>
      obtain ⟨v, σ', H', J, rv, q⟩ := hs
      exact fin J rv q
    | next =>
      obtain ⟨σ', H', J, q⟩ := hs
      exact fin (v := V.non) (u := Value.none) J rfl q
    | brk =>
      obtain ⟨_, _, _, q⟩ := hs
      exact False.elim q
    | cont =>
      obtain ⟨_, _, _, q⟩ := hs
      exact False.elim q
end
end G
namespace G
open PySem PySem.Spec PyProof.Rows L2
/-! ### how arguments become parameters: a mode each, true: the slot's own list is handed over -/
def cv1 : List Bool → List Ev → List B → Option (List Ev × List B)
  | m :: ms, e :: es, ρ => if m = true then (cv1 ms es ρ).map fun q => (e :: q.1, q.2) else (shr ρ e).bind fun p => (cv1 ms es p.2).map fun q => (.val p.1 :: q.1, q.2)
  | [], [], ρ => some ([], ρ)
  | _, _, _ => none
def cvB (ρ : List B) : Ev → Option (B × Option Nat)
  | .val d => some (.val d, none)
  | .sl j => match ρ[j]? with
    | some (.own d) => some (.prm d, some j)
    | some (.prm d) => some (.prm d, some j)
    | some (.exc n) => some (.exc n, none)
    | _ => none
  | .fr _ => none
def cv2 (ρ : List B) : List Ev → Option (List B × List (Option Nat))
  | [] => some ([], [])
  | e :: es => (cvB ρ e).bind fun b => (cv2 ρ es).map fun q => (b.1 :: q.1, b.2 :: q.2)
def memL (j : Nat) : List (Option Nat) → Bool
  | [] => false
  | some i :: r => (i == j) || memL j r
  | none :: r => memL j r
def dstL : List (Option Nat) → Bool
  | [] => true
  | some i :: r => !memL i r && dstL r
  | none :: r => dstL r
def reB : B → B → B
  | .own _, .prm d => .own d
  | .prm _, .prm d => .prm d
  | _, _ => .un
def wb : List (Option Nat) → List B → List B → List B
  | some j :: ls, o :: os, ρ => wb ls os (ρ.set j (match ρ[j]? with
    | some b => reB b o
    | none => .un))
  | none :: ls, _ :: os, ρ => wb ls os ρ
  | _, _, ρ => ρ
def wbx : List (Option Nat) → List B → List B
  | some j :: ls, ρ => wbx ls (ρ.set j .un)
  | none :: ls, ρ => wbx ls ρ
  | [], ρ => ρ
def callR (F : SE) (bs : List B) (ls : List (Option Nat)) (ρ : List B) : Rs (Ev × List B) := if dstL ls = true then (match F bs with
  | .ok (.val d, outs) => .ok (.val d, wb ls outs ρ)
  | .ok (.fr d, outs) => .ok (.fr d, wb ls outs ρ)
  | .ok (.sl _, _) => .bad
  | .ex n _ => .ex n (wbx ls ρ)
  | .bad => .bad) else .bad
def callF (ms : List Bool) (F : SE) (dbs : List B) (fa : SA) : SE := fun ρ => (fa ρ).bind fun p => match cv1 ms p.1 p.2 with
  | some (es, ρ1) => (match cv2 ρ1 es with
    | some (bs, ls) => callR F (bs ++ dbs) (ls ++ dbs.map fun _ => none) ρ1
    | none => .bad)
  | none => .bad
section
variable {K : PySem.W.Frag} {A0 : Ax} {S S0 : Addr → Prop} {H H0 : Hp} {σ : St} {O0 : Addr → Prop}
theorem cv1_ok : ∀ {ms : List Bool} {es es' : List Ev} {vs : List V} {S : Addr → Prop} {ρ ρ' : List B}, Tr S0 H0 O0 S H (Ow σ ρ) → Rp K A0 S H σ ρ → Paired (RE1 K S H σ) vs es → cv1 ms es ρ = some (es', ρ') →
    ∃ S', Tr S0 H0 O0 S' H (Ow σ ρ') ∧ Rp K A0 S' H σ ρ' ∧ Paired (RE1 K S' H σ) vs es' ∧ Ex S H S' H
  | [], [], es', vs, S, ρ, ρ', t, r, h, q => by cases q; cases h; exact ⟨S, t, r, .nil, Ex.same fun _ _ e => e⟩
  | m :: ms, e :: es, es', _, S, ρ, ρ', t, r, .cons (a := v) (l₁ := vs) a h, q => by
    unfold cv1 at q
    cases m with
    | true =>
      simp only [if_true] at q
      cases q1 : cv1 ms es ρ with
      | none => rw [q1] at q; cases q
      | some p =>
        rw [q1] at q; cases q
        obtain ⟨S', t', r', h', x⟩ := cv1_ok t r h q1
        exact ⟨S', t', r', .cons (a.ex x) h', x⟩
    | false =>
      simp only [Bool.false_eq_true, if_false] at q
      cases q1 : shr ρ e with
      | none => rw [q1] at q; cases q
      | some p =>
        rw [q1, Option.bind_some] at q
        cases q2 : cv1 ms es p.2 with
        | none => rw [q2] at q; cases q
        | some p2 =>
          rw [q2] at q; cases q
          obtain ⟨S1, t1, r1, d1, x1⟩ := shr_ok t r a q1
          obtain ⟨S', t', r', h', x⟩ := cv1_ok t1 r1 (RE1s.ex x1 h) q2
          exact ⟨S', t', r', .cons (d1.ex x) h', x1.trans x⟩
  | [], _ :: _, _, _, _, _, _, _, _, _, q => by cases q
  | _ :: _, [], _, _, _, _, _, _, _, _, q => by cases q
/-- the parameters, one by one -/
def Par (Γ : Gx) (K : PySem.W.Frag) (S : Addr → Prop) (H : Hp) (σ : St) (ρ : List B) (v : V) (b : B) (l : Option Nat) : Prop :=
  (∃ d, b = .val d ∧ l = none ∧ Dr K S H v d) ∨ (∃ j d a, b = .prm d ∧ l = some j ∧ v = .ref a ∧ OwI σ ρ j a ∧ ¬ S a ∧ OwnAt K S H a d) ∨ ∃ n, b = .exc n ∧ l = none ∧ v = .ref Γ.pa ∧ (n, Γ.pc) ∈ Γ.es
theorem cv2_ok : ∀ {es : List Ev} {vs : List V} {ρ : List B} {bs : List B} {ls : List (Option Nat)}, Rp K A0 S H σ ρ → Paired (RE1 K S H σ) vs es → cv2 ρ es = some (bs, ls) →
    vs.length = bs.length ∧ bs.length = ls.length ∧ ∀ (i : Nat) (b : B), bs[i]? = some b → ∃ v l, vs[i]? = some v ∧ ls[i]? = some l ∧ Par A0.g K S H σ ρ v b l
  | [], _, ρ, bs, ls, r, .nil, q => by cases q; exact ⟨rfl, rfl, fun i b e => by simp at e⟩
  | e :: es, _, ρ, bs, ls, r, .cons (a := v) (l₁ := vs) a h, q => by
    unfold cv2 at q
    cases q1 : cvB ρ e with
    | none => rw [q1] at q; cases q
    | some p =>
      rw [q1, Option.bind_some] at q
      cases q2 : cv2 ρ es with
      | none => rw [q2] at q; cases q
      | some p2 =>
        rw [q2] at q; cases q
        obtain ⟨l1, l2, ih⟩ := cv2_ok r h q2
        refine ⟨by simp only [List.length_cons, l1], by simp only [List.length_cons, l2], fun i b hb => ?_⟩
        cases i with
        | succ i => exact ih i b (by simpa using hb)
        | zero =>
          have hb' : p.1 = b := Option.some.inj hb
          subst hb'
          refine ⟨v, p.2, rfl, rfl, ?_⟩
          cases e with
          | val d => cases q1; exact .inl ⟨d, rfl, rfl, a⟩
          | fr d => cases q1
          | sl j =>
            have hv : σ[j]? = some (some v) := a
            unfold cvB at q1
            cases ej : ρ[j]? with
            | none => simp only [ej, reduceCtorEq] at q1
            | some b0 =>
              simp only [ej] at q1
              have qb := r.bd j b0 ej
              cases b0 with
              | un => cases q1
              | exc n =>
                cases q1
                obtain ⟨e0, e1⟩ := qb
                rw [hv] at e1; cases e1
                exact .inr (.inr ⟨n, rfl, rfl, rfl, e0⟩)
              | val _ => cases q1
              | own d =>
                cases q1
                obtain ⟨a', e1, e2, e3⟩ := qb
                rw [hv] at e1; cases e1
                exact .inr (.inl ⟨j, d, a', rfl, rfl, rfl, ⟨by rw [ej]; rfl, hv⟩, e2, e3⟩)
              | prm d =>
                cases q1
                obtain ⟨a', e1, e0, e2, e3⟩ := qb
                rw [hv] at e1; cases e1
                exact .inr (.inl ⟨j, d, a', rfl, rfl, rfl, ⟨by rw [ej]; rfl, hv⟩, e2, e3⟩)
theorem memL_of {j : Nat} : ∀ {ls : List (Option Nat)} {i : Nat}, ls[i]? = some (some j) → memL j ls = true
  | [], i, h => by simp at h
  | some k :: r, 0, h => by
    have : k = j := by simpa using h
    simp [memL, this]
  | none :: r, 0, h => by simp at h
  | some k :: r, i + 1, h => by simp only [memL, memL_of (ls := r) (i := i) (by simpa using h), Bool.or_true]
  | none :: r, i + 1, h => by simp only [memL, memL_of (ls := r) (i := i) (by simpa using h)]
theorem dstL_ok : ∀ {ls : List (Option Nat)}, dstL ls = true → ∀ {i k j : Nat}, ls[i]? = some (some j) → ls[k]? = some (some j) → i = k
  | [], _, i, k, j, h, _ => by simp at h
  | none :: r, d, 0, k, j, h, _ => by simp at h
  | none :: r, d, i + 1, 0, j, _, h => by simp at h
  | none :: r, d, i + 1, k + 1, j, h1, h2 => by rw [dstL_ok (ls := r) d (i := i) (k := k) (by simpa using h1) (by simpa using h2)]
  | some x :: r, d, 0, 0, j, _, _ => rfl
  | some x :: r, d, 0, k + 1, j, h1, h2 => by
    have e : x = j := by simpa using h1
    have := memL_of (ls := r) (i := k) (j := j) (by simpa using h2)
    simp only [dstL, e, this, Bool.not_true, Bool.false_and, Bool.false_eq_true] at d
  | some x :: r, d, i + 1, 0, j, h1, h2 => by
    have e : x = j := by simpa using h2
    have := memL_of (ls := r) (i := i) (j := j) (by simpa using h1)
    simp only [dstL, e, this, Bool.not_true, Bool.false_and, Bool.false_eq_true] at d
  | some x :: r, d, i + 1, k + 1, j, h1, h2 => by
    simp only [dstL, Bool.and_eq_true] at d
    rw [dstL_ok (ls := r) d.2 (i := i) (k := k) (by simpa using h1) (by simpa using h2)]
/-- what stands behind the call in a slot -/
theorem wb_len : ∀ {ls : List (Option Nat)} {outs ρ : List B}, (wb ls outs ρ).length = ρ.length
  | [], outs, ρ => by cases outs <;> rfl
  | some j :: ls, o :: os, ρ => by unfold wb; rw [wb_len, List.length_set]
  | none :: ls, o :: os, ρ => by unfold wb; rw [wb_len]
  | some j :: ls, [], ρ => rfl
  | none :: ls, [], ρ => rfl
theorem wbx_len : ∀ {ls : List (Option Nat)} {ρ : List B}, (wbx ls ρ).length = ρ.length
  | [], ρ => rfl
  | some j :: ls, ρ => by unfold wbx; rw [wbx_len, List.length_set]
  | none :: ls, ρ => by unfold wbx; rw [wbx_len]
theorem wb_ne {j : Nat} : ∀ {ls : List (Option Nat)} {outs ρ : List B}, memL j ls = false → (wb ls outs ρ)[j]? = ρ[j]?
  | [], outs, ρ, _ => by cases outs <;> rfl
  | some k :: ls, o :: os, ρ, h => by
    simp only [memL, Bool.or_eq_false_iff, beq_eq_false_iff_ne] at h
    unfold wb
    rw [wb_ne h.2, List.getElem?_set_ne h.1]
  | none :: ls, o :: os, ρ, h => by unfold wb; exact wb_ne (by simpa only [memL] using h)
  | some k :: ls, [], ρ, _ => rfl
  | none :: ls, [], ρ, _ => rfl
theorem wbx_ne {j : Nat} : ∀ {ls : List (Option Nat)} {ρ : List B}, memL j ls = false → (wbx ls ρ)[j]? = ρ[j]?
  | [], ρ, _ => rfl
  | some k :: ls, ρ, h => by
    simp only [memL, Bool.or_eq_false_iff, beq_eq_false_iff_ne] at h
    unfold wbx
    rw [wbx_ne h.2, List.getElem?_set_ne h.1]
  | none :: ls, ρ, h => by unfold wbx; exact wbx_ne (by simpa only [memL] using h)
theorem memL_at {j : Nat} : ∀ {ls : List (Option Nat)}, memL j ls = true → ∃ i : Nat, ls[i]? = some (some j)
  | [], h => by cases h
  | some k :: r, h => by
    simp only [memL, Bool.or_eq_true, beq_iff_eq] at h
    rcases h with rfl | h
    · exact ⟨0, rfl⟩
    · obtain ⟨i, e⟩ := memL_at h; exact ⟨i + 1, by simpa using e⟩
  | none :: r, h => by
    obtain ⟨i, e⟩ := memL_at (ls := r) (by simpa only [memL] using h); exact ⟨i + 1, by simpa using e⟩
theorem wb_at {j : Nat} {b o : B} : ∀ {ls : List (Option Nat)} {outs ρ : List B} {i : Nat}, dstL ls = true → ls[i]? = some (some j) → outs[i]? = some o → ρ[j]? = some b → (wb ls outs ρ)[j]? = some (reB b o)
  | [], _, _, i, _, h, _, _ => by simp at h
  | _ :: _, [], _, i, _, _, h, _ => by simp at h
  | none :: ls, o' :: os, ρ, 0, d, h, _, _ => by simp at h
  | none :: ls, o' :: os, ρ, i + 1, d, h1, h2, h3 => by unfold wb; exact wb_at (i := i) d (by simpa using h1) (by simpa using h2) h3
  | some k :: ls, o' :: os, ρ, 0, d, h1, h2, h3 => by
    have e : k = j := by simpa using h1
    have e2 : o' = o := by simpa using h2
    subst e e2
    simp only [dstL, Bool.and_eq_true, Bool.not_eq_true'] at d
    unfold wb
    rw [wb_ne d.1, List.getElem?_set_self (List.getElem?_eq_some_iff.mp h3).1, h3]
  | some k :: ls, o' :: os, ρ, i + 1, d, h1, h2, h3 => by
    have hm : memL j ls = true := memL_of (i := i) (by simpa using h1)
    simp only [dstL, Bool.and_eq_true, Bool.not_eq_true'] at d
    have hk : k ≠ j := fun e => by rw [e, hm] at d; cases d.1
    unfold wb
    exact wb_at (i := i) d.2 (by simpa using h1) (by simpa using h2) (by rw [List.getElem?_set_ne hk]; exact h3)
theorem wbx_at {j : Nat} : ∀ {ls : List (Option Nat)} {ρ : List B} {b : B}, memL j ls = true → (wbx ls ρ)[j]? = some b → b = .un
  | [], ρ, b, h, _ => by cases h
  | none :: ls, ρ, b, h, e => wbx_at (ls := ls) (ρ := ρ) (by simpa only [memL] using h) (by unfold wbx at e; exact e)
  | some k :: ls, ρ, b, h, e => by
    unfold wbx at e
    cases hm : memL j ls with
    | true => exact wbx_at hm e
    | false =>
      rw [wbx_ne hm] at e
      simp only [memL, hm, Bool.or_false, beq_iff_eq] at h
      subst h
      by_cases hl : k < ρ.length
      · rw [List.getElem?_set_self hl] at e; cases e; rfl
      · rw [List.getElem?_eq_none (by rw [List.length_set]; omega)] at e; cases e
end
section
variable {K : PySem.W.Frag} {A0 : Ax} {S S2 : Addr → Prop} {H H2 : Hp} {σ : St} {ρ : List B} {vs : List V} {bs outs : List B} {ls : List (Option Nat)}
/-- the parameters' state -/
theorem par_rp (r : Rp K A0 S H σ ρ) (d : dstL ls = true) (hl : vs.length = bs.length) (hp : ∀ (i : Nat) (b : B), bs[i]? = some b → ∃ v l, vs[i]? = some v ∧ ls[i]? = some l ∧ Par A0.g K S H σ ρ v b l) :
    Rp K (A0p A0.g vs bs) S H (pst vs) bs ∧ (∀ (i : Nat) (d : PyData), bs[i]? ≠ some (B.own d)) ∧ ∀ i a, OwI (pst vs) bs i a → ∃ j, ls[i]? = some (some j) ∧ OwI σ ρ j a := by
  have own : ∀ i a, OwI (pst vs) bs i a → ∃ j, ls[i]? = some (some j) ∧ OwI σ ρ j a := fun i a ⟨h1, h2⟩ => by
    cases e : bs[i]? with
    | none => rw [e] at h1; cases h1
    | some b =>
      obtain ⟨v, l, e1, e2, p⟩ := hp i b e
      have hv : (pst vs)[i]? = some (some v) := by simp [pst, e1]
      rw [hv] at h2
      rcases p with ⟨d, rfl, _⟩ | ⟨j, d, a', rfl, rfl, rfl, q, _⟩ | ⟨n, rfl, _⟩
      · rw [e] at h1; cases h1
      · cases h2; exact ⟨j, e2, q⟩
      · rw [e] at h1; cases h1
  refine ⟨⟨by simp [pst, hl], fun i b e => ?_, fun i k a h1 h2 => ?_, r.al, fun i d' a e _ => ?_, fun i a h => ?_, r.tb⟩, fun i d' e => ?_, own⟩
  · obtain ⟨v, l, e1, e2, p⟩ := hp i b e
    have hv : (pst vs)[i]? = some (some v) := by simp [pst, e1]
    rcases p with ⟨d, rfl, _, q⟩ | ⟨j, d, a', rfl, rfl, rfl, q, q2, q3⟩ | ⟨n, rfl, _, rfl, q1⟩
    · exact ⟨v, hv, q⟩
    · exact ⟨a', hv, by show A0f vs bs i = some a'; unfold A0f; rw [e, e1], q2, q3⟩
    · exact ⟨q1, hv⟩
  · obtain ⟨j, p1, p2⟩ := own i a h1
    obtain ⟨j', q1, q2⟩ := own k a h2
    obtain rfl := r.dis j j' a p2 q2
    exact dstL_ok d p1 q1
  · obtain ⟨v, l, _, _, p⟩ := hp i _ e
    rcases p with ⟨_, h, _⟩ | ⟨_, _, _, h, _⟩ | ⟨_, h, _⟩ <;> cases h
  · obtain ⟨⟨d', e⟩, e1⟩ := A0p_ok h
    obtain ⟨v, l, e2, _, p⟩ := hp i _ e
    rw [e1] at e2; cases e2
    rcases p with ⟨_, h, _⟩ | ⟨j, d2, a', h, _, e3, q, _, q3⟩ | ⟨_, h, _⟩
    · cases h
    · cases e3
      obtain ⟨o, e4, _⟩ := q3
      exact ⟨o, e4⟩
    · cases h
  · obtain ⟨v, l, _, _, p⟩ := hp i _ e
    rcases p with ⟨_, h, _⟩ | ⟨_, _, _, h, _⟩ | ⟨_, h, _⟩ <;> cases h
/-- behind the call: the caller's state -/
theorem back_rp (r : Rp K A0 S H σ ρ) (d : dstL ls = true) (hl : vs.length = bs.length) (hlb : bs.length = ls.length) (hp : ∀ (i : Nat) (b : B), bs[i]? = some b → ∃ v l, vs[i]? = some v ∧ ls[i]? = some l ∧ Par A0.g K S H σ ρ v b l)
    (more : List V) (dbs : List B) (hmore : ∀ i a, OwI (pst (vs ++ more)) (bs ++ dbs) i a → i < bs.length)
    (t : Tr S H (Ow (pst (vs ++ more)) (bs ++ dbs)) S2 H2 (Ow (pst (vs ++ more)) outs)) (ro : Rp K (A0p A0.g (vs ++ more) (bs ++ dbs)) S2 H2 (pst (vs ++ more)) outs) :
    Tr S H (Ow σ ρ) S2 H2 (Ow σ (wb ls outs ρ)) ∧ Rp K A0 S2 H2 σ (wb ls outs ρ) ∧ ∀ a, Ow σ (wb ls outs ρ) a → Ow σ ρ a := by
  have inn : ∀ a, Ow (pst (vs ++ more)) (bs ++ dbs) a → Ow σ ρ a := fun a ⟨i, h⟩ => by
    have hi := hmore i a h
    obtain ⟨h1, h2⟩ := h
    rw [List.getElem?_append_left hi] at h1
    have h2' : (pst vs)[i]? = some (some (.ref a)) := by
      simp only [pst, List.map_append] at h2 ⊢
      rw [List.getElem?_append_left (by simp; omega)] at h2
      exact h2
    obtain ⟨_, _, own⟩ := par_rp r d hl hp
    obtain ⟨j, _, q⟩ := own i a ⟨h1, h2'⟩
    exact ⟨j, q⟩
  have x : Ex S H S2 H2 := Ex.of_tr (K := K) t (fun a hs z => r.sep hs (inn a z)) fun a z => by
    obtain ⟨i, q⟩ := inn a z
    exact (r.own q).2
  -- what a handed slot holds
  have handed : ∀ j, memL j ls = true → ∃ i : Nat, ls[i]? = some (some j) ∧ i < bs.length := fun j h => by
    obtain ⟨i, e⟩ := memL_at h
    exact ⟨i, e, by rw [hlb]; exact (List.getElem?_eq_some_iff.mp e).1⟩
  have at_ : ∀ (i j : Nat), ls[i]? = some (some j) → i < bs.length → ∃ (d0 : PyData) (a : Addr) (b : B), bs[i]? = some (B.prm d0) ∧ vs[i]? = some (V.ref a) ∧ ρ[j]? = some b ∧ σ[j]? = some (some (V.ref a)) ∧ isOw (some b) = true ∧ OwI σ ρ j a := fun i j e hi => by
    obtain ⟨v, l, e1, e2, p⟩ := hp i _ (List.getElem?_eq_getElem hi)
    rw [e] at e2; cases e2
    rcases p with ⟨_, _, h, _⟩ | ⟨j', d0, a, h, h2, h3, q, _⟩ | ⟨_, _, h, _⟩
    · cases h
    rotate_left
    · cases h
    · cases h2
      obtain ⟨q1, q2⟩ := q
      cases ej : ρ[j]? with
      | none => rw [ej] at q1; cases q1
      | some b => exact ⟨d0, a, b, by rw [List.getElem?_eq_getElem hi, h], by rw [e1, h3], rfl, q2, by rw [ej] at q1; exact q1, ⟨q1, q2⟩⟩
  have out_prm : ∀ (i : Nat) (dd : PyData), outs[i]? = some (B.prm dd) → ∃ a : Addr, (pst (vs ++ more))[i]? = some (some (V.ref a)) ∧ ¬ S2 a ∧ OwnAt K S2 H2 a dd := fun i dd e => by
    obtain ⟨a, e1, _, e2, e3⟩ := ro.bd i _ e
    exact ⟨a, e1, e2, e3⟩
  -- slot by slot
  have slot : ∀ (j : Nat) (b' : B), (wb ls outs ρ)[j]? = some b' → (memL j ls = false ∧ ρ[j]? = some b') ∨ b' = .un ∨ ∃ (i : Nat) (b : B) (dd : PyData) (a : Addr), ls[i]? = some (some j) ∧ ρ[j]? = some b ∧ b' = reB b (B.prm dd) ∧ outs[i]? = some (B.prm dd) ∧ OwI σ ρ j a ∧ vs[i]? = some (V.ref a) := fun j b' e => by
    cases hm : memL j ls with
    | false => rw [wb_ne hm] at e; exact .inl ⟨rfl, e⟩
    | true =>
      obtain ⟨i, ei, hi⟩ := handed j hm
      obtain ⟨d0, a, b, _, q2, q3, q4, q5, q6⟩ := at_ i j ei hi
      cases eo : outs[i]? with
      | none =>
        -- outs is as long as the parameters
        exfalso
        have := ro.len
        have h1 : i < (pst (vs ++ more)).length := by simp [pst]; omega
        rw [this] at h1
        rw [List.getElem?_eq_getElem h1] at eo; cases eo
      | some o =>
        rw [wb_at d ei eo q3] at e
        cases e
        cases o with
        | prm dd => exact .inr (.inr ⟨i, b, dd, a, ei, q3, rfl, eo, q6, q2⟩)
        | un => cases b <;> exact .inr (.inl rfl)
        | exc _ => cases b <;> exact .inr (.inl rfl)
        | val _ => cases b <;> exact .inr (.inl rfl)
        | own _ => cases b <;> exact .inr (.inl rfl)
  have own : ∀ j a, OwI σ (wb ls outs ρ) j a → OwI σ ρ j a := fun j a ⟨h1, h2⟩ => by
    cases e : (wb ls outs ρ)[j]? with
    | none => rw [e] at h1; cases h1
    | some b' =>
      rcases slot j b' e with ⟨_, q⟩ | rfl | ⟨i, b, dd, a', q1, q2, q3, q4, q5, _⟩
      · exact ⟨by rw [q]; rw [e] at h1; exact h1, h2⟩
      · rw [e] at h1; cases h1
      · exact ⟨q5.1, h2⟩
  have noS : ∀ j a, OwI σ ρ j a → memL j ls = false → ¬ S2 a := fun j a q hm z => by
    obtain ⟨hs, _, o, e, _⟩ := r.own q
    rcases t.g a z with y | ⟨i, y⟩ | y
    · exact hs y
    · have hi := hmore i a y
      obtain ⟨h1, h2⟩ := y
      rw [List.getElem?_append_left hi] at h1
      have h2' : (pst vs)[i]? = some (some (.ref a)) := by
        simp only [pst, List.map_append] at h2 ⊢
        rw [List.getElem?_append_left (by simp; omega)] at h2
        exact h2
      obtain ⟨_, _, own2⟩ := par_rp r d hl hp
      obtain ⟨j', p1, p2⟩ := own2 i a ⟨h1, h2'⟩
      obtain rfl := r.dis j j' a q p2
      rw [memL_of p1] at hm; cases hm
    · rw [e] at y; cases y
  have keepO : ∀ j a, OwI σ ρ j a → memL j ls = false → ∀ o, H a = some o → H2 a = some o := fun j a q hm o e => t.keepS e (fun ⟨i, z⟩ => by
    have hi := hmore i a z
    obtain ⟨h1, h2⟩ := z
    rw [List.getElem?_append_left hi] at h1
    have h2' : (pst vs)[i]? = some (some (.ref a)) := by
      simp only [pst, List.map_append] at h2 ⊢
      rw [List.getElem?_append_left (by simp; omega)] at h2
      exact h2
    obtain ⟨_, _, own2⟩ := par_rp r d hl hp
    obtain ⟨j', p1, p2⟩ := own2 i a ⟨h1, h2'⟩
    obtain rfl := r.dis j j' a q p2
    rw [memL_of p1] at hm; cases hm) (noS j a q hm) (by obtain ⟨_, _, o', e', c⟩ := r.own q; rw [e] at e'; cases e'; exact c.notTb)
  refine ⟨⟨t.s, fun a o e n => t.keep a o e fun z => n (inn a z), t.dom, fun a ⟨j, h⟩ => .inl ⟨j, own j a h⟩, fun a z => (t.g a z).imp id (Or.imp (inn a) id)⟩,
    ⟨by rw [wb_len]; exact r.len, fun j b' e => ?_, fun j k a h1 h2 => r.dis j k a (own j a h1) (own k a h2), ro.al, fun j dd a e h2 => ?_, fun j a h => let ⟨o, e⟩ := r.aa j a h; t.dom a o e, ro.tb⟩, fun a ⟨j, h⟩ => ⟨j, own j a h⟩⟩
  · rcases slot j b' e with ⟨hm, q⟩ | rfl | ⟨i, b, dd, a, q1, q2, q3, q4, q5, q6⟩
    · have qb := r.bd j b' q
      cases b' with
      | un => trivial
      | exc _ => exact bd_exc x qb
      | val d' => obtain ⟨v, e1, e2⟩ := qb; exact ⟨v, e1, e2.ex x⟩
      | own d' =>
        obtain ⟨a, e1, e2, e3⟩ := qb
        have ow : OwI σ ρ j a := ⟨by rw [q]; rfl, e1⟩
        exact ⟨a, e1, noS j a ow hm, e3.ex x (keepO j a ow hm)⟩
      | prm d' =>
        obtain ⟨a, e1, e0, e2, e3⟩ := qb
        have ow : OwI σ ρ j a := ⟨by rw [q]; rfl, e1⟩
        exact ⟨a, e1, e0, noS j a ow hm, e3.ex x (keepO j a ow hm)⟩
    · trivial
    · obtain ⟨a', p1, p2, p3⟩ := out_prm i dd q4
      have ea : a' = a := by
        have hi : i < vs.length := (List.getElem?_eq_some_iff.mp q6).1
        simp only [pst, List.map_append] at p1
        rw [List.getElem?_append_left (by simp; omega), List.getElem?_map, q6] at p1
        cases p1; rfl
      subst ea
      have qb := r.bd j b q2
      cases b with
      | un => subst q3; trivial
      | exc _ => subst q3; trivial
      | val _ => subst q3; trivial
      | own d' => subst q3; exact ⟨a', q5.2, p2, p3⟩
      | prm d' =>
        subst q3
        obtain ⟨a2, e1, e0, _⟩ := qb
        rw [q5.2] at e1; cases e1
        exact ⟨a', q5.2, e0, p2, p3⟩
  · rcases slot j _ e with ⟨hm, q⟩ | h | ⟨i, b, d2, a', q1, q2, q3, q4, q5, q6⟩
    · exact r.np j dd a q h2
    · cases h
    · cases b with
      | own d' => exact r.np j d' a q2 h2
      | _ => cases q3
/-- an exception came: the handed slots are told no more -/
theorem backx_rp (r : Rp K A0 S H σ ρ) (d : dstL ls = true) (hl : vs.length = bs.length) (hlb : bs.length = ls.length) (hp : ∀ (i : Nat) (b : B), bs[i]? = some b → ∃ v l, vs[i]? = some v ∧ ls[i]? = some l ∧ Par A0.g K S H σ ρ v b l)
    (more : List V) (dbs : List B) (hmore : ∀ i a, OwI (pst (vs ++ more)) (bs ++ dbs) i a → i < bs.length) (al2 : ∀ a, S2 a → ∃ o, H2 a = some o) (tb2 : LamX.Tabs A0.g.T H2)
    (t : Tr S H (Ow (pst (vs ++ more)) (bs ++ dbs)) S2 H2 (fun _ => False)) : Tr S H (Ow σ ρ) S2 H2 (Ow σ (wbx ls ρ)) ∧ Rp K A0 S2 H2 σ (wbx ls ρ) := by
  have inn : ∀ a, Ow (pst (vs ++ more)) (bs ++ dbs) a → ∃ j, OwI σ ρ j a ∧ memL j ls = true := fun a ⟨i, h⟩ => by
    have hi := hmore i a h
    obtain ⟨h1, h2⟩ := h
    rw [List.getElem?_append_left hi] at h1
    have h2' : (pst vs)[i]? = some (some (.ref a)) := by
      simp only [pst, List.map_append] at h2 ⊢
      rw [List.getElem?_append_left (by simp; omega)] at h2
      exact h2
    obtain ⟨_, _, own⟩ := par_rp r d hl hp
    obtain ⟨j, p, q⟩ := own i a ⟨h1, h2'⟩
    exact ⟨j, q, memL_of p⟩
  have x : Ex S H S2 H2 := Ex.of_tr (K := K) t (fun a hs z => by
      obtain ⟨j, q, _⟩ := inn a z
      exact (r.own q).1 hs) fun a z => by
    obtain ⟨i, q, _⟩ := inn a z
    exact (r.own q).2
  have slot : ∀ (j : Nat) (b' : B), (wbx ls ρ)[j]? = some b' → (memL j ls = false ∧ ρ[j]? = some b') ∨ b' = .un := fun j b' e => by
    cases hm : memL j ls with
    | false => rw [wbx_ne hm] at e; exact .inl ⟨rfl, e⟩
    | true => exact .inr (wbx_at hm e)
  have own : ∀ j a, OwI σ (wbx ls ρ) j a → OwI σ ρ j a ∧ memL j ls = false := fun j a ⟨h1, h2⟩ => by
    cases e : (wbx ls ρ)[j]? with
    | none => rw [e] at h1; cases h1
    | some b' =>
      rcases slot j b' e with ⟨hm, q⟩ | rfl
      · exact ⟨⟨by rw [q]; rw [e] at h1; exact h1, h2⟩, hm⟩
      · rw [e] at h1; cases h1
  have noS : ∀ j a, OwI σ ρ j a → memL j ls = false → ¬ S2 a := fun j a q hm z => by
    obtain ⟨hs, _, o, e, _⟩ := r.own q
    rcases t.g a z with y | y | y
    · exact hs y
    · obtain ⟨j', q', hm'⟩ := inn a y
      obtain rfl := r.dis j j' a q q'
      rw [hm'] at hm; cases hm
    · rw [e] at y; cases y
  have keepO : ∀ j a, OwI σ ρ j a → memL j ls = false → ∀ o, H a = some o → H2 a = some o := fun j a q hm o e => t.keepS e (fun z => by
    obtain ⟨j', q', hm'⟩ := inn a z
    obtain rfl := r.dis j j' a q q'
    rw [hm'] at hm; cases hm) (noS j a q hm) (by obtain ⟨_, _, o', e', c⟩ := r.own q; rw [e] at e'; cases e'; exact c.notTb)
  refine ⟨⟨t.s, fun a o e n => t.keep a o e fun z => let ⟨j, q, _⟩ := inn a z; n ⟨j, q⟩, t.dom, fun a ⟨j, h⟩ => .inl ⟨j, (own j a h).1⟩, fun a z => (t.g a z).imp id (Or.imp (fun z => let ⟨j, q, _⟩ := inn a z; ⟨j, q⟩) id)⟩,
    ⟨by rw [wbx_len]; exact r.len, fun j b' e => ?_, fun j k a h1 h2 => r.dis j k a (own j a h1).1 (own k a h2).1, al2, fun j dd a e h2 => ?_, fun j a h => let ⟨o, e⟩ := r.aa j a h; t.dom a o e, tb2⟩⟩
  · rcases slot j b' e with ⟨hm, q⟩ | rfl
    · have qb := r.bd j b' q
      cases b' with
      | un => trivial
      | exc _ => exact bd_exc x qb
      | val d' => obtain ⟨v, e1, e2⟩ := qb; exact ⟨v, e1, e2.ex x⟩
      | own d' =>
        obtain ⟨a, e1, e2, e3⟩ := qb
        have ow : OwI σ ρ j a := ⟨by rw [q]; rfl, e1⟩
        exact ⟨a, e1, noS j a ow hm, e3.ex x (keepO j a ow hm)⟩
      | prm d' =>
        obtain ⟨a, e1, e0, e2, e3⟩ := qb
        have ow : OwI σ ρ j a := ⟨by rw [q]; rfl, e1⟩
        exact ⟨a, e1, e0, noS j a ow hm, e3.ex x (keepO j a ow hm)⟩
    · trivial
  · rcases slot j _ e with ⟨hm, q⟩ | h
    · exact r.np j dd a q h2
    · cases h
end
section
variable {X : Cx} {A0 : Ax} {W : WX} {k : Nat} {f : Addr} {fd : FuncData} {ps : List Str} {F : SE} {dvs : List V} {ds : List Value} {dbs : List B} {x : Str} {p pos : Pos} {e : Expr} {es : List Expr} {fa : SA}
abbrev Dfl (K : PySem.W.Frag) (dvs : List V) (dbs : List B) : Prop := Paired (fun v b => ∃ d, b = B.val d ∧ ∀ S H, Dr K S H v d) dvs dbs
theorem Dfl.nil {K : PySem.W.Frag} : Dfl K [] [] := Paired.nil
theorem Dfl.get {K : PySem.W.Frag} : ∀ {dvs : List V} {dbs : List B} {i : Nat} {b : B}, Dfl K dvs dbs → dbs[i]? = some b → ∃ v d, dvs[i]? = some v ∧ b = .val d ∧ ∀ S H, Dr K S H v d
  | [], dbs, i, b, h, e => by cases h; simp at e
  | v :: dvs, dbs, i, b, h, e => by
    cases h with
    | cons a t =>
      cases i with
      | zero =>
        obtain ⟨d, e1, q⟩ := a
        have e2 : _ = b := Option.some.inj e
        exact ⟨v, d, rfl, by rw [← e2, e1], q⟩
      | succ i =>
        obtain ⟨v', d, e1, q⟩ := Dfl.get (i := i) t (by simpa using e)
        exact ⟨v', d, by simpa using e1, q⟩
theorem Dfl.len {K : PySem.W.Frag} {dvs : List V} {dbs : List B} (h : Dfl K dvs dbs) : dvs.length = dbs.length := Paired.length h
/-- the callee runs -/
theorem run_fnG {pins : List (Addr × Obj)} {σ : St} {H : Hp} {s : Shared} {Q : VK} {E : XK} {us : List Value} {vs : List V} {S : Addr → Prop} {bs : List B} (G : FnG X.prog X.w X.K X.mg X.base A0.g k f fd ps F) (hr : Room k X.A) (gx : GX X) (hb : Binds X.K fd ps ds) (hd : Vals dvs ds)
    (hx : ∀ (e : Value) (s' : Shared), CX X.prog X.w X.stack H s E e s' → X.xe e s')
    (I : Inv X pins σ H s) (r : Vals vs us) (hl : (vs ++ dvs).length = ps.length) (hbs : ∀ (i : Nat) (d : PyData), bs[i]? ≠ some (B.own d)) (rp : Rp X.K (A0p A0.g (vs ++ dvs) bs) S H (pst (vs ++ dvs)) bs)
    (h : PostF A0.g X.K X.mg S H (vs ++ dvs) bs (F bs) Q E) : wpAny (model X.prog X.w) X.A (call (.ref f) us) (EP X pins σ Q) X.xe s := by
  have r2 : Vals (vs ++ dvs) (us ++ ds) := r.append hd
  have hl2 : (us ++ ds).length = ps.length := by rw [← r2.length]; exact hl
  refine wpAny_call (codeAny_mono (G.run X.A X.stack s H ⟨us, []⟩ (us ++ ds) (vs ++ dvs) Q E S bs hr gx.gd I.env0 (hb s us I.kIn hl2) r2 hl hbs rp h) fun r s' hq => ?_)
  cases r with
  | error e => exact hx e s' hq
  | ok fl =>
    cases fl with
    | ret u => exact I.after hq
    | next => exact False.elim hq
    | brk => exact False.elim hq
    | cont => exact False.elim hq
def tCallG (G : Sp) (E : St → XK) (t : TA) : TE := fun σ H Q => t σ H fun vs H1 => G vs H1 Q (E σ)
def spG (Γ : Gx) (K : PySem.W.Frag) (mg : Str → Option Value) (n : Nat) (dvs : List V) (F : SE) : Sp := fun vs H Q E => (vs ++ dvs).length = n ∧ ∃ S bs, (∀ (i : Nat) (d : PyData), bs[i]? ≠ some (B.own d)) ∧ Rp K (A0p Γ (vs ++ dvs) bs) S H (pst (vs ++ dvs)) bs ∧ PostF Γ K mg S H (vs ++ dvs) bs (F bs) Q E
theorem pe_callG (gg : FnG X.prog X.w X.K X.mg X.base A0.g k f fd ps F) (hr : Room k X.A) (gx : GX X) (tk : Takes X W) (hg : Gl X x) (hm : X.mg x = some (.ref f)) (hk : PySem.W.keepIn X.K (.ref f) = true) (hb : Binds X.K fd ps ds) (hd : Vals dvs ds)
    {t : TA} (ha : PA X (e :: es) t) (hdb : (x == ("__debug__" : Str)) = false := by decide) (he : starEach (e :: es) X.env = (false, eval e X.env) :: starEach es X.env := by rfl) (hpl : (backTo pos (starEach es X.env)).any (·.1) = false := by rfl) :
    PE X (.Call (.Name x p) (e :: es) [] pos) (tCallG (spG A0.g X.K X.mg ps.length dvs F) (WE W) t) := by
  refine ⟨fun pins s σ H Q I h => ?_⟩
  refine wpAny_Call_Name_kw (ld_glob I hg hm ?_ hdb)
  refine PySem.W.callWith_K (h₀ := X.base) I.ok.mod.kin hk (thn (ha.run pos pins s σ H _ I h) fun us s1 ⟨vs, H1, I1, r, hl, S, bs, hbs, rp, q⟩ => ⟨I1.kIn, ?_⟩) he hpl
  exact run_fnG gg hr gx hb hd (fun e s' c => passAt tk σ pins H1 s1 e s' I1 c) I1 r hl hbs rp q
theorem callG_ok {ms : List Bool} {n : Nat} (hdf : Dfl X.K dvs dbs) (hlen : ∀ vs : List V, ∀ es : List Ev, Paired (fun _ _ => True) vs es → ∀ ρ es' ρ', cv1 ms es ρ = some (es', ρ') → (vs ++ dvs).length = n) :
    ∀ σ H Q, tE (gc X A0 W) (callF ms F dbs fa) σ H Q → tCallG (spG A0.g X.K X.mg n dvs F) (WE W) (tA (gc X A0 W) fa) σ H Q := by
  rintro σ H Q ⟨S, ρ, rp, h⟩
  refine tA_bind (P := fun z => PostE (gc X A0 W) S H σ ρ z Q) exE PostE.bad rp h fun p S1 H1 vs t1 r1 e1 h => ?_
  cases q1 : cv1 ms p.1 p.2 with
  | none => rw [q1] at h; exact h.elim
  | some pr =>
    obtain ⟨es', ρ1⟩ := pr
    rw [q1] at h
    simp only at h
    obtain ⟨S2, t2, r2, e2, _⟩ := cv1_ok t1 r1 e1 q1
    cases q2 : cv2 ρ1 es' with
    | none => rw [q2] at h; exact h.elim
    | some pr2 =>
      obtain ⟨bs, ls⟩ := pr2
      rw [q2] at h
      simp only at h
      obtain ⟨l1, l2, hp⟩ := cv2_ok r2 e2 q2
      have ld := hdf.len
      have hp' : ∀ (i : Nat) (b : B), (bs ++ dbs)[i]? = some b → ∃ v l, (vs ++ dvs)[i]? = some v ∧ (ls ++ dbs.map fun _ => (none : Option Nat))[i]? = some l ∧ Par A0.g X.K S2 H1 σ ρ1 v b l := fun i b hb => by
        by_cases hi : i < bs.length
        · rw [List.getElem?_append_left hi] at hb
          obtain ⟨v, l, e1, e2, q⟩ := hp i b hb
          exact ⟨v, l, by rw [List.getElem?_append_left (by omega)]; exact e1, by rw [List.getElem?_append_left (by omega)]; exact e2, q⟩
        · rw [List.getElem?_append_right (by omega)] at hb
          obtain ⟨v, d, e1, e2, q⟩ := hdf.get hb
          refine ⟨v, none, by rw [List.getElem?_append_right (by omega), l1]; exact e1, ?_, .inl ⟨d, e2, rfl, q _ _⟩⟩
          rw [List.getElem?_append_right (by omega), ← l2, List.getElem?_map, hb]
          rfl
      have hl' : (vs ++ dvs).length = (bs ++ dbs).length := by rw [List.length_append, List.length_append]; omega
      have hlb' : (bs ++ dbs).length = (ls ++ dbs.map fun _ => (none : Option Nat)).length := by rw [List.length_append, List.length_append, List.length_map]; omega
      show spG A0.g X.K X.mg n dvs F vs H1 Q (WE W σ)
      unfold spG
      generalize bs ++ dbs = bs' at h hp' hl' hlb'
      generalize (ls ++ dbs.map fun _ => (none : Option Nat)) = ls' at h hp' hlb'
      have hn := hlen vs p.1 (Paired.mapP e1 fun _ _ _ => trivial) _ _ _ q1
      generalize vs ++ dvs = vs' at hp' hl' hn ⊢
      unfold callR at h
      split at h
      rotate_left
      · exact h.elim
      rename_i dst
      obtain ⟨pr, pb, pown⟩ := par_rp r2 dst hl' hp'
      have hmore : ∀ i a, OwI (pst (vs' ++ [])) (bs' ++ []) i a → i < bs'.length := fun i a ⟨q, _⟩ => by
        by_cases hi : i < bs'.length
        · exact hi
        · rw [List.append_nil, List.getElem?_eq_none (by omega)] at q; cases q
      refine ⟨hn, S2, bs', pb, pr, ?_⟩
      cases ef : F bs' with
      | bad => rw [ef] at h; exact h.elim
      | ex nm ρx =>
        rw [ef] at h
        intro S3 H3 t3 al3 tb3 C hC
        obtain ⟨t4, r4⟩ := backx_rp r2 dst hl' hlb' hp' [] [] hmore al3 tb3 (by rw [List.append_nil, List.append_nil]; exact t3)
        exact h S3 H3 (t2.trans t4) r4 C hC
      | ok pf =>
        obtain ⟨ev, outs⟩ := pf
        rw [ef] at h
        intro S3 H3 v t3 r3 re
        have bk := back_rp r2 dst hl' hlb' hp' [] [] hmore (by rw [List.append_nil, List.append_nil]; exact t3) (by rw [List.append_nil, List.append_nil]; exact r3)
        obtain ⟨t4, r4, sub⟩ := bk
        cases ev with
        | sl i => exact h.elim
        | val d => exact h S3 H3 v (t2.trans t4) r4 re
        | fr d =>
          obtain ⟨a, e1, ⟨h0, h0'⟩, hs, ho, hc⟩ := re
          refine h S3 H3 v (t2.trans t4) r4 ⟨a, e1, ⟨t2.fresh h0, fun j hj => ?_⟩, hs, fun z => ?_, hc⟩
          · obtain ⟨o, eo⟩ := r2.aa j a hj
            rw [h0] at eo; cases eo
          · obtain ⟨i, q⟩ := sub a z
            obtain ⟨_, _, o, eo, _⟩ := r2.own q
            rw [h0] at eo; cases eo
theorem cv1_len : ∀ {ms : List Bool} {vs : List V} {es es' : List Ev} {ρ ρ' : List B}, Paired (fun _ _ => True) vs es → cv1 ms es ρ = some (es', ρ') → vs.length = ms.length
  | [], vs, [], _, _, _, h, _ => by cases h; rfl
  | m :: ms, vs, e :: es, es', ρ, ρ', h, q => by
    cases h with
    | cons _ t =>
      unfold cv1 at q
      cases m with
      | true =>
        simp only [if_true] at q
        cases q1 : cv1 ms es ρ with
        | none => rw [q1] at q; cases q
        | some p => obtain ⟨a, b⟩ := p; simp only [List.length_cons]; rw [cv1_len t q1]
      | false =>
        simp only [Bool.false_eq_true, if_false] at q
        cases q1 : shr ρ e with
        | none => rw [q1] at q; cases q
        | some p =>
          rw [q1, Option.bind_some] at q
          cases q2 : cv1 ms es p.2 with
          | none => rw [q2] at q; cases q
          | some p2 => obtain ⟨a, b⟩ := p2; simp only [List.length_cons]; rw [cv1_len t q2]
  | [], _, _ :: _, _, _, _, _, q => by cases q
  | _ :: _, _, [], _, _, _, _, q => by cases q
/-- f(..), f a def of the text; ms: the arguments' modes; the further parameters by their defaults -/
theorem gcallf (ms : List Bool) {dvs : List V} {ds : List Value} {dbs : List B} (gg : FnG X.prog X.w X.K X.mg X.base A0.g k f fd ps F) (hr : Room k X.A) (gx : GX X) (tk : Takes X W) (hm : X.mg x = some (.ref f)) (hk : PySem.W.keepIn X.K (.ref f) = true) (hb : Binds X.K fd ps ds) (hd : Vals dvs ds) (hdf : Dfl X.K dvs dbs)
    (ha : PA X (e :: es) (tA (gc X A0 W) fa)) (hn : (ms.length + dvs.length == ps.length) = true := by rfl) (hg : Gl X x := by rfl) (hdb : (x == ("__debug__" : Str)) = false := by decide) (he : starEach (e :: es) X.env = (false, eval e X.env) :: starEach es X.env := by rfl) (hpl : (backTo pos (starEach es X.env)).any (·.1) = false := by rfl) :
    PE X (.Call (.Name x p) (e :: es) [] pos) (tE (gc X A0 W) (callF ms F dbs fa)) :=
  PE_imp (pe_callG gg hr gx tk hg hm hk hb hd ha hdb he hpl) (callG_ok hdf fun vs es h ρ es' ρ' q => by rw [List.length_append, cv1_len h q]; exact eq_of_beq hn)
end
end G
namespace G
open PySem PySem.Spec PyProof.Rows L2
/-! ### a list that a slot alone holds is changed -/
def ownD : B → Option PyData
  | .own d => some d
  | .prm d => some d
  | _ => none
def reD : B → PyData → B
  | .own _, d => .own d
  | .prm _, d => .prm d
  | b, _ => b
section
variable {K : PySem.W.Frag} {A0 : Ax} {S S0 : Addr → Prop} {H H0 : Hp} {σ : St} {ρ : List B} {O0 : Addr → Prop} {i : Nat}
theorem Ex.upd {a : Addr} {o o' : HO} {d : PyData} (hs : ¬ S a) (e : H a = some o) (c : Ct K S H o d) : Ex S H S (upd H a o') := by
  have ne : ∀ b u, H b = some u → (∀ xs, u ≠ .lst xs) → (∀ xs, u ≠ .dK xs) → (∀ xs, u ≠ .dT xs) → b ≠ a := fun b u hb n1 n2 n3 z => by
    subst z; rw [e] at hb; cases hb
    cases c with
    | lst _ => exact n1 _ rfl
    | dK _ => exact n2 _ rfl
    | dT _ => exact n3 _ rfl
  exact ⟨fun _ h => h, fun b u hb _ h => by
    have hne : b ≠ a := fun z => hs (by rw [← z]; exact hb)
    exact h.imp (fun q => by rw [upd_ne hne]; exact q) (fun ⟨q, od, z⟩ => ⟨q, od, by rw [upd_ne hne]; exact z⟩), fun b xs h => by rw [upd_ne (ne b _ h nofun nofun nofun)]; exact h, fun b ob u h => by rw [upd_ne (ne b _ h nofun nofun nofun)]; exact h⟩
end
/-! ### xs.append(e) -/
def appD (d y : PyData) : Option PyData := match d with
  | .list ds => if ds.length < sizeLine then some (.list (ds ++ [y])) else none
  | _ => none
/-- the slot's list after a method with the given data -/
def mutE1 (i : Nat) (mt : PyData → List PyData → Option (PyData × PyData)) (fa : SA) : SE := fun ρ => (fa ρ).bind fun p => match shrs p.2 p.1 with
  | some (ys, ρ1) => (match ρ1[i]? with
    | some b => (match ownD b with
      | some d => (match mt d ys with
        | some (d', v) => .ok (.val v, ρ1.set i (reD b d'))
        | none => .bad)
      | none => .bad)
    | none => .bad)
  | none => .bad
def isLst : PyData → Bool
  | .list _ => true
  | _ => false
def mutE (i : Nat) (mt : PyData → List PyData → Option (PyData × PyData)) (fa : SA) : SE := fun ρ => match (ρ[i]?).bind ownD with
  | some d => if isLst d = true then mutE1 i mt fa ρ else .bad
  | none => .bad
section
variable {X : Cx} {A0 : Ax} {W : WX} {e : Expr} {es : List Expr} {fa : SA} {apos cpos pos : Pos}
def mtApp (d : PyData) (ys : List PyData) : Option (PyData × PyData) := match ys with
  | [y] => (appD d y).map fun d' => (d', PyData.none)
  | _ => none
theorem DrAll.one {K : PySem.W.Frag} {S : Addr → Prop} {H : Hp} {vs : List V} {y : PyData} (h : DrAll K S H vs [y]) : ∃ v, vs = [v] ∧ Dr K S H v y := by
  cases h with
  | cons a b => cases b; exact ⟨_, rfl, a⟩
end
/-! ### xs[k] = e -/
def setD (d k y : PyData) : Option PyData := match d, k with
  | .list ds, .int i => (ixN ds.length i).map fun j => .list (ds.set j y)
  | .dict kvs, k => (keyOf k).bind fun q => if keyed kvs = true ∧ kvs.length < 1000000 then some (.dict (dput kvs q y)) else none
  | _, _ => none
def setS (i : Nat) (fk fe : SE) : SS := fun ρ => (fe ρ).bind fun p => match shr p.2 (settle p.1) with
  | some (y, ρ1) => (match (ρ1[i]?).bind ownD with
    | some _ => (fk ρ1).bind fun q => (match peek q.2 q.1 with
      | some k => (match q.2[i]? with
        | some b => (match ownD b with
          | some d => (match setD d k y with
            | some d' => .ok (.nx (q.2.set i (reD b d')))
            | none => .bad)
          | none => .bad)
        | none => .bad)
      | none => .bad)
    | none => .bad)
  | none => .bad
/-! ### a, b = e1, e2 -/
def resv (ρ : List B) : Ev → Option (Ev × List B)
  | .sl j => (shr ρ (.sl j)).map fun p => (.val p.1, p.2)
  | e => some (e, ρ)
def parS (i j : Nat) (fa fb : SE) : SS := fun ρ => (fa ρ).bind fun p => (fb p.2).bind fun q => match resv q.2 p.1 with
  | some (e1, ρ1) => (match resv ρ1 q.1 with
    | some (e2, ρ2) => (match bindV i e1 ρ2 with
      | .ok ρ3 => (match bindV j e2 ρ3 with
        | .ok ρ4 => .ok (.nx ρ4)
        | _ => .bad)
      | _ => .bad)
    | none => .bad)
  | none => .bad
theorem resv_ok {K : PySem.W.Frag} {A0 : Ax} {S S0 : Addr → Prop} {H H0 HR : Hp} {σ : St} {ρ ρ' : List B} {O0 : Addr → Prop} {v : V} {e e' : Ev}
    (t : Tr S0 H0 O0 S H (Ow σ ρ)) (r : Rp K A0 S H σ ρ) (h : RE K A0 HR S H σ ρ v e) (q : resv ρ e = some (e', ρ')) :
    ∃ S', Tr S0 H0 O0 S' H (Ow σ ρ') ∧ Rp K A0 S' H σ ρ' ∧ RE K A0 HR S' H σ ρ' v e' ∧ (∀ i, e' ≠ .sl i) ∧ Tr S H (Ow σ ρ) S' H (Ow σ ρ') := by
  cases e with
  | val d => cases q; exact ⟨S, t, r, h, nofun, Tr.refl⟩
  | fr d => cases q; exact ⟨S, t, r, h, nofun, Tr.refl⟩
  | sl j =>
    unfold resv at q
    cases e1 : shr ρ (.sl j) with
    | none => simp only [e1, Option.map_none, reduceCtorEq] at q
    | some p =>
      simp only [e1, Option.map_some, Option.some.injEq, Prod.mk.injEq] at q
      obtain ⟨rfl, rfl⟩ := q
      obtain ⟨S', t', r', d', _⟩ := shr_ok t r (show RE1 K S H σ v (.sl j) from h) e1
      obtain ⟨S2, t2, r2, d2, _⟩ := shr_ok (Tr.refl (S := S) (H := H) (O := Ow σ ρ)) r (show RE1 K S H σ v (.sl j) from h) e1
      have tt := t.trans t2
      exact ⟨S2, tt, r2, d2, nofun, t2⟩
theorem RE.setOther {K : PySem.W.Frag} {A0 : Ax} {S : Addr → Prop} {H HR : Hp} {σ σ' : St} {ρ ρ' : List B} {v : V} {e : Ev} (h : RE K A0 HR S H σ ρ v e) (hn : ∀ i, e ≠ .sl i) (ho : ∀ a, v = .ref a → (∃ d, e = .fr d) → ¬ Ow σ' ρ' a) : RE K A0 HR S H σ' ρ' v e := by
  cases e with
  | val d => exact h
  | sl i => exact (hn i rfl).elim
  | fr d => obtain ⟨a, e1, h0, hs, _, hc⟩ := h; exact ⟨a, e1, h0, hs, ho a e1 ⟨d, rfl⟩, hc⟩
section
variable {X : Cx} {A0 : Ax} {W : WX} {a b : Expr} {fa fb : SE} {pos : Pos} {px py pt : Pos} {kt k2 : Nat} {pt2 : Pos}
theorem gs_par (i j : Nat) {x y : Str} (hc : X.calm = true) (hN : X.N.Nodup) (ha : PE X a (tE (gc X A0 W) fa)) (hb : PE X b (tE (gc X A0 W) fb)) (hi : X.N[i]? = some x := by rfl) (hj : X.N[j]? = some y := by rfl) (hij : i ≠ j := by decide)
    (hx : X.env.scope.names.lookup x = some .local := by rfl) (hy : X.env.scope.names.lookup y = some .local := by rfl)
    (hw : swappedStores [.Tuple [.Name x px, .Name y py] kt pt] (.Tuple [a, b] k2 pt2) X.env = pure (some [x, y]) := by rfl)
    (hs : swapsWithSole [.Tuple [.Name x px, .Name y py] kt pt] (.Tuple [a, b] k2 pt2) pos.line X.env = pure false := by rfl)
    (h1 : starEach [a, b] X.env = (false, eval a X.env) :: starEach [b] X.env := by rfl) (h2 : starEach [b] X.env = (false, eval b X.env) :: starEach [] X.env := by rfl) :
    PS X (.Assign [.Tuple [.Name x px, .Name y py] kt pt] (.Tuple [a, b] k2 pt2) pos) (tSt (gc X A0 W) (parS i j fa fb)) := by
  refine PS_imp (ps_par hc hN hi hj hij hx hy (pa_cons ha (pa_cons hb pa_nil h2) h1) hw hs) ?_
  rintro D σ H ⟨S, ρ, r, h⟩
  refine tE_bind (P := fun z => PostS (gc X A0 W) S H σ ρ z D) exS PostS.bad r h fun p S1 H1 v1 t1 r1 e1 h => ?_
  refine tE_bind (P := fun z => PostS (gc X A0 W) S H σ ρ z D) (fun n ρ' h S' H' t r => h S' H' σ (t1.trans t) r) PostS.bad r1 h fun q S2 H2 v2 t2 r2 e2 h => ?_
  show ∃ v w, [v1, v2] = [v, w] ∧ D.nx ((σ.set i (some v)).set j (some w)) H2
  refine ⟨v1, v2, rfl, ?_⟩
  have e1' := e1.mono r1 t2
  cases q1 : resv q.2 p.1 with
  | none => rw [q1] at h; exact h.elim
  | some pr =>
    obtain ⟨f1, ρ1⟩ := pr
    rw [q1] at h
    simp only at h
    obtain ⟨S3, t3, r3, g1, n1, u3⟩ := resv_ok t2 r2 e1' q1
    have e2' := e2.mono r2 u3
    cases q2 : resv ρ1 q.1 with
    | none => rw [q2] at h; exact h.elim
    | some pr =>
      obtain ⟨f2, ρ2⟩ := pr
      rw [q2] at h
      simp only at h
      obtain ⟨S4, t4, r4, g2, n2, u4⟩ := resv_ok t3 r3 e2' q2
      have g1' := g1.mono r3 u4
      cases b1 : bindV i f1 ρ2 with
      | bad => rw [b1] at h; exact h.elim
      | ex n ρ' => rw [b1] at h; exact h.elim
      | ok ρ3 =>
        rw [b1] at h
        simp only at h
        cases b2 : bindV j f2 ρ3 with
        | bad => rw [b2] at h; exact h.elim
        | ex n ρ' => rw [b2] at h; exact h.elim
        | ok ρ4 =>
          rw [b2] at h
          -- the first store
          have st1 : ∃ r5 : Rp X.K A0 S4 H2 (σ.set i (some v1)) ρ3, ∀ c, Ow (σ.set i (some v1)) ρ3 c → Ow σ ρ2 c ∨ (v1 = .ref c ∧ ∃ d, f1 = .fr d) := by
            cases f1 with
            | sl k => exact (n1 k rfl).elim
            | val d => cases b1; obtain ⟨r5, s⟩ := r4.setVal (i := i) g1'; exact ⟨r5, fun c z => .inl (s c z)⟩
            | fr d =>
              cases b1
              obtain ⟨c, rfl, h0, hs, ho, hc⟩ := g1'
              obtain ⟨r5, s⟩ := r4.setOwn (i := i) hs ho h0.2 hc
              exact ⟨r5, fun b z => (s b z).imp id fun z => ⟨by rw [z], d, rfl⟩⟩
          obtain ⟨r5, s5⟩ := st1
          have g2' : RE X.K A0 H1 S4 H2 (σ.set i (some v1)) ρ3 v2 f2 := g2.setOther n2 fun c ec ⟨d, ed⟩ z => by
            subst ed
            obtain ⟨c', e3, h0, _, ho, _⟩ := g2
            rw [ec] at e3; cases e3
            rcases s5 c z with z | ⟨z, d1, z1⟩
            · exact ho z
            · -- the first new object stood when the second was made
              subst z1
              have : ∃ o, H1 c = some o := by
                cases p1 : p.1 with
                | fr dd =>
                  rw [p1] at e1
                  obtain ⟨c2, e5, _, _, _, o, e6, _⟩ := e1
                  rw [z] at e5; cases e5
                  exact ⟨o, e6⟩
                | val dd => rw [p1] at q1; cases q1
                | sl k =>
                  rw [p1] at q1
                  unfold resv at q1
                  cases e7 : shr q.2 (.sl k) with
                  | none => simp only [e7, Option.map_none, reduceCtorEq] at q1
                  | some pp => simp only [e7, Option.map_some, Option.some.injEq, Prod.mk.injEq, reduceCtorEq, false_and] at q1
              obtain ⟨o, e6⟩ := this
              rw [h0.1] at e6; cases e6
          have st2 : ∃ r6 : Rp X.K A0 S4 H2 ((σ.set i (some v1)).set j (some v2)) ρ4, ∀ c, Ow ((σ.set i (some v1)).set j (some v2)) ρ4 c → Ow (σ.set i (some v1)) ρ3 c ∨ (v2 = .ref c ∧ H1 c = none) := by
            cases f2 with
            | sl k => exact (n2 k rfl).elim
            | val d => cases b2; obtain ⟨r6, s⟩ := r5.setVal (i := j) g2'; exact ⟨r6, fun c z => .inl (s c z)⟩
            | fr d =>
              cases b2
              obtain ⟨c, rfl, h0, hs, ho, hc⟩ := g2'
              obtain ⟨r6, s⟩ := r5.setOwn (i := j) hs ho h0.2 hc
              exact ⟨r6, fun b z => (s b z).imp id fun z => ⟨by rw [z], by rw [z]; exact h0.1⟩⟩
          obtain ⟨r6, s6⟩ := st2
          have tt := t1.trans t4
          refine h S4 H2 _ ⟨tt.s, tt.keep, tt.dom, fun c z => ?_, tt.g⟩ r6
          rcases s6 c z with z | ⟨_, z⟩
          · rcases s5 c z with z | ⟨z, d1, z1⟩
            · exact tt.o c z
            · subst z1
              obtain ⟨c2, e5, h0, _⟩ := g1'
              rw [z] at e5; cases e5
              exact .inr h0.1
          · exact .inr (t1.fresh z)
end
end G
namespace G
open PySem PySem.Spec PyProof.Rows L2
def wipeB (ρ : List B) : List Nat → List B
  | [] => ρ
  | v :: vs => (wipeB ρ vs).set v .un
def lcL (t : SG) (c : SB) (fe : SE) (vs : List Nat) : Nat → List PyData → List B → Option (List PyData × List B)
  | _, [], ρ => some ([], ρ)
  | n, d :: ds, ρ => match t d ρ with
    | .ok ρ1 => (match c ρ1 with
      | .ok (true, ρ2) => (match fe ρ2 with
        | .ok (e, ρ3) => (match shr ρ3 (settle e) with
          | some (y, ρ4) => if n < sizeLine then (lcL t c fe vs (n + 1) ds (wipeB ρ4 vs)).map fun p => (y :: p.1, p.2) else none
          | none => none)
        | _ => none)
      | .ok (false, ρ2) => lcL t c fe vs n ds (wipeB ρ2 vs)
      | _ => none)
    | _ => none
def lcE (it : SI) (t : SG) (c : SB) (fe : SE) (vs : List Nat) : SE := fun ρ => (it ρ).bind fun p => match lcL t c fe vs 0 p.1 (wipeB p.2 vs) with
  | some (all, ρe) => .ok (.fr (.list all), wipeB ρe vs)
  | none => .bad
def yesB : SB := fun ρ => .ok (true, ρ)
section
variable {K : PySem.W.Frag} {A0 : Ax} {S S0 : Addr → Prop} {H H0 : Hp} {σ σ' : St} {ρ : List B} {O0 O' : Addr → Prop} {vs : List Nat}
theorem wipeB_len : ∀ {vs : List Nat}, (wipeB ρ vs).length = ρ.length
  | [] => rfl
  | v :: vs => by unfold wipeB; rw [List.length_set, wipeB_len]
theorem wipeB_get {k : Nat} : ∀ {vs : List Nat}, (wipeB ρ vs)[k]? = if k ∈ vs then (ρ[k]?).map fun _ => B.un else ρ[k]?
  | [] => by simp [wipeB]
  | v :: vs => by
    unfold wipeB
    by_cases hk : v = k
    · subst hk
      rw [if_pos (List.mem_cons_self ..)]
      by_cases hl : v < ρ.length
      · rw [List.getElem?_set_self (by rw [wipeB_len]; exact hl), List.getElem?_eq_getElem hl]; rfl
      · rw [List.getElem?_eq_none (by rw [List.length_set, wipeB_len]; omega), List.getElem?_eq_none (by omega)]; rfl
    · rw [List.getElem?_set_ne hk, wipeB_get]
      by_cases hm : k ∈ vs
      · rw [if_pos hm, if_pos (List.mem_cons_of_mem _ hm)]
      · rw [if_neg hm, if_neg]
        intro z
        rcases List.mem_cons.mp z with z | z
        · exact hk z.symm
        · exact hm z
/-- slots forgotten; the frame may be another one that agrees on the rest -/
theorem Rp.wiped (r : Rp K A0 S H σ ρ) (hw : wipe σ' vs = wipe σ vs) : Rp K A0 S H σ' (wipeB ρ vs) ∧ ∀ a, Ow σ' (wipeB ρ vs) a → Ow σ ρ a := by
  have same : ∀ k, k ∉ vs → σ'[k]? = σ[k]? := fun k hk => by
    have := congrArg (fun l : St => l[k]?) hw
    simp only [wipe_get, if_neg hk] at this
    exact this
  have own : ∀ k a, OwI σ' (wipeB ρ vs) k a → OwI σ ρ k a := fun k a ⟨h1, h2⟩ => by
    rw [wipeB_get] at h1
    split at h1
    · cases e : ρ[k]? with
      | none => rw [e] at h1; cases h1
      | some b => rw [e] at h1; cases h1
    · rename_i hk
      exact ⟨h1, by rw [← same k hk]; exact h2⟩
  refine ⟨⟨?_, fun k b hb => ?_, fun i j a h1 h2 => r.dis i j a (own i a h1) (own j a h2), r.al, fun k d a h1 h2 => ?_, r.aa, r.tb⟩, fun a ⟨k, h⟩ => ⟨k, own k a h⟩⟩
  · have := congrArg List.length hw
    rw [wipe_length, wipe_length] at this
    rw [wipeB_len, this]; exact r.len
  · rw [wipeB_get] at hb
    split at hb
    · cases e : ρ[k]? with
      | none => rw [e] at hb; cases hb
      | some b0 => rw [e] at hb; cases hb; trivial
    · rename_i hk
      have q := r.bd k b hb
      have sk := same k hk
      cases b with
      | un => trivial
      | exc n => exact ⟨q.1, by rw [sk]; exact q.2⟩
      | val d => obtain ⟨v, e1, e2⟩ := q; exact ⟨v, by rw [sk]; exact e1, e2⟩
      | own d => obtain ⟨v, e1, e2⟩ := q; exact ⟨v, by rw [sk]; exact e1, e2⟩
      | prm d => obtain ⟨v, e1, e2⟩ := q; exact ⟨v, by rw [sk]; exact e1, e2⟩
  · rw [wipeB_get] at h1
    split at h1
    · cases e : ρ[k]? with
      | none => rw [e] at h1; cases h1
      | some b => rw [e] at h1; cases h1
    · rename_i hk
      exact r.np k d a h1 (by rw [← same k hk]; exact h2)
theorem wipe_wipe : wipe (wipe σ vs) vs = wipe σ vs := by
  apply List.ext_getElem?
  intro k
  rw [wipe_get, wipe_get]
  by_cases hk : k ∈ vs
  · rw [if_pos hk, if_pos hk]
    cases σ[k]? <;> rfl
  · rw [if_neg hk, if_neg hk]
theorem Ex.free {a : Addr} {xs : List V} {o' : HO} (hs : ¬ S a) (e : H a = some (.lst xs)) : Ex S H S (L2.upd H a o') := by
  refine ⟨fun _ h => h, fun b u hb _ h => ?_, fun b ys h => ?_, fun b ob u h => ?_⟩
  · have hne : b ≠ a := fun z => hs (by rw [← z]; exact hb)
    exact h.imp (fun q => by rw [upd_ne hne]; exact q) fun ⟨q, od, z⟩ => ⟨q, od, by rw [upd_ne hne]; exact z⟩
  · have hne : b ≠ a := fun z => by subst z; rw [e] at h; cases h
    rw [upd_ne hne]; exact h
  · have hne : b ≠ a := fun z => by subst z; rw [e] at h; cases h
    rw [upd_ne hne]; exact h
theorem Rp.updFree (r : Rp K A0 S H σ ρ) {a : Addr} {xs : List V} {o' : HO} (hs : ¬ S a) (ho : ¬ Ow σ ρ a) (e : H a = some (.lst xs)) : Rp K A0 S (upd H a o') σ ρ := by
  have x : Ex S H S (upd H a o') := Ex.free hs e
  have keep : ∀ k c, OwI σ ρ k c → ∀ u, H c = some u → (upd H a o') c = some u := fun k c h u hc => by
    have hne : c ≠ a := fun z => ho ⟨k, by rw [← z]; exact h⟩
    rw [upd_ne hne]; exact hc
  have some_ : ∀ c, (∃ u, H c = some u) → ∃ u, (upd H a o') c = some u := fun c ⟨u, hc⟩ => by
    by_cases z : c = a
    · subst z; exact ⟨o', upd_same⟩
    · exact ⟨u, by rw [upd_ne z]; exact hc⟩
  refine ⟨r.len, fun k b hb => ?_, r.dis, fun c h => some_ c (r.al c h), r.np, fun j c h => some_ c (r.aa j c h), tabs_upd r.tb e (fun z => z) (fun _ z => nomatch z)⟩
  have q := r.bd k b hb
  cases b with
  | un => trivial
  | exc _ => exact bd_exc x q
  | val d => obtain ⟨v, e1, e2⟩ := q; exact ⟨v, e1, e2.ex x⟩
  | own d => obtain ⟨c, e1, e2, e3⟩ := q; exact ⟨c, e1, e2, e3.ex x (keep k c ⟨by rw [hb]; rfl, e1⟩)⟩
  | prm d => obtain ⟨c, e1, e0, e2, e3⟩ := q; exact ⟨c, e1, e0, e2, e3.ex x (keep k c ⟨by rw [hb]; rfl, e1⟩)⟩
theorem Tr.updFree (t : Tr S0 H0 O0 S H O') {a : Addr} {o o' : HO} (h0 : H0 a = none) (e : H a = some o) : Tr S0 H0 O0 S (upd H a o') O' := by
  refine ⟨t.s, fun b u h n => ?_, fun b u h => ?_, t.o, t.g⟩
  · have hne : b ≠ a := fun z => by subst z; rw [h0] at h; cases h
    rcases t.keep b u h n with q | ⟨q1, q2, od, q3⟩ | ⟨q1, u', q2, q3⟩
    · exact .inl (by rw [upd_ne hne]; exact q)
    · exact .inr (.inl ⟨q1, q2, od, by rw [upd_ne hne]; exact q3⟩)
    · exact .inr (.inr ⟨q1, u', q2, by rw [upd_ne hne]; exact q3⟩)
  · obtain ⟨u', e'⟩ := t.dom b u h
    by_cases z : b = a
    · subst z; exact ⟨o', upd_same⟩
    · exact ⟨u', by rw [upd_ne z]; exact e'⟩
end
section
variable {X : Cx} {A0 : Ax} {W : WX} {elt tg iter : Expr} {ifs : List Expr} {scope : Scope} {own : List (Str × Nat)} {pos : Pos} {fi : SI} {ft : SG} {fc : SB} {fe : SE}
abbrev W0 : WX := fun _ _ _ _ => False
abbrev gb (K : PySem.W.Frag) (mg : Str → Option Value) (A0 : Ax) : Gc := ⟨K, mg, A0, W0⟩
theorem lc_ok {g : Gc} {vs : List Nat} : ∀ σ H Q, tE g (lcE fi ft fc fe vs) σ H Q → tLc (tI g fi) (tG (gb g.K g.mg g.A0) vs ft) (tT (gb g.K g.mg g.A0) fc) (tE (gb g.K g.mg g.A0) fe) vs σ H Q := by
  rintro σ H Q ⟨S, ρ, r, h⟩
  refine tI_bind (P := fun z => PostE g S H σ ρ z Q) exE PostE.bad r h fun p S1 H1 J t1 r1 ok h1 => ?_
  obtain ⟨ds, ρ1⟩ := p
  simp only at h1
  cases eq : lcL ft fc fe vs 0 ds (wipeB ρ1 vs) with
  | none => rw [eq] at h1; exact h1.elim
  | some pr =>
    obtain ⟨all, ρe⟩ := pr
    rw [eq] at h1
    simp only at h1
    intro D hD
    have hD0 : H D = none := t1.fresh hD
    obtain ⟨rw1, ow1⟩ := r1.wiped (σ' := wipe σ vs) (vs := vs) wipe_wipe
    have noA : ∀ j, g.A0 j ≠ some D := fun j hj => by obtain ⟨o, e⟩ := r1.aa j D hj; rw [hD] at e; cases e
    refine ⟨fun i m H' => ∃ S' ρ' acc accV rest, i + m = ds.length ∧ Rp g.K g.A0 S' H' (wipe σ vs) ρ' ∧ ItOk g.K J S' H' ds ∧ Tr S H (Ow σ ρ) S' H' (Ow (wipe σ vs) ρ') ∧ H' D = some (.lst accV) ∧ DrAll g.K S' H' accV acc ∧ ¬ S' D ∧ ¬ Ow (wipe σ vs) ρ' D ∧
        lcL ft fc fe vs accV.length (ds.drop i) ρ' = some (rest, ρe) ∧ acc ++ rest = all, ⟨ds.length, ?_⟩, ?_⟩
    · have sm : L2.Same H1 (upd H1 D (.lst [])) := same_alloc hD
      have nS : ¬ S1 D := fun z => by obtain ⟨o, e⟩ := r1.al D z; rw [hD] at e; cases e
      refine ⟨S1, wipeB ρ1 vs, [], [], all, by omega, rw1.same sm, ok.mono (Ex.same sm), ?_, upd_same, .nil, nS, fun z => ?_, eq, rfl⟩
      · have tt := t1.same sm
        exact ⟨tt.s, tt.keep, tt.dom, fun a z => tt.o a (ow1 a z), tt.g⟩
      · obtain ⟨o, e⟩ := r1.alive (ow1 D z); rw [hD] at e; cases e
    · rintro i m H' ⟨S', ρ', acc, accV, rest, hm, rp, ok', t', hl, dacc, nS, nO, hL, hall⟩
      cases m with
      | zero =>
        have hi : i = ds.length := by omega
        subst hi
        rw [List.drop_length] at hL
        have hL' : some (([] : List PyData), ρ') = some (rest, ρe) := hL
        cases hL'
        rw [List.append_nil] at hall
        subst hall
        obtain ⟨rf, of⟩ := rp.wiped (σ' := σ) (vs := vs) (by rw [wipe_wipe])
        refine .inl ⟨ok'.end_ S' H' (Ex.same fun _ _ e => e), h1 S' H' (.ref D) ⟨t'.s, t'.keep, t'.dom, fun a z => t'.o a (of a z), t'.g⟩ rf ⟨D, rfl, ⟨hD0, noA⟩, nS, fun z => nO (of D z), _, hl, .lst dacc⟩⟩
      | succ n =>
        have hlt : i < ds.length := by omega
        have e : ds[i]? = some ds[i] := List.getElem?_eq_getElem hlt
        obtain ⟨hgo, hy⟩ := ok'.at_ S' H' i _ (Ex.same fun _ _ e => e) e
        rw [drop_cons e] at hL
        refine .inr ⟨hgo, fun H'' => ∃ S' ρ' acc accV rest, i + 1 + n = ds.length ∧ Rp g.K g.A0 S' H'' (wipe σ vs) ρ' ∧ ItOk g.K J S' H'' ds ∧ Tr S H (Ow σ ρ) S' H'' (Ow (wipe σ vs) ρ') ∧ H'' D = some (.lst accV) ∧ DrAll g.K S' H'' accV acc ∧ ¬ S' D ∧ ¬ Ow (wipe σ vs) ρ' D ∧
          lcL ft fc fe vs accV.length (ds.drop (i + 1)) ρ' = some (rest, ρe) ∧ acc ++ rest = all, fun H'' q => ⟨n, Nat.lt_succ_self n, q⟩, fun x H2 y => ?_⟩
        obtain ⟨sm, dx⟩ := hy x H2 y
        have tg0 : Tr S' H' (Ow (wipe σ vs) ρ') S' H2 (Ow (wipe σ vs) ρ') := Tr.grow sm
        refine ⟨S', ρ', ds[i], rp.same sm, dx, ?_⟩
        unfold lcL at hL
        cases e1 : ft ds[i] ρ' with
        | bad => rw [e1] at hL; cases hL
        | ex k ρ2 => rw [e1] at hL; cases hL
        | ok ρ2 =>
          rw [e1] at hL
          simp only at hL
          intro S2 H3 σ2 t2 r2 w2
          have w2' : wipe σ2 vs = wipe σ vs := by rw [w2, wipe_wipe]
          refine ⟨w2', S2, ρ2, r2, ?_⟩
          have t02 := tg0.trans t2
          cases e2 : fc ρ2 with
          | bad => rw [e2] at hL; cases hL
          | ex k ρ3 => rw [e2] at hL; cases hL
          | ok pb =>
            obtain ⟨b, ρ3⟩ := pb
            rw [e2] at hL
            intro S3 H4 t3 r3
            have t03 := t02.trans t3
            -- the new list is as it was
            have keepD : ∀ {S4 : Addr → Prop} {H5 : Hp} {O5 : Addr → Prop}, Tr S' H' (Ow (wipe σ vs) ρ') S4 H5 O5 → H5 D = some (.lst accV) ∧ ¬ S4 D ∧ ¬ O5 D := fun t => by
              refine ⟨t.keepN hl nO fun z => z, fun z => ?_, fun z => ?_⟩
              · rcases t.g D z with z | z | z
                · exact nS z
                · exact nO z
                · rw [hl] at z; cases z
              · rcases t.o D z with z | z
                · exact nO z
                · rw [hl] at z; cases z
            cases b with
            | false =>
              simp only at hL
              refine iteF ?_
              obtain ⟨r4, o4⟩ := r3.wiped (σ' := wipe σ vs) (vs := vs) (by rw [wipe_wipe, w2'])
              obtain ⟨k1, k2, k3⟩ := keepD t03
              have tt := t'.trans t03
              exact ⟨S3, wipeB ρ3 vs, acc, accV, rest, by omega, r4, ok'.mono (rp.ex t03), ⟨tt.s, tt.keep, tt.dom, fun a z => tt.o a (o4 a z), tt.g⟩, k1, dacc.ex (rp.ex t03), k2, fun z => k3 (o4 D z), hL, hall⟩
            | true =>
              simp only at hL
              refine iteT ⟨S3, ρ3, r3, ?_⟩
              cases e3 : fe ρ3 with
              | bad => rw [e3] at hL; cases hL
              | ex k ρ4 => rw [e3] at hL; cases hL
              | ok pe =>
                obtain ⟨ev, ρ4⟩ := pe
                rw [e3] at hL
                simp only at hL
                intro S4 H5 v t4 r4 re
                obtain ⟨S4', t4', r4', re', x4⟩ := settle_ok t4 r4 re
                cases e4 : shr ρ4 (settle ev) with
                | none => rw [e4] at hL; cases hL
                | some ps =>
                  obtain ⟨yd, ρ5⟩ := ps
                  rw [e4] at hL
                  simp only at hL
                  obtain ⟨S5, t5, r5, dy, x5⟩ := shr_ok t4' r4' re' e4
                  have t05 := t03.trans t5
                  obtain ⟨k1, k2, k3⟩ := keepD t05
                  split at hL
                  rotate_left
                  · cases hL
                  rename_i hz
                  cases e5 : lcL ft fc fe vs (accV.length + 1) (ds.drop (i + 1)) (wipeB ρ5 vs) with
                  | none => rw [e5] at hL; cases hL
                  | some pr =>
                    obtain ⟨rest', ρe'⟩ := pr
                    rw [e5] at hL
                    cases hL
                    obtain ⟨r6, o6⟩ := r5.wiped (σ' := wipe σ vs) (vs := vs) (by rw [wipe_wipe, w2'])
                    have tt := t'.trans t05
                    have tt6 : Tr S H (Ow σ ρ) S5 H5 (Ow (wipe σ vs) (wipeB ρ5 vs)) := ⟨tt.s, tt.keep, tt.dom, fun a z => tt.o a (o6 a z), tt.g⟩
                    have nO6 : ¬ Ow (wipe σ vs) (wipeB ρ5 vs) D := fun z => k3 (o6 D z)
                    have xu : Ex S5 H5 S5 (upd H5 D (.lst (accV ++ [v]))) := Ex.free k2 k1
                    refine ⟨accV, k1, hz, S5, wipeB ρ5 vs, acc ++ [yd], accV ++ [v], rest', by omega, r6.updFree k2 nO6 k1, ok'.mono ((rp.ex t05).trans xu), tt6.updFree hD0 k1, upd_same, ((dacc.ex (rp.ex t05)).ex xu).append (.cons (dy.ex xu) .nil), k2, nO6, ?_, ?_⟩
                    · rw [List.length_append]; exact e5
                    · rw [List.append_assoc]; exact hall
theorem glc (vs : List Nat) (hvs : vs = own.map (·.2)) (hc : X.calm = true) (hN : X.N.Nodup) (hi : PI X tg iter (tI (gc X A0 W) fi)) (ok : BlkOk X.N X.env.scope scope own)
    (hg : ∀ (s : Shared) (H : Hp) (C : Addr) (cl : List (Str × Addr)) (fp : List Addr), PG (X.blk s H scope (compEnvC scope cl C X.env) fp) tg (tG (gb X.K X.mg A0) vs ft)) (ht : ∀ (s : Shared) (H : Hp) (C : Addr) (cl : List (Str × Addr)) (fp : List Addr), PTs (X.blk s H scope (compEnvC scope cl C X.env) fp) ifs (tT (gb X.K X.mg A0) fc))
    (he : ∀ (s : Shared) (H : Hp) (C : Addr) (cl : List (Str × Addr)) (fp : List Addr), PE (X.blk s H scope (compEnvC scope cl C X.env) fp) elt (tE (gb X.K X.mg A0) fe)) (hs : ∀ x, foldedSetIterable iter X.env x = pure x := by intro _; rfl) :
    PE X (.ListComp elt [⟨tg, iter, ifs, 0⟩] scope pos) (tE (gc X A0 W) (lcE fi ft fc fe vs)) := by
  subst hvs
  exact PE_imp (pe_lc hc hN hi ok hg ht he hs) (lc_ok (g := gc X A0 W))
theorem gts_nil {Y : Cx} {g : Gc} : PTs Y [] (tT g yesB) := by
  refine ⟨fun pins s σ H Q I h => pts_nil.run pins s σ H Q I ?_⟩
  obtain ⟨S, ρ, r, h⟩ := h
  exact h S H Tr.refl r
end
end G
namespace G
open PySem PySem.Spec PyProof.Rows L2
theorem dr_ints {K : PySem.W.Frag} {S : Addr → Prop} {H : Hp} : ∀ (ns : List Int), DrAll K S H (ns.map V.int) (ns.map PyData.int)
  | [] => .nil
  | n :: ns => .cons (.int n) (dr_ints ns)
theorem rp_script {K : PySem.W.Frag} {H : Hp} {a : Addr} {ns : List Int} {Γ : Gx} (h : LstR K H a (ns.map V.int)) (tb : LamX.Tabs Γ.T H) :
    Rp K (A0p Γ [V.ref a] [B.val (.list (ns.map PyData.int))]) (fun _ => False) H (pst [V.ref a]) [B.val (.list (ns.map PyData.int))] := by
  have no : ∀ i : Nat, isOw ([B.val (.list (ns.map PyData.int))][i]?) = true → False := fun i h => by
    cases i with
    | zero => cases h
    | succ i => cases h
  refine ⟨rfl, fun i b hb => ?_, fun i j x h1 _ => (no i h1.1).elim, fun _ h => h.elim, fun i d x h1 _ => ?_, fun i x h => ?_, tb⟩
  · match i, hb with
    | 0, hb =>
      cases hb
      exact ⟨V.ref a, rfl, .lstR h (dr_ints ns)⟩
    | i + 1, hb => cases hb
  · match i, h1 with
    | 0, h1 => cases h1
    | i + 1, h1 => cases h1
  · obtain ⟨⟨d, e⟩, _⟩ := A0p_ok h
    match i, e with
    | 0, e => cases e
    | i + 1, e => cases e
/-- the end: a law's contract at the heap behind the top; cs: the code objects that make lambdas, and their tables -/
theorem end_call {P : Program} {w : World} {K : PySem.W.Frag} {mg mb : Str → Option Value} {k : Nat} {fa a : Addr} {fd : FuncData} {x : Str} {F : SE} {s₁ : Shared} {vs : List Value} {ns : List Int} {Γ : Gx} {cs : List (Addr × Addr)}
    (KX : K.In s₁.heap) (hns : s₁.heap.Ns mainGlobals mg) (hb : s₁.heap.Ns builtinsNs mb) (hbb : ∀ x : Str, x ≠ "__name__" → mb x = bootBuiltins x) (hlim : s₁.heap.NoLimit) (hsy : ∃ mm, s₁.heap.Ns sysModules mm) (hg : s₁.gens = #[])
    (hT : ∀ p ∈ cs, s₁.heap.get? p.2 = some { cls := .none, data := .fields #[] }) (nT : ∀ p ∈ cs, K.lookup p.2 = none) (C : ∀ p ∈ cs, PySem.W.CodeHd s₁.heap p.1 p.2)
    (hbm : ∃ (bm : Addr) (ob : Obj), mg "__builtins__" = some (.ref bm) ∧ bm ≠ builtinsNs ∧ s₁.heap.get? bm = some ob ∧ ob.cls = .type "module" ∧ ob.dict = some builtinsNs ∧ ob.data = .plain)
    (hΓ : ∀ q ∈ Γ.T, q.1 ∈ cs.map (·.2))
    (ha : s₁.heap.get? a = some { cls := .type "list", data := .seq vs.toArray }) (hi : IntsAre vs ns) (hl : ns.length ≤ sizeLine) (hr : Room k callerA)
    (hF : ∀ base : Heap, K.In base → base.Ns mainGlobals mg → SysOk base → (∀ p ∈ cs, LamX.TabB base mg p.1 p.2) → FnG P w K mg base Γ k fa fd [x] F) (hbind : ∀ (s : Shared) (u : Value), BindsTo s fd ⟨[u], []⟩ [(x, u)])
    (hlaw : ∃ ρ, F [B.val (.list (ns.map PyData.int))] = .ok (.val (.bool true), ρ)) :
    codeAny (model P w) callerA (.call (.ref fa) ⟨[.ref a], []⟩) (fun r s' => r = .ok (.ret (.bool true)) ∧ OldK s₁.heap s'.heap ∧ s'.os = s₁.os ∧ AllBare s'.gens) s₁ := by
  have rv := vals_ints hi
  have hlen := hi.length
  obtain ⟨ρ, hlaw⟩ := hlaw
  have isT : ∀ b : Addr, b ∈ cs.map (·.2) → s₁.heap.get? b = some { cls := .none, data := .fields #[] } := fun b hb => by
    obtain ⟨p, hp, e⟩ := List.mem_map.mp hb
    rw [← e]
    exact hT p hp
  have aT : a ∉ cs.map (·.2) := fun z => by
    have q := isT a z
    rw [ha] at q
    have z' : Data.seq vs.toArray _ = Data.fields #[] := congrArg Obj.data (Option.some.inj q)
    cases z'
  have memT : ∀ p ∈ cs, p.2 ∈ cs.map (·.2) := fun p hp => List.mem_map.mpr ⟨p, hp, rfl⟩
  -- nothing is told but the tables and, it may be, the script
  have core : ∀ H : Hp, (∀ b ∈ cs.map (·.2), H b = some (.tbl #[])) → (∀ b, H b = none ∨ b ∈ cs.map (·.2) ∨ (b = a ∧ K.lookup a = none ∧ ∃ o xs, H b = some (.frz o (.lst xs)))) → LstR K H a (ns.map V.int) → HOk P w H s₁.heap →
      codeAny (model P w) callerA (.call (.ref fa) ⟨[.ref a], []⟩) (fun r s' => r = .ok (.ret (.bool true)) ∧ OldK s₁.heap s'.heap ∧ s'.os = s₁.os ∧ AllBare s'.gens) s₁ := by
    intro H hH hO hR hok
    have noD : ∀ {b : Addr} {o : Obj}, s₁.heap.get? b = some o → (∀ vs n, o.data ≠ .seq vs n) → o.data ≠ .fields #[] → H b = none := fun {b o} e h1 h2 => by
      rcases hO b with q | q | ⟨rfl, _⟩
      · exact q
      · rw [isT b q] at e
        cases e
        exact (h2 rfl).elim
      · rw [ha] at e
        cases e
        exact (h1 _ _ rfl).elim
    have stay : ∀ {b : Addr} {o : Obj} {es : Array DictEntry} {ep : Nat}, s₁.heap.get? b = some o → o.data = .dict es ep → (hidT s₁.heap H).get? b = some o := fun {b o es ep} e d => hidT_get e (noD e (fun vs n z => by rw [d] at z; cases z) fun z => by rw [d] at z; cases z)
    have nsS : ∀ {b : Addr} {m : Str → Option Value}, s₁.heap.Ns b m → (hidT s₁.heap H).Ns b m := fun ⟨o, es, ep, e, d, r⟩ => ⟨o, es, ep, stay e d, d, r⟩
    have inK : K.In (hidT s₁.heap H) := fun b o e => hidT_get (KX b o e) (by
      rcases hO b with q | q | ⟨rfl, q, _⟩
      · exact q
      · obtain ⟨p, hp, ep⟩ := List.mem_map.mp q
        rw [← ep, nT p hp] at e
        cases e
      · rw [q] at e
        cases e)
    have e0 : Env0 P w K mg (hidT s₁.heap H) callerA [] s₁ H := ⟨rfl, ⟨inK, nsS hns, ⟨mb, nsS hb, hbb⟩, let ⟨mc, h1, h2⟩ := hlim; ⟨mc, nsS h1, h2⟩⟩, fun b o e => of_hidT e, Nat.le_of_eq (hidT_size _ _), trivial, fun b hb => absurd (show b ∈ ([] : List Addr) from hb) (by simp), hok, .of_eq hg⟩
    have sys : SysOk (hidT s₁.heap H) := let ⟨mm, h⟩ := hsy; let ⟨o, es, ep, e, d, _⟩ := nsS h; ⟨o, es, ep, e, d⟩
    have TB : ∀ p ∈ cs, LamX.TabB (hidT s₁.heap H) mg p.1 p.2 := fun p hp => by
      have hTp := hT p hp
      refine ⟨?_, ?_, fun z => ?_⟩
      · obtain ⟨o, us, file, tf, flags, tg, inF, text, tt, e1, r1, r2, r3, r4, r5, r6, r7, r8, hne⟩ := C p hp
        refine ⟨o, us, file, tf, flags, tg, inF, text, tt, hidT_get e1 (noD e1 (fun vs n z => ?_) fun z => ?_), r1, r2, r3, r4, r5, r6, r7, r8, hne⟩
        · rw [r2] at z
          cases z
        · rw [r2] at z
          cases z
          simp at r3
      · obtain ⟨bm, ob, b1, b2, b3, b4, b5, b6⟩ := hbm
        have nG : bm ≠ mainGlobals := fun q => by
          obtain ⟨o, es, ep, e, hd, _⟩ := hns
          rw [q, e] at b3
          cases b3
          rw [hd] at b6
          cases b6
        have nP : bm ≠ p.2 := fun q => by
          rw [q, hTp] at b3
          cases b3
          cases b6
        refine ⟨bm, ob, b1, b2, nG, nP, hidT_get b3 (noD b3 (fun vs n z => ?_) fun z => ?_), b4, b5, b6⟩
        · rw [b6] at z
          cases z
        · rw [b6] at z
          cases z
      · obtain ⟨o, es, ep, e, hd, _⟩ := hns
        rw [z, hTp] at e
        cases e
        cases hd
    have tbs : LamX.Tabs Γ.T H := fun q hq => LamX.TabS.nil (hH _ (hΓ q hq))
    refine codeAny_mono ((hF _ inK (nsS hns) sys TB).run callerA [] s₁ H ⟨[.ref a], []⟩ [.ref a] [.ref a] (fun v _ => v = .bl true) (fun _ _ _ => False) (fun _ => False) [B.val (.list (ns.map PyData.int))] hr rfl e0 (hbind s₁ (.ref a)) (.cons rfl .nil) rfl (fun i d h => ?_) (rp_script hR tbs) ?_) fun r s' h => ?_
    · match i, h with
      | 0, h => cases h
      | i + 1, h => cases h
    · rw [hlaw]
      intro S' H' v t r' re
      have re : Dr K S' H' v (.bool true) := re
      cases re with
      | bl => rfl
      | obj _ _ c => cases c
    · cases r with
      | error e =>
        obtain ⟨_, _, _, _, _, _, _, _, _, _, _, _, q⟩ := (show CX P w [] H s₁ (fun _ _ _ => False) e s' from h)
        exact q.elim
      | ok fl =>
        cases fl with
        | next => exact False.elim h
        | brk => exact False.elim h
        | cont => exact False.elim h
        | ret u =>
          obtain ⟨v, H', os, bare, un, hok', r', q⟩ := h
          have q' : v = .bl true := q
          subst q'
          obtain rfl : u = Value.bool true := r'
          have key : ∀ b o, b ∉ cs.map (·.2) → s₁.heap.get? b = some o → s'.heap.get? b = some o := fun b o nb e => by
            rcases hO b with q | q | ⟨_, _, ob, xs, z⟩
            · exact un.keep b o e q (fun z => absurd (show b ∈ ([] : List Addr) from z) (by simp)) (by simp)
            · exact absurd q nb
            · obtain ⟨e1, _⟩ := hok b _ z
              obtain ⟨e2, _⟩ := hok' b _ (un.frzs b ob _ z)
              rw [e] at e1
              cases e1
              exact e2
          have grown : ∀ p ∈ cs, ∃ more : Array Value, s'.heap.get? p.2 = some { cls := .none, data := .fields more } := fun p hp => by
            obtain ⟨more, z⟩ := un.tbls p.2 #[] (hH _ (memT p hp))
            exact ⟨_, hok' p.2 _ z⟩
          refine ⟨rfl, ⟨fun b o e => ?_, fun b o e => ?_⟩, os, bare⟩
          · by_cases hb : b ∈ cs.map (·.2)
            · obtain ⟨p, hp, ep⟩ := List.mem_map.mp hb
              obtain ⟨more, hm⟩ := grown p hp
              rw [← ep] at e ⊢
              rw [hT p hp] at e
              cases e
              exact .inr (.inl ⟨((C p hp).tab (hT p hp)).isCodeTable, rfl, #[], more, rfl, by rw [Array.empty_append]; exact hm⟩)
            · exact .inl (key b o hb e)
          · by_cases hb : b ∈ cs.map (·.2)
            · obtain ⟨p, hp, ep⟩ := List.mem_map.mp hb
              obtain ⟨more, hm⟩ := grown p hp
              rw [← ep]
              exact ⟨_, hm⟩
            · exact ⟨o, key b o hb e⟩
  cases hk : K.lookup a with
  | some o =>
    have e := KX a o hk
    rw [ha] at e
    cases e
    refine core (fun b => if b ∈ cs.map (·.2) then some (.tbl #[]) else none) (fun b hb => if_pos hb) (fun b => ?_) (.inr ⟨vs, _, hk, by omega, rv⟩) fun b u z => ?_
    · by_cases hb : b ∈ cs.map (·.2)
      · exact .inr (.inl hb)
      · exact .inl (if_neg hb)
    · by_cases hb : b ∈ cs.map (·.2)
      · have z' := (if_pos hb).symm.trans z
        cases z'
        exact isT b hb
      · have z' := (if_neg hb).symm.trans z
        cases z'
  | none =>
    refine core (fun b => if b = a then some (.frz { cls := .type "list", data := .seq vs.toArray } (.lst (ns.map V.int))) else if b ∈ cs.map (·.2) then some (.tbl #[]) else none) (fun b hb => (if_neg (show ¬ b = a from fun z => aT (by rw [← z]; exact hb))).trans (if_pos hb)) (fun b => ?_) (.inl ⟨{ cls := .type "list", data := .seq vs.toArray }, if_pos rfl⟩) fun b u z => ?_
    · by_cases hb : b = a
      · exact .inr (.inr ⟨hb, hk, _, _, if_pos hb⟩)
      · by_cases hb2 : b ∈ cs.map (·.2)
        · exact .inr (.inl hb2)
        · exact .inl ((if_neg hb).trans (if_neg hb2))
    · by_cases hb : b = a
      · have z' := (if_pos hb).symm.trans z
        cases z'
        subst hb
        exact ⟨ha, by rw [List.length_map]; exact hl, vs, _, rv, ha⟩
      · have z1 := (if_neg hb).symm.trans z
        by_cases hb2 : b ∈ cs.map (·.2)
        · have z' := (if_pos hb2).symm.trans z1
          cases z'
          exact isT b hb2
        · have z' := (if_neg hb2).symm.trans z1
          cases z'
/-- from k_head's goal to the mirror -/
theorem end_walk {l : PySem.W.OpenLaw} {n k : Nat} {q : Program} {loose : List Str} {XP : (Str → Option Value) → Heap → Prop} {YP : World → Heap → Prop} {d : DefRec} {K : Params → PySem.W.Frag} {x : Str} {F : Params → SE}
    (hn : l.most = some n) (hn2 : n ≤ sizeLine) (hdf : d.params.defaults = []) (hr : Room k callerA) (him : importsNone q = true)
    (hY : ∀ (w : World) (h : Heap), YP w h → (K w.params).In h)
    (hF : ∀ (w : World) (mg : Str → Option Value) (fa : Addr) (h : Heap), YP w h → (K w.params).In h → h.Ns mainGlobals mg → mg d.name = some (.ref fa) →
      ∃ (fd : FuncData) (cs : List (Addr × Addr)) (Γ : Gx), ((∀ p ∈ cs, h.get? p.2 = some { cls := .none, data := .fields #[] }) ∧ (∀ p ∈ cs, (K w.params).lookup p.2 = none) ∧ (∀ p ∈ cs, PySem.W.CodeHd h p.1 p.2) ∧ ∀ q ∈ Γ.T, q.1 ∈ cs.map (·.2)) ∧ (∀ (s : Shared) (u : Value), BindsTo s fd ⟨[u], []⟩ [(x, u)]) ∧
        ∀ base : Heap, (K w.params).In base → base.Ns mainGlobals mg → SysOk base → (∀ p ∈ cs, LamX.TabB base mg p.1 p.2) → FnG l.prog w (K w.params) mg base Γ k fa fd [x] (F w.params))
    (hlaw : ∀ (p : Params) (ns : List Int), ns.length ≤ n → ∃ ρ, F p [B.val (.list (ns.map PyData.int))] = .ok (.val (.bool true), ρ)) :
    PySem.W.WalkO q loose XP YP l.row.toRowW d [] (fun f vs => PySem.call f vs) := by
  refine Att.attach_call hn hdf fun w s₀ s₁ mg mb fa o pm cd doc a vs ns G Y ho hd hcd hmg hobj hints hlen hg => ?_
  have KX := hY w _ Y
  obtain ⟨fd, cs, Γ, ⟨hT, nT, C, hΓ⟩, hb, hF⟩ := hF w mg fa _ Y KX G.T.g hmg
  obtain ⟨mm, hs, _⟩ := (G.T.seer him).mods
  exact end_call KX G.T.g G.T.b G.T.builtins G.T.nolimit ⟨mm, hs⟩ hg hT nT C G.T.bmain hΓ hobj hints (Nat.le_trans hlen hn2) hr hF hb (hlaw w.params ns hlen)
end G
namespace G
open PySem PySem.Spec PyProof.Rows L2
/-! ### the defs of the text -/
/-- a def of the module's top -/
structure FnK (K : PySem.W.Frag) (mg : Str → Option Value) (dV : Value) (x : Str) (st : Stmt) (ps : List Str) (f : Addr) (fd : FuncData) : Prop where
  at_ : mg x = some (.ref f)
  kp : PySem.W.keepIn K (.ref f) = true
  ex : FnEx K dV x x st f fd
structure CalledG (P : Program) (w : World) (K : PySem.W.Frag) (mg : Str → Option Value) (base : Heap) (Γ : Gx) (k : Nat) (x : Str) (ps : List Str) (F : SE) (dbs : List B) : Prop where
  ex : ∃ (f : Addr) (fd : FuncData) (dvs : List V) (ds : List Value), mg x = some (.ref f) ∧ PySem.W.keepIn K (.ref f) = true ∧ FnG P w K mg base Γ k f fd ps F ∧ Binds K fd ps ds ∧ Vals dvs ds ∧ Dfl K dvs dbs
section
variable {P : Program} {w : World} {K : PySem.W.Frag} {mg : Str → Option Value} {base : Heap} {Γ : Gx} {k : Nat} {dV : Value} {x : Str} {ps : List Str} {F : SE} {st : Stmt} {f : Addr} {fd : FuncData}
theorem fnK_mk {h : Heap} {oc : Value} {od an : Option Addr} {osl : Array (Option Value)} {kV doc pm cdv ct : Value} (X : K.In h) (G : h.Ns mainGlobals mg) (a : PySem.W.nsIn K mainGlobals x = some (some (.ref f)))
    (l : K.lookup f = some ⟨oc, od, .func (PySem.W.fnOf x x (defArgs st) (defBody st) (defScope st) dV kV doc pm an cdv ct), osl⟩) (c : PySem.W.codeIn K cdv x = true) (kp : PySem.W.keepIn K (.ref f) = true) :
    FnK K mg dV x st ps f (PySem.W.fnOf x x (defArgs st) (defBody st) (defScope st) dV kV doc pm an cdv ct) := ⟨PySem.W.mg_of X G a, kp, ⟨oc, od, kV, doc, pm, an, cdv, ct, osl, rfl, l, c⟩⟩
theorem called_of (h : FnK K mg dV x st ps f fd) (b : Binds K fd ps []) (g : FnG P w K mg base Γ k f fd ps F) : CalledG P w K mg base Γ k x ps F [] := ⟨⟨f, fd, [], [], h.at_, h.kp, g, b, .nil, .nil⟩⟩
/-- every parameter is given -/
theorem FnK.binds (h : FnK K mg dV x st ps f fd) (hb : ∀ (kV doc pm : Value) (an : Option Addr) (cdv ct : Value) (us : List Value), us.length = ps.length → bindArgs (PySem.W.fnOf x x (defArgs st) (defBody st) (defScope st) dV kV doc pm an cdv ct) ⟨us, []⟩ = pure (ps.zip us)) : Binds K fd ps [] := by
  obtain ⟨oc, od, kV, doc, pm, an, cdv, ct, osl, rfl, _⟩ := h.ex
  exact .all (hb kV doc pm an cdv ct)
end
section
variable {X : Cx} {A0 : Ax} {W : WX} {k j : Nat} {ps : List Str} {F : SE} {dbs : List B} {x : Str} {p pos : Pos} {e : Expr} {es : List Expr} {fa : SA}
theorem gcallC (ms : List Bool) (c : CalledG X.prog X.w X.K X.mg X.base A0.g k x ps F dbs) (hr : Room j X.A) (gx : GX X) (tk : Takes X W) (ha : PA X (e :: es) (tA (gc X A0 W) fa)) (hj : k ≤ j := by decide) (hn : (ms.length + dbs.length == ps.length) = true := by rfl) (hg : Gl X x := by rfl)
    (hdb : (x == ("__debug__" : Str)) = false := by decide) (he : starEach (e :: es) X.env = (false, eval e X.env) :: starEach es X.env := by rfl) (hpl : (backTo pos (starEach es X.env)).any (·.1) = false := by rfl) :
    PE X (.Call (.Name x p) (e :: es) [] pos) (tE (gc X A0 W) (callF ms F dbs fa)) := by
  obtain ⟨f, fd, dvs, ds, hm, hk, gg, hb, hd, hdf⟩ := c.ex
  exact gcallf ms gg (hr.mono hj) gx tk hm hk hb hd hdf ha (by rw [hdf.len]; exact hn) hg hdb he hpl
end
/-! ### raise X('..'), X an own class -/
structure ExcK (K : PySem.W.Frag) (mg : Str → Option Value) (x : Str) (C : Addr) (newId : String) (bm : List Value) : Prop where
  at_ : mg x = some (.ref C)
  exc : PySem.W.excIn K C bm newId = true
  kp : PySem.W.keepIn K (.ref C) = true
  sub : PySem.W.subIn K (.ref C) (.type "BaseException") = some true
  ty : PySem.W.typeIn K (.ref C) = some (.type "type")
theorem excK_mk {K : PySem.W.Frag} {mg : Str → Option Value} {h : Heap} {x : Str} {C : Addr} {newId : String} {bm : List Value} (X : K.In h) (G : h.Ns mainGlobals mg) (a : PySem.W.nsIn K mainGlobals x = some (some (.ref C))) (q : PySem.W.excIn K C bm newId = true) (kp : PySem.W.keepIn K (.ref C) = true)
    (sub : PySem.W.subIn K (.ref C) (.type "BaseException") = some true) (ty : PySem.W.typeIn K (.ref C) = some (.type "type")) : ExcK K mg x C newId bm := ⟨PySem.W.mg_of X G a, q, kp, sub, ty⟩
def exS_ (x : Str) : SS := fun ρ => .ex x ρ
theorem gs_raise {X : Cx} {A0 : Ax} {W : WX} {C : Addr} {bm : List Value} {B_ newId initId : String} {x m : Str} {j : Nat} {p p2 pos pos' : Pos} (F : ExcBaseFacts B_ newId initId bm) (q : ExcK X.K X.mg x C newId bm) (hc : X.calm = true) (tk : Takes X W) (hg : Gl X x := by rfl)
    (hdb : (x == ("__debug__" : Str)) = false := by decide) : PS X (.Raise (some (.Call (.Name x p) [.Constant (.str m) j p2] [] pos)) none pos') (tSt (gc X A0 W) (exS_ x)) :=
  PS_imp (ps_raise hc tk (pmk_own F q.exc q.at_ q.kp (raises_own q.sub q.ty) hg hdb)) fun D σ H ⟨S, ρ, r, h⟩ => h S H σ Tr.refl r C q.at_
/-! ### e[lo:hi] -/
abbrev SP := Option SE
def ptP : SP → List B → Rs (Option Int × List B)
  | none => fun ρ => .ok (none, ρ)
  | some f => fun ρ => (f ρ).bind fun p => match peek p.2 p.1 with
    | some (.int i) => .ok (some i, p.2)
    | _ => .bad
def tOp_ (g : Gc) : SP → TO
  | none => tNoPart
  | some f => tPart (tE g f)
theorem gpn {X : Cx} {A0 : Ax} {W : WX} : PO X none (tOp_ (gc X A0 W) none) := po_none
theorem gps {X : Cx} {A0 : Ax} {W : WX} {e : Expr} {f : SE} (h : PE X e (tE (gc X A0 W) f)) : PO X (some e) (tOp_ (gc X A0 W) (some f)) := po_some h
def cutL {α : Type} (xs : List α) (lo hi : Option Int) : List α := (xs.drop (HT.sIx xs.length 0 lo)).take (HT.sIx xs.length xs.length hi - HT.sIx xs.length 0 lo)
def cutD (d : PyData) (lo hi : Option Int) : Option Ev := match d with
  | .list ds => some (.fr (.list (cutL ds lo hi)))
  | .tuple ds => some (.val (.tuple (cutL ds lo hi)))
  | .str z => if z.length ≤ sizeLine then some (.val (.str (cutS z lo hi))) else none
  | _ => none
def slE (fe : SE) (pl ph : SP) : SE := fun ρ => (fe ρ).bind fun p => (ptP pl p.2).bind fun l => (ptP ph l.2).bind fun u => resE u.2 ((peek u.2 p.1).bind fun d => cutD d l.1 u.1)
theorem tO_bind {g : Gc} {S : Addr → Prop} {H : Hp} {σ : St} {ρ : List B} {pl : SP} {R : Option Int → Hp → Prop} {α : Type} {k : Option Int × List B → Rs α} {P : Rs α → Prop} (hex : ∀ n ρ', P (.ex n ρ') → ∀ S' H', Tr S H (Ow σ ρ) S' H' (Ow σ ρ') → Rp g.K g.A0 S' H' σ ρ' → g.wx n σ H') (hbad : ¬ P .bad)
    (r : Rp g.K g.A0 S H σ ρ) (h : P ((ptP pl ρ).bind k)) (hk : ∀ p S' H', Tr S H (Ow σ ρ) S' H' (Ow σ p.2) → Rp g.K g.A0 S' H' σ p.2 → P (k p) → R p.1 H') : tOp_ g pl σ H R := by
  cases pl with
  | none => exact hk (none, ρ) S H Tr.refl r h
  | some f =>
    unfold ptP at h
    have h2 : P ((f ρ).bind fun p => (match peek p.2 p.1 with
      | some (.int i) => Rs.ok (some i, p.2)
      | _ => .bad : Rs (Option Int × List B)).bind k) := by
      cases e : f ρ with
      | ok p => simp only [e] at h; exact h
      | ex n ρ' => simp only [e] at h; exact h
      | bad => simp only [e] at h; exact h
    refine tE_bind (R := fun x H1 => ∃ i, x = .int i ∧ R (some i) H1) hex hbad r h2 fun p S' H' v t r' e1 q => ?_
    cases pk : peek p.2 p.1 with
    | none => rw [pk] at q; exact (hbad q).elim
    | some d =>
      rw [pk] at q
      cases d with
      | int i => exact ⟨i, (peek_ok r' e1 pk).int, hk (some i, p.2) S' H' t r' q⟩
      | _ => exact (hbad q).elim
def rSlG (K : PySem.W.Frag) : V → Option Int → Option Int → Hp → VK → Prop := fun x lo hi H Q => (rSlL K x lo hi H Q ∨ rSlA K x lo hi H Q) ∨ rSlS x lo hi H Q
theorem cutL_dr {K : PySem.W.Frag} {S : Addr → Prop} {H : Hp} {xs : List V} {ds : List PyData} (r : DrAll K S H xs ds) (lo hi : Option Int) : DrAll K S H (cutV xs lo hi) (cutL ds lo hi) := by
  unfold cutV cutL
  rw [r.length]
  exact (r.drop _).take _
theorem cutL_all {α : Type} (xs : List α) {lo hi : Option Int} (h : HT.sIx xs.length 0 lo = 0 ∧ HT.sIx xs.length xs.length hi = xs.length) : cutL xs lo hi = xs := by
  unfold cutL
  rw [h.1, h.2]
  simp
theorem cutD_ok {K : PySem.W.Frag} {S : Addr → Prop} {H : Hp} {x : V} {d : PyData} {lo hi : Option Int} {e : Ev} {Q : VK} (h1 : Dw K S H x d) (he : cutD d lo hi = some e) (out : Out K S H e Q) : rSlG K x lo hi H Q := by
  cases d <;> simp only [cutD, reduceCtorEq] at he
  · split at he
    · rename_i z hz
      cases he
      exact .inr ⟨z, h1.str, hz, outStr out⟩
    · cases he
  · cases he
    obtain ⟨a, xs, rfl, q, r⟩ := h1.lst
    exact .inl (.inl ⟨a, xs, rfl, q.sq, outLst (cutL_dr r lo hi) out⟩)
  · cases he
    obtain ⟨a, xs, rfl, q, r⟩ := h1.tup
    refine .inl (.inr ⟨a, xs, rfl, q, fun z => out _ H (fun _ _ e => e) (.tup q ?_), fun _ => outTup (cutL_dr r lo hi) out⟩)
    rw [r.length] at z
    rw [cutL_all _ z]
    exact r
theorem gslice {X : Cx} {A0 : Ax} {W : WX} {e : Expr} {lo hi : Option Expr} {fe : SE} {pl ph : SP} {p2 pos : Pos} (he : PE X e (tE (gc X A0 W) fe)) (hl : PO X lo (tOp_ (gc X A0 W) pl)) (hu : PO X hi (tOp_ (gc X A0 W) ph)) :
    PE X (.Subscript e (.Slice lo hi none p2) pos) (tE (gc X A0 W) (slE fe pl ph)) := by
  refine PE_imp (pe_slice (r := rSlG X.K) ((sl_list.or sl_tupA).or sl_str) he hl hu) ?_
  rintro σ H Q ⟨S, ρ, rp, h⟩
  refine tE_bind (P := fun z => PostE (gc X A0 W) S H σ ρ z Q) exE PostE.bad rp h fun p S1 H1 v1 t1 r1 e1 h => ?_
  refine tO_bind (P := fun z => PostE (gc X A0 W) S1 H1 σ p.2 z Q) exE PostE.bad r1 (h.from t1) fun l S2 H2 t2 r2 h => ?_
  refine tO_bind (P := fun z => PostE (gc X A0 W) S2 H2 σ l.2 z Q) exE PostE.bad r2 (h.from t2) fun u S3 H3 t3 r3 h => ?_
  obtain ⟨ev, hev, out⟩ := resE_out t3 r3 h
  have e3 := (e1.mono r1 t2).mono r2 t3
  cases pk : peek u.2 p.1 with
  | none => rw [pk] at hev; cases hev
  | some d =>
    rw [pk] at hev
    exact cutD_ok (peek_ok r3 e3 pk) hev out
/-! ### small words for the walk -/
theorem hu65 {k : Nat} {A : Around} (hr : Room k A) : A.units + 65 < cLine := by have := hr.un; omega
theorem hu1 {k : Nat} {A : Around} (hr : Room k A) : A.units + 1 < cLine := by have := hr.un; omega
theorem hu64 {k : Nat} {A : Around} (hr : Room k A) : A.units + 64 < cLine := by have := hr.un; omega
/-- a constant of the module -/
structure ConK (K : PySem.W.Frag) (mg : Str → Option Value) (x : Str) (d : PyData) : Prop where
  ex : ∃ u, mg x = some u ∧ KD K u d
section
variable {X : Cx} {A0 : Ax} {W : WX}
theorem gcon {x : Str} {d : PyData} {pos : Pos} (c : ConK X.K X.mg x d) (hg : Gl X x := by rfl) (hd : (x == ("__debug__" : Str)) = false := by decide) : PE X (.Name x pos) (tE (gc X A0 W) (fC d)) := by
  obtain ⟨u, h1, h2⟩ := c.ex
  exact gglob h1 h2 hg hd
def negD : PyData → Option Ev
  | .int i => some (.val (.int (-i)))
  | _ => none
theorem gnegD {a : Expr} {fa : SE} {pos : Pos} (ha : PE X a (tE (gc X A0 W) fa)) : PE X (.UnaryOp .USub a pos) (tE (gc X A0 W) (op1 negD fa)) :=
  PE_imp (pe_un un_neg ha) (op1_ok fun S H x d e Q h he out => by
    cases d <;> simp only [negD, reduceCtorEq] at he
    cases he
    exact ⟨_, h.int, outInt out⟩)
theorem gx_blk (s : Shared) (H : Hp) (scope : Scope) (cenv : Env) (fp : List Addr) (gx : GX X) : GX (X.blk s H scope cenv fp) := ⟨gx.gd, gx.sys, gx.un⟩
theorem takes0 {Y : Cx} : Takes Y W0 := fun u s' ⟨a, B, sI, pins, σ, H, cls, d, e, I, nb, up, sky, na, os, ag, w⟩ => w.elim
end
/-! ### constants of the module -/
section
variable {K : PySem.W.Frag} {mg : Str → Option Value} {h : Heap} {x : Str}
theorem kd_int {i : Int} {t : Nat} : KD K (.int i t) (.int i) := ⟨.int i, ⟨t, rfl⟩, fun _ _ => .int i⟩
theorem kd_str {z : Str} {t : Nat} : KD K (.str z t) (.str z) := ⟨.str z, ⟨t, rfl⟩, fun _ _ => .str z⟩
theorem conK_mk {u : Value} {d : PyData} (X : K.In h) (G : h.Ns mainGlobals mg) (a : PySem.W.nsIn K mainGlobals x = some (some u)) (k : KD K u d) : ConK K mg x d := ⟨⟨u, PySem.W.mg_of X G a, k⟩⟩
end
/-- the law's def, called with the script -/
theorem binds_at {K : PySem.W.Frag} {mg : Str → Option Value} {dV : Value} {x y : Str} {st : Stmt} {f : Addr} {fd : FuncData} (h : FnK K mg dV x st [y] f fd)
    (hb : ∀ (kV doc pm : Value) (an : Option Addr) (cdv ct u : Value), bindArgs (PySem.W.fnOf x x (defArgs st) (defBody st) (defScope st) dV kV doc pm an cdv ct) ⟨[u], []⟩ = pure [(y, u)]) (s : Shared) (u : Value) : BindsTo s fd ⟨[u], []⟩ [(y, u)] := by
  obtain ⟨oc, od, kV, doc, pm, an, cdv, ct, osl, rfl, _⟩ := h.ex
  exact .of_eq (hb kV doc pm an cdv ct u)
/-! ### defaults -/
end G
namespace G
open PySem PySem.Spec PyProof.Rows L2
/-! ### t.index(x), data of any depth -/
/-- the first place of an equal one -/
def placeD (d : PyData) : List PyData → Nat → Option Nat
  | [], _ => none
  | z :: zs, n => if PyData.eqv z d = true then some n else placeD d zs (n + 1)
theorem placeD_ok {d : PyData} : ∀ {ds : List PyData} {n j : Nat}, placeD d ds n = some j → ∃ i z, j = n + i ∧ ds[i]? = some z ∧ PyData.eqv z d = true ∧ ∀ (m : Nat) (z' : PyData), m < i → ds[m]? = some z' → PyData.eqv z' d = false
  | [], n, j, h => by cases h
  | z :: zs, n, j, h => by
    unfold placeD at h
    split at h
    · rename_i hz
      cases h
      exact ⟨0, z, rfl, rfl, hz, fun m _ hm => absurd hm (Nat.not_lt_zero m)⟩
    · rename_i hz
      obtain ⟨i, y, e, e2, e3, e4⟩ := placeD_ok h
      refine ⟨i + 1, y, by omega, by simpa using e2, e3, fun m z' hm ez => ?_⟩
      cases m with
      | zero =>
        have ez' : z = z' := Option.some.inj ez
        rw [← ez']
        exact Bool.eq_false_iff.mpr hz
      | succ m => exact e4 m z' (by omega) (by simpa using ez)
end G
namespace G
open PySem PySem.Spec PyProof.Rows L2
/-! ### f(k = v, ..): every parameter by its name, in the parameters' order -/
structure CalledK (P : Program) (w : World) (K : PySem.W.Frag) (mg : Str → Option Value) (base : Heap) (Γ : Gx) (k : Nat) (x : Str) (ps : List Str) (F : SE) : Prop where
  ex : ∃ (f : Addr) (fd : FuncData), mg x = some (.ref f) ∧ PySem.W.keepIn K (.ref f) = true ∧ FnG P w K mg base Γ k f fd ps F ∧ ∀ (s : Shared) (ws : List Value), ws.length = ps.length → BindsTo s fd ⟨[], ps.zip ws⟩ (ps.zip ws)
theorem calledK_of {P : Program} {w : World} {K : PySem.W.Frag} {mg : Str → Option Value} {base : Heap} {Γ : Gx} {k : Nat} {dV : Value} {x : Str} {ps : List Str} {F : SE} {st : Stmt} {f : Addr} {fd : FuncData} (h : FnK K mg dV x st ps f fd) (g : FnG P w K mg base Γ k f fd ps F)
    (hb : ∀ (kV doc pm : Value) (an : Option Addr) (cdv ct : Value) (ws : List Value), ws.length = ps.length → bindArgs (PySem.W.fnOf x x (defArgs st) (defBody st) (defScope st) dV kV doc pm an cdv ct) ⟨[], ps.zip ws⟩ = pure (ps.zip ws)) : CalledK P w K mg base Γ k x ps F := by
  obtain ⟨oc, od, kV, doc, pm, an, cdv, ct, osl, rfl, _⟩ := h.ex
  exact ⟨⟨f, _, h.at_, h.kp, g, fun s ws hl => .of_eq (hb kV doc pm an cdv ct ws hl)⟩⟩
section
variable {X : Cx} {A0 : Ax} {W : WX} {k j : Nat} {ps : List Str} {F : SE} {x : Str} {p pos kpos : Pos} {e : Expr} {kws : List Keyword} {f : SE} {fs fa : SA} {nm : Option Str}
theorem cons_imp {g : Gc} : ∀ σ H Q, tA g (aCons f fs) σ H Q → tCons (tE g f) (tA g fs) σ H Q := by
  rintro σ H Q ⟨S, ρ, rp, h⟩
  refine tE_bind (P := fun z => PostA g S H σ ρ z Q) exA PostA.bad rp h fun p S1 H1 v1 t1 r1 e1 h => ?_
  obtain ⟨S1', t1', r1', e1', _⟩ := settle_ok t1 r1 e1
  refine tA_bind (P := fun z => PostA g S1' H1 σ p.2 z Q) exA PostA.bad r1' (h.from t1') fun q S2 H2 vs t2 r2 e2 h => ?_
  exact h S2 H2 (v1 :: vs) t2 r2 (.cons (e1'.ex (r1'.ex t2)) e2)
theorem gknil : PK X [] (tA (gc X A0 W) aNil) := ⟨fun pos pins s σ H Q I h => pk_nil.run pos pins s σ H Q I (let ⟨S, ρ, r, h⟩ := h; h S H [] Tr.refl r .nil)⟩
theorem gkcons (ha : PE X e (tE (gc X A0 W) f)) (hr : PK X kws (tA (gc X A0 W) fs)) : PK X (⟨nm, e, kpos⟩ :: kws) (tA (gc X A0 W) (aCons f fs)) := ⟨fun pos pins s σ H Q I h => (pk_cons ha hr).run pos pins s σ H Q I (cons_imp σ H Q h)⟩
theorem gcallK (ms : List Bool) (c : CalledK X.prog X.w X.K X.mg X.base A0.g k x ps F) (hr : Room j X.A) (gx : GX X) (tk : Takes X W) (hkw : PK X kws (tA (gc X A0 W) fa)) (hj : k ≤ j := by decide) (hn : (ms.length == ps.length) = true := by rfl) (hg : Gl X x := by rfl)
    (hall : (backToKw pos (keywordEach kws X.env)).all (·.1.isSome) = true := by rfl) (hks : (backToKw pos (keywordEach kws X.env)).filterMap (·.1) = ps := by rfl) (hdb : (x == ("__debug__" : Str)) = false := by decide)
    (hpl : ((backTo pos (starEach [] X.env)).any (·.1) || (backToKw pos (keywordEach kws X.env)).any (·.1.isNone)) = false := by rfl) :
    PE X (.Call (.Name x p) [] kws pos) (tE (gc X A0 W) (callF ms F [] fa)) := by
  obtain ⟨f, fd, hm, hk, gg, hb⟩ := c.ex
  have base : PE X (.Call (.Name x p) [] kws pos) (tCallG (spG A0.g X.K X.mg ps.length [] F) (WE W) (tA (gc X A0 W) fa)) := by
    refine ⟨fun pins s σ H Q I h => ?_⟩
    refine wpAny_Call_Name_kw (ld_glob I hg hm ?_ hdb)
    refine PySem.W.callWith_KW0 (h₀ := X.base) I.ok.mod.kin hk hall ?_ hpl
    refine thn (hkw.run pos pins s σ H _ I h) fun ws s2 ⟨zs, H2, I2, rz, hl, S, bs, hbs, rp, q⟩ => ⟨I2.kIn, ?_⟩
    rw [hks]
    have e0 : zs ++ [] = zs := List.append_nil zs
    rw [e0] at hl rp q
    refine wpAny_call (codeAny_mono (gg.run X.A X.stack s2 H2 ⟨[], ps.zip ws⟩ ws zs Q (WE W σ) S bs (hr.mono hj) gx.gd I2.env0 (hb s2 ws (by rw [← rz.length]; exact hl)) rz hl hbs rp q) fun r s' hq => ?_)
    cases r with
    | error e => exact passAt tk σ pins H2 s2 e s' I2 hq
    | ok fl =>
      cases fl with
      | ret u => exact I2.after hq
      | next => exact False.elim hq
      | brk => exact False.elim hq
      | cont => exact False.elim hq
  exact PE_imp base (callG_ok .nil fun vs es h ρ es' ρ' q => by rw [List.append_nil, cv1_len h q]; exact eq_of_beq hn)
end
theorem takes_gx {Y : Cx} (_ : GX Y) : Takes Y W0 := G.takes0
/-! ### a, b, c = x, y, z: plain local names, values that are shared -/
def par3S (i j l : Nat) (fs : SA) : SS := fun ρ => (fs ρ).bind fun p => match shrs p.2 p.1 with
  | some ([d1, d2, d3], ρ1) => .ok (.nx (((ρ1.set i (.val d1)).set j (.val d2)).set l (.val d3)))
  | _ => .bad
end G
namespace G
open PySem PySem.Spec PyProof.Rows L2
/-! ### f(k = v, ..): every parameter by its name, in any order: parameter i has the keyword at place π i -/
def permL {α : Type} (π : List Nat) (xs : List α) : List α := π.filterMap (xs[·]?)
def permK (n : Nat) (π : List Nat) : List Ev × List B → Rs (List Ev × List B) := fun p => if p.1.length = n then .ok (permL π p.1, p.2) else .bad
def permA (n : Nat) (π : List Nat) (fa : SA) : SA := fun ρ => (fa ρ).bind (permK n π)
theorem r_permA {n : Nat} {π : List Nat} {fa : SA} {ρ : List B} : permA n π fa ρ = Rs.bind (fa ρ) (permK n π) := id rfl
theorem k_perm1 {e1 : Ev} {ρ : List B} : permK 1 [0] ([e1], ρ) = .ok ([e1], ρ) := id rfl
theorem k_perm2 {e1 e2 : Ev} {ρ : List B} : permK 2 [1, 0] ([e1, e2], ρ) = .ok ([e2, e1], ρ) := id rfl
theorem k_perm3a {e1 e2 e3 : Ev} {ρ : List B} : permK 3 [0, 2, 1] ([e1, e2, e3], ρ) = .ok ([e1, e3, e2], ρ) := id rfl
theorem k_perm3b {e1 e2 e3 : Ev} {ρ : List B} : permK 3 [1, 0, 2] ([e1, e2, e3], ρ) = .ok ([e2, e1, e3], ρ) := id rfl
theorem k_perm3c {e1 e2 e3 : Ev} {ρ : List B} : permK 3 [1, 2, 0] ([e1, e2, e3], ρ) = .ok ([e2, e3, e1], ρ) := id rfl
theorem k_perm3d {e1 e2 e3 : Ev} {ρ : List B} : permK 3 [2, 0, 1] ([e1, e2, e3], ρ) = .ok ([e3, e1, e2], ρ) := id rfl
theorem k_perm3e {e1 e2 e3 : Ev} {ρ : List B} : permK 3 [2, 1, 0] ([e1, e2, e3], ρ) = .ok ([e3, e2, e1], ρ) := id rfl
end G
namespace G
open PySem PySem.Spec PyProof.Rows L2
/-! ### isinstance(e, T), e a caught exception -/
/-- the exception that is handled stands in the context -/
def HotX (X : Cx) (Γ : Gx) : Prop := ∃ oe, (Γ.pa, oe) ∈ X.pn ∧ Zc (.ref Γ.pc) none oe ∧ ∃ vs, oe.data = .fields vs
def rIsX (K : PySem.W.Frag) (Γ : Gx) : List V → Hp → VK → Prop := fun xs H Q => ∃ (c : V) (cv : Value) (b : Bool), xs = [.ref Γ.pa, c] ∧ (∀ u, RelV c u → u = cv) ∧ ExcC K Γ.pc ∧ PySem.W.kitOne K (.ref Γ.pc) cv = some b ∧ Q (.bl b) H
theorem call_isX {X : Cx} {Γ : Gx} (hx : HotX X Γ) : CallR X (.builtin "isinstance") (rIsX X.K Γ) := by
  intro pins s σ H xs us Q I r h
  obtain ⟨c, cv, b, rfl, hcv, C, e, q⟩ := h
  obtain ⟨oe, hp, hz, vs, hv⟩ := hx
  cases r with
  | cons rx rr =>
    cases rr with
    | cons rt rr =>
      cases rr
      cases rx
      have ec := hcv _ rt
      subst ec
      have J : PySem.W.InstAt s.heap Γ.pa oe Γ.pc none := by
        have hget := (I.pin _ (List.mem_append_left _ hp)).1
        obtain ⟨oc, od, oda, osl⟩ := oe
        obtain ⟨h1, h2⟩ := hz
        dsimp only at h1 h2 hv
        subst h1 h2 hv
        exact ⟨hget, rfl, rfl, trivial⟩
      exact PySem.W.kia_one (PySem.W.handS_kitx_exc C.hg C.hk C.hs C.hd C.ha C.hn C.ht C.hm) I.kIn J e (fun z => nomatch z) fun tk => ⟨.bl b, H, I.kept (t' := tk) fun _ _ z => z, rfl, q⟩
/-- of every known class the answer is known -/
def IsxOk (K : PySem.W.Frag) (es : List (Str × Addr)) (cv : Value) (b : Str → Bool) : Prop := ∀ p ∈ es, ExcC K p.2 ∧ PySem.W.kitOne K (.ref p.2) cv = some (b p.1)
def isN (T n : Str) : Bool := n == T
def isAll (n : Str) : Bool := true
def isxK (b : Str → Bool) (ρ : List B) : Option B → Rs (Ev × List B)
  | some (.exc n) => .ok (.val (.bool (b n)), ρ)
  | _ => .bad
def isxE (i : Nat) (b : Str → Bool) : SE := fun ρ => isxK b ρ ρ[i]?
section
variable {X : Cx} {A0 : Ax} {W : WX} {p p1 p2 pos : Pos}
theorem isx_of (hx : HotX X A0.g) {i : Nat} {x y : Str} {u : V} {uv : Value} {b : Str → Bool} (hN : X.N[i]? = some x) (hv : Vis X.env.scope x) (hd : (x == ("__debug__" : Str)) = false) (hcd : (x == ("__classdict__" : Str)) = false) (hy : PE X (.Name y p2) (tC u)) (hu : ∀ w, RelV u w → w = uv) (ok : IsxOk X.K A0.g.es uv b)
    (hm : X.mg "isinstance" = none) (hg : Gl X "isinstance")
    (he : starEach [.Name x p1, .Name y p2] X.env = (false, eval (.Name x p1) X.env) :: starEach [.Name y p2] X.env) (he2 : starEach [.Name y p2] X.env = (false, eval (.Name y p2) X.env) :: starEach [] X.env)
    (hpl : (backTo pos (starEach [.Name y p2] X.env)).any (·.1) = false) :
    PE X (.Call (.Name "isinstance" p) [.Name x p1, .Name y p2] [] pos) (tE (gc X A0 W) (isxE i b)) := by
  refine PE_imp (pe_callB (call_isX hx) hg hm (by decide +kernel) (pa_cons (pe_var (i := i) hN hv hd hcd) (pa_cons hy pa_nil he2) he) (by decide) (by decide) he hpl) fun σ H Q h => ?_
  obtain ⟨S, ρ, rp, h⟩ := h
  unfold isxE at h
  cases e : ρ[i]? with
  | none => rw [e] at h; exact h.elim
  | some bd =>
    rw [e] at h
    have q := rp.bd i bd e
    cases bd with
    | exc n =>
      obtain ⟨c1, c2⟩ := ok _ q.1
      exact ⟨.ref A0.g.pa, q.2, u, uv, b n, rfl, hu, c1, c2, h S H (.bl (b n)) Tr.refl rp (.bl _)⟩
    | _ => exact h.elim
/-- T an own class -/
theorem gisx (hx : HotX X A0.g) (i : Nat) {x y : Str} {D : Addr} {b : Str → Bool} (hmy : X.mg y = some (.ref D)) (ok : IsxOk X.K A0.g.es (.ref D) b) (hm : X.mg "isinstance" = none) (hN : X.N[i]? = some x := by rfl) (hv : Vis X.env.scope x := by first | exact Or.inl rfl | exact Or.inr (Or.inl rfl) | exact Or.inr (Or.inr rfl)) (hd : (x == ("__debug__" : Str)) = false := by decide) (hcd : (x == ("__classdict__" : Str)) = false := by decide)
    (hg : Gl X "isinstance" := by rfl) (hg2 : Gl X y := by rfl) (hd2 : (y == ("__debug__" : Str)) = false := by decide)
    (he : starEach [.Name x p1, .Name y p2] X.env = (false, eval (.Name x p1) X.env) :: starEach [.Name y p2] X.env := by rfl) (he2 : starEach [.Name y p2] X.env = (false, eval (.Name y p2) X.env) :: starEach [] X.env := by rfl)
    (hpl : (backTo pos (starEach [.Name y p2] X.env)).any (·.1) = false := by rfl) :
    PE X (.Call (.Name "isinstance" p) [.Name x p1, .Name y p2] [] pos) (tE (gc X A0 W) (isxE i b)) :=
  isx_of hx hN hv hd hcd (pe_glob (v := .ref D) hg2 hmy rfl hd2) (fun w h => h) ok hm hg he he2 hpl
/-- T a built-in class -/
theorem gisxB (hx : HotX X A0.g) (i : Nat) {x y : Str} {T : String} {b : Str → Bool} (hmy : X.mg y = none) (hv2 : bootBuiltins y = some (.type T)) (ok : IsxOk X.K A0.g.es (.type T) b) (hm : X.mg "isinstance" = none) (hN : X.N[i]? = some x := by rfl) (hv : Vis X.env.scope x := by first | exact Or.inl rfl | exact Or.inr (Or.inl rfl) | exact Or.inr (Or.inr rfl)) (hd : (x == ("__debug__" : Str)) = false := by decide) (hcd : (x == ("__classdict__" : Str)) = false := by decide)
    (hg : Gl X "isinstance" := by rfl) (hg2 : Gl X y := by rfl) (hn2 : y ≠ "__name__" := by decide) (hd2 : (y == ("__debug__" : Str)) = false := by decide)
    (he : starEach [.Name x p1, .Name y p2] X.env = (false, eval (.Name x p1) X.env) :: starEach [.Name y p2] X.env := by rfl) (he2 : starEach [.Name y p2] X.env = (false, eval (.Name y p2) X.env) :: starEach [] X.env := by rfl)
    (hpl : (backTo pos (starEach [.Name y p2] X.env)).any (·.1) = false := by rfl) :
    PE X (.Call (.Name "isinstance" p) [.Name x p1, .Name y p2] [] pos) (tE (gc X A0 W) (isxE i b)) :=
  isx_of hx hN hv hd hcd (pe_bltn (v := .ty T) hg2 hmy hv2 rfl hn2 hd2) (fun w h => h) ok hm hg he he2 hpl
end
/-! ### xs.count(d), xs.index(d) of a list of data -/
def rCountD (K : PySem.W.Frag) : V → List V → Hp → VK → Prop := fun x xs H Q => ∃ (a : Addr) (y : V) (d : PyData) (ds : List PyData), x = V.ref a ∧ xs = [y] ∧ Dp K H (V.ref a) (.list ds) ∧ Dp K H y d ∧
  SeqAt.shaped (.list ds) = true ∧ SeqAt.shaped d = true ∧ Q (.int (ds.countP fun z => PyData.eqv z d : Nat)) H
theorem mt_countD {X : Cx} (hu : X.A.units + 65 < cLine) : MtR X "list.count" (rCountD X.K) := by
  intro pins s σ H x xs v us Q I rx rxs h
  obtain ⟨a, y, d, ds, rfl, rfl, hl, hy, sl, sd, q⟩ := h
  cases rx
  cases rxs with
  | cons ry rt =>
    rename_i uy ut
    cases rt
    obtain ⟨bs, r1⟩ := Dp.reads I d y uy hy ry
    have hxs : PyData.canLayAll0 ds = true := SeqAt.canLay_of_shaped sl
    have hroom : X.A.units + 1 + min (PyData.depthAll ds) d.depth < cLine := room_in_shaped sd hu
    cases hl with
    | lst hs ha =>
      obtain ⟨its, rv, ⟨⟨cls, dd, data, sls⟩, n, ho, hc, hdn, hdt⟩, hlen⟩ := I.list hs
      simp only at hc hdt
      subst hc hdt
      obtain ⟨as, h4⟩ := Dp.readsAll I ds _ its ha rv
      have hmap : its.map (SeqAt.readOf s.heap) = ds := SeqAt.readsAll_map ds its as hxs h4
      refine call_meets PySem.F.slot_list_count ⟨_, ho, rfl⟩ PySem.F.entry_list_count (PySem.F.args_list_count_2 _ _)
        (SeqAt.list_countAt a its.toArray n dd sls uy (fun u => PyData.eqv (SeqAt.readOf s.heap u) d)) ⟨ho, SeqAt.items_eqAt (vs := its.toArray) (show ReadsAll s.heap its.toArray.toList ds as from h4) r1 hxs (SeqAt.canLay_of_shaped sd) hroom, ?_⟩
      have ec : its.toArray.toList.countP (fun u => PyData.eqv (SeqAt.readOf s.heap u) d) = ds.countP fun z => PyData.eqv z d := by
        have e2 : ds.countP (fun z => PyData.eqv z d) = (its.map (SeqAt.readOf s.heap)).countP fun z => PyData.eqv z d := by rw [hmap]
        rw [e2, List.countP_map]
        rfl
      rw [ec]
      exact ⟨.int _, H, I.tok _, ⟨_, rfl⟩, q⟩
def countD (d x : PyData) : Option Ev := match d with
  | .list ds => if (SeqAt.shaped (.list ds) && SeqAt.shaped x) = true then some (.val (.int (ds.countP fun z => PyData.eqv z x : Nat))) else none
  | _ => none
def indexLD (d x : PyData) : Option Ev := match d with
  | .list ds => if (SeqAt.shaped (.list ds) && SeqAt.shaped x) = true then (placeD x ds 0).map fun j => .val (.int j) else none
  | _ => none
/-- a method of a list with one argument, by data -/
def isLs8 : Option PyData → Bool
  | some (.list _) => true
  | _ => false
def lmK2 (b : PyData → PyData → Option Ev) (e : Ev) : Ev × List B → Rs (Ev × List B) := fun q => resE q.2 ((peek q.2 e).bind fun d1 => (peek q.2 q.1).bind fun d2 => b d1 d2)
def lmK (b : PyData → PyData → Option Ev) (fa : SE) : Ev × List B → Rs (Ev × List B) := fun p => if isLs8 (peek p.2 p.1) = true then (fa p.2).bind (lmK2 b p.1) else .bad
def lmE (b : PyData → PyData → Option Ev) (fe fa : SE) : SE := fun ρ => (fe ρ).bind (lmK b fa)
theorem lm_ok {g : Gc} {r : V → List V → Hp → VK → Prop} {b : PyData → PyData → Option Ev} {fe fa : SE} (ho : ∀ S H x y d1 d2 e Q, Dw g.K S H x d1 → Dw g.K S H y d2 → b d1 d2 = some e → Out g.K S H e Q → r x [y] H Q) :
    ∀ σ H Q, tE g (lmE b fe fa) σ H Q → tBM g.K "list" r (tE g fe) (tCons (tE g fa) tNil) σ H Q := by
  rintro σ H Q ⟨S, ρ, rp, h⟩
  refine tE_bind (P := fun z => PostE g S H σ ρ z Q) exE PostE.bad rp h fun p S1 H1 v1 t1 r1 e1 h => ?_
  unfold lmK at h
  split at h
  rotate_left
  · exact h.elim
  rename_i hl
  refine ⟨?_, ?_⟩
  · cases p0 : peek p.2 p.1 with
    | none => rw [p0] at hl; cases hl
    | some d0 =>
      rw [p0] at hl
      cases d0 with
      | list ds =>
        obtain ⟨a, xs, rfl, q, _⟩ := (peek_ok r1 e1 p0).lst
        exact .inl ⟨rfl, xs, q.sq⟩
      | _ => cases hl
  · refine tE_bind (P := fun z => PostE g S1 H1 σ p.2 z Q) exE PostE.bad r1 (h.from t1) fun q S2 H2 v2 t2 r2 e2 h => ?_
    obtain ⟨e, he, out⟩ := resE_out t2 r2 h
    have e1' := e1.mono r1 t2
    cases p1 : peek q.2 p.1 with
    | none => rw [p1] at he; cases he
    | some d1 =>
      rw [p1] at he
      cases p2 : peek q.2 q.1 with
      | none => rw [p2] at he; cases he
      | some d2 =>
        rw [p2] at he
        exact ho S2 H2 v1 v2 d1 d2 e Q (peek_ok r2 e1' p1) (peek_ok r2 e2 p2) he out
section
variable {X : Cx} {A0 : Ax} {W : WX} {o e : Expr} {fe fa : SE} {apos cpos : Pos}
theorem g_count (hu : X.A.units + 65 < cLine) (ho : PE X o (tE (gc X A0 W) fe)) (ha : PE X e (tE (gc X A0 W) fa)) (hbase : attributeBase o "count" X.env (eval o X.env) = eval o X.env := by rfl)
    (hfew : ((backTo cpos (starEach [e] X.env)).all (fun x => !x.1) && (backToKw cpos (keywordEach [] X.env)).all (fun x => x.1.isSome)
      && decide (([e] : List Expr).length + ([] : List Keyword).length + (if ([] : List Keyword).isEmpty then 0 else 1) < 30)) = true := by rfl)
    (hline : (apos.endLine == cpos.line) = true := by rfl) (hs : starEach [e] X.env = (false, eval e X.env) :: starEach [] X.env := by rfl) (hplain : (backTo cpos (starEach [] X.env)).any (·.1) = false := by rfl) :
    PE X (.Call (.Attribute o "count" apos) [e] [] cpos) (tE (gc X A0 W) (lmE countD fe fa)) := by
  refine PE_imp (pe_bm PySem.F.plainAttrs_list PySem.F.slot_list_count PySem.F.type_list_count (mt_countD hu) ho (pa_cons ha pa_nil hs) hbase hfew hline hs hplain) (lm_ok fun S H x y d1 d2 e Q h1 h2 he out => ?_)
  unfold countD at he
  cases d1 with
  | list ds =>
    simp only at he
    split at he
    · rename_i hc
      simp only [Bool.and_eq_true] at hc
      cases he
      obtain ⟨a, xs, rfl, _⟩ := h1.lst
      exact ⟨a, y, d2, ds, rfl, rfl, h1.dp (shaped_lay hc.1), h2.dp (shaped_lay hc.2), hc.1, hc.2, outInt out⟩
    · cases he
  | _ => cases he
theorem g_indexL (hu : X.A.units + 65 < cLine) (ho : PE X o (tE (gc X A0 W) fe)) (ha : PE X e (tE (gc X A0 W) fa)) (hbase : attributeBase o "index" X.env (eval o X.env) = eval o X.env := by rfl)
    (hfew : ((backTo cpos (starEach [e] X.env)).all (fun x => !x.1) && (backToKw cpos (keywordEach [] X.env)).all (fun x => x.1.isSome)
      && decide (([e] : List Expr).length + ([] : List Keyword).length + (if ([] : List Keyword).isEmpty then 0 else 1) < 30)) = true := by rfl)
    (hline : (apos.endLine == cpos.line) = true := by rfl) (hs : starEach [e] X.env = (false, eval e X.env) :: starEach [] X.env := by rfl) (hplain : (backTo cpos (starEach [] X.env)).any (·.1) = false := by rfl) :
    PE X (.Call (.Attribute o "index" apos) [e] [] cpos) (tE (gc X A0 W) (lmE indexLD fe fa)) := by
  refine PE_imp (pe_bm PySem.F.plainAttrs_list PySem.F.slot_list_index PySem.F.type_list_index (mt_indexD hu) ho (pa_cons ha pa_nil hs) hbase hfew hline hs hplain) (lm_ok fun S H x y d1 d2 e Q h1 h2 he out => ?_)
  unfold indexLD at he
  cases d1 with
  | list ds =>
    simp only at he
    split at he
    · rename_i hc
      simp only [Bool.and_eq_true] at hc
      cases pl : placeD d2 ds 0 with
      | none => rw [pl] at he; cases he
      | some j =>
        rw [pl] at he
        cases he
        obtain ⟨i, z, ej, g1, g2, g3⟩ := placeD_ok pl
        rw [Nat.zero_add] at ej
        subst ej
        obtain ⟨a, xs, rfl, _⟩ := h1.lst
        exact ⟨a, y, d2, ds, j, z, rfl, rfl, h1.dp (shaped_lay hc.1), h2.dp (shaped_lay hc.2), hc.1, hc.2, g1, g2, g3, outInt out⟩
    · cases he
  | _ => cases he
end
end G
set_option maxHeartbeats 2000000
namespace G
open PySem PySem.Spec PyProof.Rows L2
/-! ### a lambda is made: the tables grow, all else stays -/
def GrowT (H H' : Hp) : Prop := ∀ b o, H b = some o → H' b = some o ∨ (isTb o ∧ ∃ o', isTb o' ∧ H' b = some o')
theorem GrowT.refl (H : Hp) : GrowT H H := fun _ _ h => .inl h
theorem GrowT.keep {H H' : Hp} (g : GrowT H H') {b : Addr} {o : HO} (h : H b = some o) (n : ¬ isTb o) : H' b = some o := by
  rcases g b o h with q | ⟨q, _⟩
  · exact q
  · exact (n q).elim
theorem GrowT.some {H H' : Hp} (g : GrowT H H') {b : Addr} (h : ∃ o, H b = some o) : ∃ o, H' b = some o := by
  obtain ⟨o, h⟩ := h
  rcases g b o h with q | ⟨_, o', _, q⟩
  · exact ⟨o, q⟩
  · exact ⟨o', q⟩
section
variable {X : Cx} {pins : List (Addr × Obj)} {σ : L2.St} {H : Hp} {s : Shared}
abbrev lamO (X : Cx) (params : Arguments) (body : Expr) (scope : Scope) (pm ctv : Value) (c' : Addr) : Obj := PySem.W.kla_obj "<lambda>" (X.env.qual ++ "<lambda>") params body scope (cloFrom X.env.cells scope.names []) pm c' ctv
/-- a table with one more entry still tells the names -/
theorem tabs_more {T : List (Addr × Str)} {P c' : Addr} {q : Str} {pos : Pos} {ps : Array Value} (hT : LamX.Tabs T H) (hP : H P = some (.tbl ps)) (hu : ∀ p ∈ T, p.1 = P → p.2 = q) (nC : H c' = none) (ht : TriplesOk ps.toList) :
    LamX.Tabs T (upd (upd H P (.tbl (ps ++ #[rawInt pos.line, rawInt pos.col, .ref c']))) c' (LamX.CodeO c' q)) ∧ GrowT H (upd (upd H P (.tbl (ps ++ #[rawInt pos.line, rawInt pos.col, .ref c']))) c' (LamX.CodeO c' q)) := by
  have nPc : P ≠ c' := ne_of_none hP nC
  have far : ∀ b o, H b = some o → b ≠ P → upd (upd H P (.tbl (ps ++ #[rawInt pos.line, rawInt pos.col, .ref c']))) c' (LamX.CodeO c' q) b = some o := fun b o e n => by
    rw [upd_ne (ne_of_none e nC), upd_ne n, e]
  have code : ∀ b x, H b = some (LamX.CodeO b x) → upd (upd H P (.tbl (ps ++ #[rawInt pos.line, rawInt pos.col, .ref c']))) c' (LamX.CodeO c' q) b = some (LamX.CodeO b x) := fun b x e => far b _ e fun z => by
    rw [z, hP] at e
    exact LamX.codeO_ne _ (Option.some.inj e).symm
  refine ⟨fun p hp => ?_, fun b o e => ?_⟩
  · obtain ⟨qs, q1, q2, q3⟩ := hT p hp
    by_cases hb : p.1 = P
    · rw [hb, hP] at q1
      cases q1
      refine ⟨ps ++ #[rawInt pos.line, rawInt pos.col, .ref c'], by rw [hb, upd_ne nPc, upd_same], by rw [Array.toList_append]; exact PySem.TriplesOk_snoc _ _ _ _ ht, fun p' cv hcv => ?_⟩
      rw [Array.toList_append] at hcv
      rcases LamX.among_app _ ht hcv with z | z
      · obtain ⟨c0, e1, e2⟩ := q3 p' cv z
        exact ⟨c0, e1, code _ _ e2⟩
      · exact ⟨c', z, by rw [hu p hp hb]; exact upd_same⟩
    · refine ⟨qs, far _ _ q1 hb, q2, fun p' cv hcv => ?_⟩
      obtain ⟨c0, e1, e2⟩ := q3 p' cv hcv
      exact ⟨c0, e1, code _ _ e2⟩
  · by_cases hb : b = P
    · subst hb
      rw [hP] at e
      cases e
      exact .inr ⟨(trivial : isTb (.tbl ps)), .tbl (ps ++ #[rawInt pos.line, rawInt pos.col, .ref c']), trivial, by rw [upd_ne nPc]; exact upd_same⟩
    · exact .inl (far b o e hb)
theorem lam_mk {T : List (Addr × Str)} {c P : Addr} {params : Arguments} {body : Expr} {scope : Scope} {pos : Pos} {E Q : Value → Shared → Prop} (I : Inv X pins σ H s) (TB : LamX.TabB X.base X.mg c P) (hcode : X.env.code = .ref c)
    (hm : (P, X.env.qual ++ "<lambda>") ∈ T) (hu : ∀ p ∈ T, p.1 = P → p.2 = X.env.qual ++ "<lambda>") (hT : LamX.Tabs T H) (hdef : defaultsOf params X.env = ([], [])) (hfree : ∀ y ∈ scope.names, y.2 = .free → ∃ c, X.env.cells.lookup y.1 = some c)
    (h : ∀ (f c' : Addr) (pm ctv : Value) (H1 : Hp) (s' : Shared), Inv X pins σ H1 s' → GrowT H H1 → LamX.Tabs T H1 → s'.heap.get? f = some (lamO X params body scope pm ctv c') → H1 f = none → f ∉ frs X.stack → H1 c' = some (LamX.CodeO c' (X.env.qual ++ "<lambda>")) → Q (.ref f) s') :
    wpAny (model X.prog X.w) X.A (eval (.Lambda params body scope pos) X.env) Q E s := by
  obtain ⟨ps, hP, ht, ha⟩ := hT _ hm
  have at_ : s.heap.get? P = some (PySem.W.tabObj ps) := I.hok P _ hP
  have out : ∀ f, s.heap.objs.size ≤ f → f ∉ frs X.stack := fun f hf z => by
    rcases List.mem_cons.mp (I.stkSub _ z) with e | e
    · exact absurd I.lt (by rw [← e]; exact Nat.not_lt.mpr hf)
    · exact I.nofs hf e
  refine PySem.W.kla_eval hdef ?_
  cases hc : codeAmong pos ps.toList with
  | some cv =>
    obtain ⟨c', rfl, hco⟩ := ha pos cv hc
    exact PySem.W.kla_makeFunctionHit (mg := X.mg) (c := c) (P := P) (ps := ps) (closure_ok hfree) I.ok.glob (I.mod.glob.keeps I.bk) hcode (TB.code.keeps I.bk) at_ ht hc (TB.bm.keeps I.bk) fun ctv h' tk hx hsz =>
      h h'.objs.size c' _ ctv H _ (I.kept fun b o e => Heap.get?_push_of_some _ (hx b o e)) (GrowT.refl H) hT (Heap.get?_push_size _ rfl) (I.hok.fresh hsz) (out _ hsz) hco
  | none =>
    refine PySem.W.kla_makeFunction (mg := X.mg) (c := c) (P := P) (ps := ps) (closure_ok hfree) I.ok.glob (I.mod.glob.keeps I.bk) hcode (TB.code.keeps I.bk) at_ ht hc TB.gP (TB.bm.keeps I.bk) fun c' ctv h' tk hx hge hlt hrec htb => ?_
    obtain ⟨c2, oc, vs, t, e2, hoc, hd, hv⟩ := hrec
    cases e2
    have hsz : s.heap.objs.size ≤ h'.objs.size := Nat.le_trans hge (Nat.le_of_lt hlt)
    have nC : H c' = none := I.hok.fresh hge
    obtain ⟨t1, t2⟩ := tabs_more (pos := pos) hT hP hu nC ht
    refine h h'.objs.size c' _ ctv _ _ (LamX.inv_table (t' := tk) (more := #[rawInt pos.line, rawInt pos.col, .ref c']) I hP (fun b o hb e => Heap.get?_push_of_some _ (hx b o hb e)) (Heap.get?_push_of_some _ htb) hge ⟨oc, vs, t, Heap.get?_push_of_some _ hoc, hd, hv⟩) t2 t1 (Heap.get?_push_size _ rfl) ?_ (out _ hsz) upd_same
    rw [upd_ne (Nat.ne_of_gt hlt), upd_ne (Nat.ne_of_gt (Nat.lt_of_lt_of_le (Heap.lt_size at_) hsz))]
    exact I.hok.fresh hsz
end
/-- what is told holds when tables have grown -/
theorem Rp.grown {K : PySem.W.Frag} {A0 : Ax} {S : Addr → Prop} {H H' : Hp} {σ : St} {ρ : List B} (r : Rp K A0 S H σ ρ) (g : GrowT H H') (tb : LamX.Tabs A0.g.T H') : Rp K A0 S H' σ ρ ∧ Tr S H (Ow σ ρ) S H' (Ow σ ρ) := by
  have x : Ex S H S H' := ⟨fun _ h => h, fun a o _ n h => h.imp (fun q => g.keep q n) fun ⟨q, od, z⟩ => ⟨q, od, g.keep z fun z => z⟩, fun a xs h => g.keep h fun z => z, fun a o u h => g.keep h fun z => z⟩
  have own : ∀ {a : Addr} {d : PyData}, OwnAt K S H a d → OwnAt K S H' a d := fun ⟨o, e, c⟩ => ⟨o, g.keep e c.notTb, c.ex x⟩
  refine ⟨⟨r.len, fun i b e => ?_, r.dis, fun a h => g.some (r.al a h), r.np, fun j a h => g.some (r.aa j a h), tb⟩, fun _ h => h, fun a o h _ => (g a o h).imp id .inr, fun a o h => g.some ⟨o, h⟩, fun _ h => .inl h, fun _ h => .inl h⟩
  have q := r.bd i b e
  cases b with
  | un => trivial
  | exc n => exact q
  | val d => obtain ⟨v, e1, e2⟩ := q; exact ⟨v, e1, e2.ex x⟩
  | own d => obtain ⟨a, e1, e2, e3⟩ := q; exact ⟨a, e1, e2, own e3⟩
  | prm d => obtain ⟨a, e1, e0, e2, e3⟩ := q; exact ⟨a, e1, e0, e2, own e3⟩
/-- what is told holds behind a piece of work that writes none of ours -/
theorem Rp.around {K : PySem.W.Frag} {A0 : Ax} {S S' : Addr → Prop} {H H' : Hp} {σ : St} {ρ : List B} {O' : Addr → Prop} (r : Rp K A0 S H σ ρ) (t : Tr S H (fun _ => False) S' H' O') (al : ∀ a, S' a → ∃ o, H' a = some o) (tb : LamX.Tabs A0.g.T H') : Rp K A0 S' H' σ ρ ∧ Tr S H (Ow σ ρ) S' H' (Ow σ ρ) := by
  have x : Ex S H S' H' := Ex.of_tr (K := K) t (fun _ _ z => z) fun _ z => z.elim
  have own : ∀ {a : Addr} {d : PyData}, ¬ S a → OwnAt K S H a d → ¬ S' a ∧ OwnAt K S' H' a d := fun {a d} n ⟨o, e, c⟩ => by
    have n' : ¬ S' a := fun z => by
      rcases t.g a z with q | q | q
      · exact n q
      · exact q
      · rw [e] at q; cases q
    exact ⟨n', o, t.keepS e (fun z => z) n' c.notTb, c.ex x⟩
  refine ⟨⟨r.len, fun i b e => ?_, r.dis, al, r.np, fun j a h => let ⟨o, e⟩ := r.aa j a h; t.dom a o e, tb⟩, t.s, fun a o h _ => t.keep a o h fun z => z, t.dom, fun _ h => .inl h, fun a h => (t.g a h).imp id (Or.imp False.elim id)⟩
  have q := r.bd i b e
  cases b with
  | un => trivial
  | exc n => exact q
  | val d => obtain ⟨v, e1, e2⟩ := q; exact ⟨v, e1, e2.ex x⟩
  | own d => obtain ⟨a, e1, e2, e3⟩ := q; obtain ⟨q1, q2⟩ := own e2 e3; exact ⟨a, e1, q1, q2⟩
  | prm d => obtain ⟨a, e1, e0, e2, e3⟩ := q; obtain ⟨q1, q2⟩ := own e2 e3; exact ⟨a, e1, e0, q1, q2⟩
end G
set_option maxHeartbeats 2000000
namespace G
open PySem PySem.Spec PyProof.Rows L2
/-! ### the lambda is called, by the def that was handed it: the maker's slots are read -/
theorem units_of {k : Nat} {A : Around} (r : Room k A) : A.units + 150 < cLine := by have := r.un; omega
section
variable {X : Cx} {pins : List (Addr × Obj)} {σ : L2.St} {H : Hp} {s : Shared}
theorem lam_act {CXg : CXT} {Eg : XK} {Ng : List Str} {qg : Str} {sg : Scope} {g f c' : Addr} {cdg pm ctv : Value} {params : Arguments} {body : Expr} {scope : Scope} {k i : Nat} {a : Str} {pn : List (Addr × Obj)} {xe : Value → Shared → Prop} {W : WX} {A0 : Ax} {fe : SE} {p1 p2 : Pos}
    (I : Inv X pins σ H s) (L : LamX.LamS X.env.scope scope) (at_ : s.heap.get? f = some (lamO X params body scope pm ctv c')) (nf : H f = none) (nfr : f ∉ frs X.stack)
    (bind0 : bindArgs (PySem.W.kla_fn "<lambda>" (X.env.qual ++ "<lambda>") params body scope (cloFrom X.env.cells scope.names []) pm (.ref c') ctv) ⟨[], []⟩ = pure [])
    (tk : Takes ((cxOf CXg X.prog X.w X.K X.mg X.base Ng qg sg g cdg X.A X.stack s H Eg).tr pn xe) W) (hr : Room (k + 1) (X.A.deeper (envOfC qg sg s.heap.objs.size g cdg))) (gd : X.A.guards = some []) (sys : SysOk X.base)
    (hbody : ∀ (A : Around) (outer : List Env) (s : Shared) (H : Hp) (E : XK), Room k (LamX.lamCx X A outer s H E scope f c').A → GX (LamX.lamCx X A outer s H E scope f c') → Takes (LamX.lamCx X A outer s H E scope f c') (WF E) → PE (LamX.lamCx X A outer s H E scope f c') body (tE ⟨X.K, X.mg, A0, WF E⟩ fe))
    (hN : Ng[i]? = some a) (hv : Vis sg a) (hd : (a == ("__debug__" : Str)) = false) (hcd : (a == ("__classdict__" : Str)) = false) :
    PE ((cxOf CXg X.prog X.w X.K X.mg X.base Ng qg sg g cdg X.A X.stack s H Eg).tr pn xe) (.Call (.Name a p1) [] [] p2)
      (fun σZ HZ Q => σZ[i]? = some (some (.ref f)) ∧ HZ c' = some (LamX.CodeO c' (X.env.qual ++ "<lambda>")) ∧ tE ⟨X.K, X.mg, A0, WF (WE W σZ)⟩ fe σ HZ Q) := by
  refine ⟨fun pinsZ sZ σZ HZ Q IZ q0 => ?_⟩
  obtain ⟨hs, hc, ht⟩ := q0
  refine wpAny_Call_Name_kw (thn ((pe_var (pos := p1) (i := i) hN hv hd hcd).run pinsZ sZ σZ HZ (fun v H1 => v = .ref f ∧ H1 = HZ) IZ ⟨_, hs, rfl, rfl⟩) fun u s1 q1 => ?_)
  obtain ⟨v, H1, I1, r1, rfl, rfl⟩ := q1
  cases r1
  have un : Un (frs X.stack) [] H H1 s.heap s1.heap := I1.base
  have now := un.keep f _ at_ nf nfr (fun z => nomatch z)
  obtain ⟨⟨oc, vs, t, hoc, hdc, hvc⟩, _, _⟩ := I1.hok c' _ hc
  refine PySem.W.callWith_F0 ⟨_, _, _, _, now⟩ (wpAny_call (codeAny_mono (R := CR (L2.CX X.prog X.w) (envOfC qg sg s.heap.objs.size g cdg :: X.stack) X.prog X.w H1 s1 Q (WE W σZ)) ?_ fun r s' hq => ?_))
  · refine PySem.W.kla_callFunE hr.depth now rfl L.co L.gen rfl ⟨c', oc, vs, t, rfl, hoc, hdc, hvc⟩ ?_
    rw [show ([] ++ [] : List Value) = [] from rfl, bind0]
    refine wpAny_pure (wpAny_newFunctionEnv (fun y hy => (L.own y hy).2) (fun y hy => absurd hy (by simp)) (fun h₁ hns hsb => ⟨I1.nolimit.fresh _ hsb, ?_⟩) L.kind)
    have kp : ∀ b o, s1.heap.get? b = some o → h₁.get? b = some o := fun b o e => hsb.extBut b o (Nat.ne_of_lt (Heap.lt_size e)) (Heap.get?_push_of_some _ e)
    have J := LamX.lam_start2 (E := WE W σZ) (f := f) (c' := c') (tk := s1.toks + ([] : List (Str × Value)).length) I L I1.env0 hr.hd un hns kp
    have rk := hr.deeper (LamX.lamEnv X scope s1.heap.objs.size f c')
    refine PySem.W.kla_codeExpr (wpAny_mono ((hbody _ _ s1 H1 (WE W σZ) rk ⟨gd, sys, units_of rk⟩ (takes_of rfl rfl rfl rfl)).run [] _ _ H1 Q J ht) (fun v s' hq => ?_) fun e s' hq => hq)
    obtain ⟨w', H', J', rv, q⟩ := hq
    exact ⟨w', H', J'.os, J'.bare, J'.base, J'.hok, rv, q⟩
  · cases r with
    | error e => exact passAt tk σZ pinsZ H1 s1 e s' I1 hq
    | ok fl =>
      cases fl with
      | ret u => exact I1.after hq
      | _ => exact False.elim hq
end
/-! ### defs that are called while an exception is handled -/
section
variable {P : Program} {w : World} {K : PySem.W.Frag} {mg : Str → Option Value} {base : Heap} {Γ : Gx}
/-- what the frames of an except suite know besides -/
def Gx.hot (Γ : Gx) (a C : Addr) : Gx := { Γ with pa := a, pc := C }
abbrev cxHot (P : Program) (w : World) (K : PySem.W.Frag) (mg : Str → Option Value) (base : Heap) (N : List Str) (qual : Str) (scope : Scope) (f : Addr) (cd : Value) (A : Around) (outer : List Env) (s : Shared) (H : Hp) (p : Addr × Obj) : Cx :=
  L2H.cxH C8.CX0 P w K mg base N qual scope f cd A outer s H C8.E0 p
structure FnGH (P : Program) (w : World) (K : PySem.W.Frag) (mg : Str → Option Value) (base : Heap) (Γ : Gx) (k : Nat) (f : Addr) (fd : FuncData) (ps : List Str) (F : SE) : Prop where
  run : ∀ (A : Around) (outer : List Env) (s : Shared) (H : Hp) (args : Args) (us : List Value) (vs : List V) (Q : VK) (S : Addr → Prop) (bs : List B) (p : Addr × Obj) (C : Addr), L2H.RoomH k A → A.guards = some [] → L2H.PinOk outer H s p → Zc (.ref C) none p.2 → (∃ vs, p.2.data = .fields vs) →
    Env0 P w K mg base A outer s H → BindsTo s fd args (ps.zip us) → Vals vs us → vs.length = ps.length → (∀ (i : Nat) (d : PyData), bs[i]? ≠ some (B.own d)) → Rp K (A0p (Γ.hot p.1 C) vs bs) S H (pst vs) bs → PostF (Γ.hot p.1 C) K mg S H vs bs (F bs) Q (fun _ _ _ => False) →
    codeAny (model P w) A (.call (.ref f) args) (CR C8.CX0 outer P w H s Q C8.E0) s
theorem fnGH_of {dV : Value} {x qual : Str} {st : Stmt} {f : Addr} {fd : FuncData} {N ps : List Str} {k : Nat} {body : SS} (F : FnEx K dV x qual st f fd) (S : FnScope N ps (defScope st)) (sys : SysOk base)
    (hbody : ∀ (cdv : Value), CodeAt K f cdv → ∀ (A : Around) (outer : List Env) (s : Shared) (H : Hp) (p : Addr × Obj) (C : Addr) (A0 : Nat → Option Addr), L2H.RoomH k (cxHot P w K mg base N qual (defScope st) f cdv A outer s H p).A → GX (cxHot P w K mg base N qual (defScope st) f cdv A outer s H p) →
      HotX (cxHot P w K mg base N qual (defScope st) f cdv A outer s H p) (Γ.hot p.1 C) →
      PSs (cxHot P w K mg base N qual (defScope st) f cdv A outer s H p) (defBody st) (tSt (gc (cxHot P w K mg base N qual (defScope st) f cdv A outer s H p) ⟨A0, Γ.hot p.1 C⟩ W0) body)) :
    FnGH P w K mg base Γ (k + 1) f fd ps (defF N.length body) := by
  obtain ⟨oc, od, kV, doc, pm, an, cdv, ct, osl, rfl, lk, hcd⟩ := F
  refine ⟨fun A outer s H args us vs Q S0 bs p C hr hgd hp hz hf e0 hb r hl hbs rp hF => ?_⟩
  have KX : K.In s.heap := e0.mod.kin.keeps fun b o e => (e0.bs b o e).1
  have lim : s.heap.NoLimit := e0.mod.nolimit.keeps fun b o e => (e0.bs b o e).1
  have hpl : ps.length ≤ N.length := by have := congrArg List.length S.pre; rw [List.length_take] at this; omega
  have hkind : ∀ y ∈ ps.zip us, (defScope st).names.lookup y.1 = some .local ∨ ((defScope st).names.lookup y.1 = some .cell ∧ ((cellsFrom (s.heap.objs.size + 1) (defScope st).names []).lookup y.1).isSome = true) := fun ⟨n, v⟩ hy => by
    rcases S.par n (List.of_mem_zip hy).1 with q | q
    · exact .inl q
    · exact .inr ⟨q, PySem.W.cellsFrom_some _ _ _ (.inl q)⟩
  refine codeAny_call_function hr.depth (KX _ _ lk) rfl S.co S.gen rfl (PySem.W.codeRec_of KX hcd) (hb _ _ _ _ ?_)
  refine wpAny_newFunctionEnv_cells S.kind hkind fun env he s1 x => ?_
  subst he
  refine ⟨lim.keeps x.toInCall.keep, codeAny_func ?_⟩
  have hrd : L2H.RoomH k (A.deeper (envOfC qual (defScope st) s.heap.objs.size f cdv)) := hr.deeper _
  have ht := hbody cdv ⟨oc, od, _, osl, lk, rfl⟩ A outer s H p C (A0f vs bs) hrd ⟨hgd, sys, by have := hrd.un; show (A.deeper (envOfC qual (defScope st) s.heap.objs.size f cdv)).units + 150 < _; omega⟩ ⟨p.2, List.mem_singleton.mpr rfl, hz, hf⟩
  have I := L2H.inv_startH S hp e0 hl r x (CX := C8.CX0) (P := P) (E := C8.E0)
  obtain ⟨rp', _⟩ := rp.begin_ (N := N) (by omega)
  refine wpAny_mono (ht.run [] s1 (L2.start N vs) H { nx := fun _ H' => Q .non H', rt := Q } I ⟨S0, _, rp', body_reads (by omega) hbs rp hF⟩) (fun fl s' hs => ?_) fun e s' hs => hs
  have fin : ∀ {σ' : St} {H' : Hp} {v : V} {u : Value} {s' : Shared}, Inv (cxHot P w K mg base N qual (defScope st) f cdv A outer s H p) [] σ' H' s' → RelV v u → Q v H' → CE outer P w H s Q u s' :=
    fun {σ' H' v u s'} J rv q => ⟨v, H', J.os, J.bare, J.base, J.hok, rv, q⟩
  cases fl with
  | ret u =>
    obtain ⟨v, σ', H', J, rv, q⟩ := hs
    exact fin J rv q
  | next =>
    obtain ⟨σ', H', J, q⟩ := hs
    exact fin (v := V.non) (u := Value.none) J rfl q
  | brk =>
    obtain ⟨_, _, _, q⟩ := hs
    exact False.elim q
  | cont =>
    obtain ⟨_, _, _, q⟩ := hs
    exact False.elim q
structure CalledH (P : Program) (w : World) (K : PySem.W.Frag) (mg : Str → Option Value) (base : Heap) (Γ : Gx) (k : Nat) (x : Str) (ps : List Str) (F : SE) : Prop where
  ex : ∃ (f : Addr) (fd : FuncData), FnGH P w K mg base Γ k f fd ps F ∧ mg x = some (.ref f) ∧ PySem.W.keepIn K (.ref f) = true ∧ Binds K fd ps []
theorem calledH_of {k : Nat} {dV : Value} {x : Str} {ps : List Str} {F : SE} {st : Stmt} {f : Addr} {fd : FuncData} (h : FnK K mg dV x st ps f fd) (b : Binds K fd ps []) (g : FnGH P w K mg base Γ k f fd ps F) : CalledH P w K mg base Γ k x ps F := ⟨⟨f, fd, g, h.at_, h.kp, b⟩⟩
end
section
variable {X : Cx} {f0 : Nat → Option Addr} {Γ : Gx} {a C : Addr} {k j : Nat} {ps : List Str} {F : SE} {x : Str} {p pos : Pos} {e : Expr} {es : List Expr} {fa : SA}
theorem gcallH (ms : List Bool) (c : CalledH X.prog X.w X.K X.mg X.base Γ k x ps F) (hr : L2H.RoomH j X.A) (gx : GX X) (hx : HotX X (Γ.hot a C)) (ha : PA X (e :: es) (tA (gc X ⟨f0, Γ.hot a C⟩ W0) fa)) (hj : k ≤ j := by decide) (hn : (ms.length == ps.length) = true := by rfl) (hg : Gl X x := by rfl) (hdb : (x == ("__debug__" : Str)) = false := by decide)
    (he : starEach (e :: es) X.env = (false, eval e X.env) :: starEach es X.env := by rfl) (hpl : (backTo pos (starEach es X.env)).any (·.1) = false := by rfl) :
    PE X (.Call (.Name x p) (e :: es) [] pos) (tE (gc X ⟨f0, Γ.hot a C⟩ W0) (callF ms F [] fa)) := by
  obtain ⟨f, fd, gg, hm, hk, hb⟩ := c.ex
  obtain ⟨oe, hp, hz, hf⟩ := hx
  have run : PE X (.Call (.Name x p) (e :: es) [] pos) (tCallG (spG (Γ.hot a C) X.K X.mg ps.length [] F) (WE W0) (tA (gc X ⟨f0, Γ.hot a C⟩ W0) fa)) := by
    refine ⟨fun pins s σ H Q I h => ?_⟩
    refine wpAny_Call_Name_kw (ld_glob I hg hm ?_ hdb)
    refine PySem.W.callWith_K (h₀ := X.base) I.ok.mod.kin hk (thn (ha.run pos pins s σ H _ I h) fun us s1 ⟨vs, H1, I1, r, hl, S, bs, hbs, rp, q⟩ => ⟨I1.kIn, ?_⟩) he hpl
    rw [List.append_nil] at hl rp q
    obtain ⟨p1, p2, p3, p4, p5⟩ := I1.pin _ (List.mem_append_left _ hp)
    have nofs : a ∉ frs X.stack := fun z => by
      rcases List.mem_cons.mp (I1.stkSub _ z) with y | y
      · exact p3 y
      · exact p4 y
    refine wpAny_call (codeAny_mono (gg.run X.A X.stack s1 H1 ⟨us, []⟩ us vs Q S bs (a, oe) C (hr.mono hj) gx.gd ⟨p1, p2, nofs, p5⟩ hz hf I1.env0 (by
      have := hb s1 us I1.kIn (by rw [List.append_nil, ← r.length]; exact hl)
      rw [List.append_nil] at this
      exact this) r hl hbs rp q) fun r s' hq => ?_)
    cases r with
    | error e => exact (show False from hq).elim
    | ok fl =>
      cases fl with
      | ret u => exact I1.after hq
      | _ => exact False.elim hq
  exact PE_imp run (callG_ok (A0 := ⟨f0, Γ.hot a C⟩) .nil fun vs es h ρ es' ρ' q => by rw [List.append_nil, cv1_len h q]; exact eq_of_beq hn)
end
end G
set_option maxHeartbeats 2000000
namespace G
open PySem PySem.Spec PyProof.Rows L2
/-! ### said(lambda: e): repr of e, or what the except suite makes of the exception's name -/
def saidH (HS : SS) (n : Str) (ρ1 : List B) : Rs (Ev × List B) := match HS [.un, .exc n, .un] with
  | .ok (.rt (.val (.str m)) _) => .ok (.val (.str m), ρ1)
  | _ => .bad
def saidK (ns : List Str) (HS : SS) : Rs (Ev × List B) → Rs (Ev × List B)
  | .ok (ev, ρ1) => resE ρ1 ((peek ρ1 ev).bind fun d => reprD [d])
  | .ex n ρ1 => if ns.contains n = true then saidH HS n ρ1 else .bad
  | .bad => .bad
def saidE (ns : List Str) (HS : SS) (fe : SE) : SE := fun ρ => saidK ns HS (fe ρ)
/-- what must be known of the def that is handed the lambda -/
structure SaidDef (P : Program) (w : World) (K : PySem.W.Frag) (mg : Str → Option Value) (base : Heap) (Γ : Gx) (k : Nat) (x : Str) (HS : SS) : Prop where
  ex : ∃ (g CG : Addr) (pg : Arguments) (bg : List Stmt) (sg : Scope) (dV kV doc pm cdv ct oc : Value) (an od : Option Addr) (osl : Array (Option Value)) (b0 : Stmt) (suite : List Stmt) (N : List Str) (p1 p2 p3 p4 p5 p6 p7 p8 : Pos),
    mg x = some (.ref g) ∧ PySem.W.keepIn K (.ref g) = true ∧ K.lookup g = some ⟨oc, od, .func (PySem.W.fnOf x x pg bg sg dV kV doc pm an cdv ct), osl⟩ ∧ PySem.W.codeIn K cdv x = true ∧ Binds K (PySem.W.fnOf x x pg bg sg dV kV doc pm an cdv ct) ["_law_call"] [] ∧
    FnScope N ["_law_call"] sg ∧ N = (["_law_call", "_law_error", "_law_name"] : List Str) ∧ Vis sg "_law_call" ∧ sg.names.lookup ("_law_error" : Str) = some NameKind.local ∧ sg.names.lookup ("GridsymError" : Str) = some NameKind.globalImplicit ∧ sg.names.lookup ("repr" : Str) = some NameKind.globalImplicit ∧
    bg = [.Try [.Return (some (.Call (.Name "repr" p1) [.Call (.Name "_law_call" p2) [] [] p3] [] p4)) p5] [.ExceptHandler (some (.Name "GridsymError" p6)) (some "_law_error") (b0 :: suite) p7] [] [] p8] ∧
    mg "GridsymError" = some (.ref CG) ∧ mg "repr" = none ∧ (∀ q ∈ Γ.es, PySem.W.exmOne K (.ref q.2) (.ref CG) = some true) ∧
    ∀ (A : Around) (outer : List Env) (s : Shared) (H : Hp) (a C : Addr) (oe : Obj) (pn : List (Addr × Obj)), Room k (cxOf C8.CX0 P w K mg base N x sg g cdv A outer s H C8.E0).A → GX (cxOf C8.CX0 P w K mg base N x sg g cdv A outer s H C8.E0) → Zc (.ref C) none oe → (∃ vs, oe.data = .fields vs) →
      PSs ((cxOf C8.CX0 P w K mg base N x sg g cdv A outer s H C8.E0).suite a ((a, oe) :: pn)) (b0 :: suite) (tSt ⟨K, mg, ⟨fun _ => none, Γ.hot a C⟩, W0⟩ HS)
/-- what must be known of the def that makes lambdas -/
structure Maker (K : PySem.W.Frag) (mg : Str → Option Value) (base : Heap) (Γ : Gx) (f : Addr) (q : Str) : Prop where
  ex : ∃ (c P : Addr), CodeAt K f (.ref c) ∧ LamX.TabB base mg c P ∧ (P, q) ∈ Γ.T ∧ ∀ p ∈ Γ.T, p.1 = P → p.2 = q
theorem Maker.code {K : PySem.W.Frag} {mg : Str → Option Value} {base : Heap} {Γ : Gx} {f : Addr} {q : Str} {cdv : Value} (m : Maker K mg base Γ f q) (h : CodeAt K f cdv) : ∃ (c P : Addr), cdv = .ref c ∧ LamX.TabB base mg c P ∧ (P, q) ∈ Γ.T ∧ ∀ p ∈ Γ.T, p.1 = P → p.2 = q := by
  obtain ⟨c, P, ⟨oc, od, fd, osl, e1, e2⟩, r⟩ := m.ex
  obtain ⟨oc', od', fd', osl', e3, e4⟩ := h
  rw [e1] at e3
  cases e3
  exact ⟨c, P, by rw [← e4, e2], r⟩
section
variable {X : Cx} {A0 : Ax} {W : WX} {x : Str} {HS : SS} {k : Nat} {fm : Addr} {cdv : Value} {params : Arguments} {body : Expr} {scope : Scope} {fe : SE} {p lpos pos : Pos}
theorem g_said (ns : List Str) (sd : SaidDef X.prog X.w X.K X.mg X.base A0.g (k + 1) x HS) (mk : Maker X.K X.mg X.base A0.g fm (X.env.qual ++ "<lambda>")) (hcd : CodeAt X.K fm cdv) (hr : Room (k + 2) X.A) (gx : GX X) (hes : ∀ n ∈ ns, ∀ C, X.mg n = some (.ref C) → (n, C) ∈ A0.g.es)
    (hbody : ∀ (A : Around) (outer : List Env) (s : Shared) (H : Hp) (E : XK) (f c' : Addr), Room k (LamX.lamCx X A outer s H E scope f c').A → GX (LamX.lamCx X A outer s H E scope f c') → Takes (LamX.lamCx X A outer s H E scope f c') (WF E) → PE (LamX.lamCx X A outer s H E scope f c') body (tE ⟨X.K, X.mg, A0, WF E⟩ fe))
    (hcode : X.env.code = cdv := by rfl) (hL : LamX.lamSB X.env.scope scope = true := by rfl) (hdef : defaultsOf params X.env = ([], []) := by rfl)
    (hbind : ∀ (q : Str) (cl : List (Str × Addr)) (pm cv ctv : Value), bindArgs (PySem.W.kla_fn "<lambda>" q params body scope cl pm cv ctv) ⟨[], []⟩ = pure [] := by exact fun _ _ _ _ _ => rfl)
    (hg : Gl X x := by rfl) (hdb : (x == ("__debug__" : Str)) = false := by decide) :
    PE X (.Call (.Name x p) [.Lambda params body scope lpos] [] pos) (tE (gc X A0 W) (saidE ns HS fe)) := by
  refine ⟨fun pins s σ H Q I hh => ?_⟩
  obtain ⟨S, ρ, rp, h⟩ := hh
  obtain ⟨g, CG, pg, bg, sg, dV, kV, doc, pm, cg, ct, oc, an, od, osl, b0, suite, N, p1, p2, p3, p4, p5, p6, p7, p8, hm, hk, lk, hcg, hb, Sg, hN, hva, hloc, hgl, hgr, ebg, hme, hmr, hexm, hsu⟩ := sd.ex
  obtain ⟨c, P, ec, TB, hmT, hu⟩ := mk.code hcd
  have L := LamX.lamS_by hL
  refine wpAny_Call_Name_kw (ld_glob I hg hm ?_ hdb)
  refine PySem.W.callWith_K (h₀ := X.base) I.ok.mod.kin hk ?_ (by rfl) (by rfl)
  show wpAny _ _ (spliced ((false, eval (.Lambda params body scope lpos) X.env) :: backTo pos (starEach [] X.env))) _ _ s
  refine Calls.spliced_cons (lam_mk I TB (hcode.trans ec) hmT hu rp.tb hdef (L.has I.ok) fun f c' pm' ctv H1 s' I1 gr T1 hf hfn hfr hco => ?_)
  refine Calls.spliced_nil ⟨I1.kIn, ?_⟩
  obtain ⟨rp1, tr1⟩ := rp.grown gr T1
  have rc : codeAny (model X.prog X.w) X.A (.call (.ref g) ⟨[.ref f], []⟩) (CR C8.CX0 X.stack X.prog X.w H1 s' Q C8.E0) s' := by
    refine LamX.run_ofS (N := N) (ps := ["_law_call"]) (us := [.ref f]) (vs := [.ref f]) lk hcg Sg hr I1.env0 (hb s' [.ref f] I1.kIn rfl) (.cons rfl .nil) rfl fun hr' => ?_
    subst ebg hN
    have gxY : GX (cxOf C8.CX0 X.prog X.w X.K X.mg X.base ["_law_call", "_law_error", "_law_name"] x sg g cg X.A X.stack s' H1 C8.E0) := ⟨gx.gd, gx.sys, units_of hr'⟩
    refine ⟨_, pss_one (ps_try_as (X := cxOf C8.CX0 X.prog X.w X.K X.mg X.base ["_law_call", "_law_error", "_law_name"] x sg g cg X.A X.stack s' H1 C8.E0) (c := .ref CG) (i := 1)
      (tb := fun W' D σZ HZ => σZ[0]? = some (some (.ref f)) ∧ HZ c' = some (LamX.CodeO c' (X.env.qual ++ "<lambda>")) ∧ tE ⟨X.K, X.mg, A0, WF (WE W' σZ)⟩ fe σ HZ fun v H2 => ∃ S d, DwAll X.K S H2 [v] [d] ∧ reprOk d = true ∧ D.rt (.str d.shown) H2)
      (ts := fun a cls d D σZ HZ => ∃ C, cls = .ref C ∧ d = none ∧ tSt ⟨X.K, X.mg, ⟨fun _ => none, A0.g.hot a C⟩, W0⟩ HS D σZ HZ)
      rfl rfl Sg.nd rfl hloc ⟨hgl, by decide, .inl hme⟩ takes0 (fun W' pn xe tk _ => ?_) (fun a oe cls d pn hz hfl => ⟨fun pinsZ sZ σZ HZ D IZ hh => ?_⟩)), ?_⟩
    · -- the try's body
      have act := lam_act (A0 := A0) (fe := fe) (p1 := p2) (p2 := p3) I1 L hf hfn hfr (hbind _ _ _ _ _) tk hr' gx.gd gx.sys (fun A outer s H E hr hgx htk => hbody A outer s H E f c' hr hgx htk) (i := 0) rfl hva (by decide) (by decide)
      have gxT : GX ((cxOf C8.CX0 X.prog X.w X.K X.mg X.base ["_law_call", "_law_error", "_law_name"] x sg g cg X.A X.stack s' H1 C8.E0).tr pn xe) := ⟨gxY.gd, gxY.sys, gxY.un⟩
      have rep := pe_callB (p := p1) (pos := p4) (call_repr gxT) hgr hmr PyProof.Rows.boot_repr (pa_cons act pa_nil)
      refine PSs_imp (pss_one (ps_ret (pos := p5) rep)) ?_
      rintro D σZ HZ ⟨z1, z2, z3⟩
      exact ⟨z1, z2, z3⟩
    · -- the suite
      obtain ⟨C, rfl, rfl, t⟩ := hh
      exact (hsu X.A X.stack s' H1 a C oe pn hr' gxY hz hfl).run pinsZ sZ σZ HZ D IZ t
    · refine ⟨rfl, hco, S, ρ, rp1, ?_⟩
      have h1 := h.from tr1
      unfold saidE at h1
      cases e : fe ρ with
      | bad => rw [e] at h1; exact h1.elim
      | ok pr =>
        obtain ⟨ev, ρ1⟩ := pr
        rw [e] at h1
        intro S' H' v t r re
        have h1 : PostE (gc X A0 W) S H1 σ ρ (resE ρ1 ((peek ρ1 ev).bind fun d => reprD [d])) Q := h1
        obtain ⟨ev', he, out⟩ := resE_out (g := gc X A0 W) t r h1
        cases pk : peek ρ1 ev with
        | none => rw [pk] at he; cases he
        | some d =>
          rw [pk] at he
          have he : (if reprOk d = true then some (Ev.val (.str d.shown)) else none) = some ev' := he
          by_cases ok : reprOk d = true
          · rw [if_pos ok] at he
            cases he
            exact ⟨S', d, .cons (peek_ok r re pk) .nil, ok, outStr out⟩
          · rw [if_neg ok] at he
            cases he
      | ex n ρ1 =>
        rw [e] at h1
        have h1 : PostE (gc X A0 W) S H1 σ ρ (if ns.contains n = true then saidH HS n ρ1 else .bad) Q := h1
        by_cases hn : ns.contains n = true
        rotate_left
        · rw [if_neg hn] at h1
          exact h1.elim
        rw [if_pos hn] at h1
        intro S' H' t r C hC
        have mem := hes n (by simpa using hn) C hC
        refine ⟨true, hexm _ mem, fun _ a ha => ?_, nofun⟩
        unfold saidH at h1
        split at h1
        rotate_left
        · exact h1.elim
        rename_i m ρ2 eh
        have noOw : ∀ (b : Addr), ¬ Ow ((L2.start ["_law_call", "_law_error", "_law_name"] [V.ref f]).set 1 (some (.ref a))) [.un, .exc n, .un] b := fun b ⟨i, q, _⟩ => by
          match i, q with
          | 0, q => cases q
          | 1, q => cases q
          | 2, q => cases q
          | i + 3, q => cases q
        refine ⟨C, rfl, rfl, S', [.un, .exc n, .un], ⟨rfl, fun i b hb => ?_, fun i j b q _ => (noOw b ⟨i, q⟩).elim, r.al, fun i d b q _ => ?_, (fun j b q => nomatch q), r.tb⟩, ?_⟩
        · match i, hb with
          | 0, hb => cases hb; trivial
          | 1, hb => cases hb; exact ⟨mem, rfl⟩
          | 2, hb => cases hb; trivial
          | i + 3, hb => cases hb
        · match i, q with
          | 0, q => cases q
          | 1, q => cases q
          | 2, q => cases q
          | i + 3, q => cases q
        · rw [eh]
          intro S2 H2 σ2 t2 r2 v re
          have re : Dr X.K S2 H2 v (.str m) := re
          obtain ⟨r3, t3⟩ := r.around (O' := Ow σ2 ρ2) ⟨t2.s, fun b o q n => t2.keep b o q (noOw b), t2.dom, fun b q => (t2.o b q).imp (fun z => noOw b z) id, fun b q => (t2.g b q).imp id (Or.imp (fun z => noOw b z) id)⟩ r2.al r2.tb
          exact h1 S2 H2 v (t.trans t3) r3 re
  refine wpAny_call (codeAny_mono rc fun r s2 hq => ?_)
  cases r with
  | error e => exact (show False from hq).elim
  | ok fl =>
    cases fl with
    | ret u => exact I1.after hq
    | _ => exact False.elim hq
end
end G
set_option maxHeartbeats 2000000
namespace G
open PySem PySem.Spec PyProof.Rows L2
theorem huh65 {k : Nat} {A : Around} (hr : L2H.RoomH k A) : A.units + 65 < cLine := by have := hr.un; omega
theorem huh1 {k : Nat} {A : Around} (hr : L2H.RoomH k A) : A.units + 1 < cLine := by have := hr.un; omega
theorem huh64 {k : Nat} {A : Around} (hr : L2H.RoomH k A) : A.units + 64 < cLine := by have := hr.un; omega
/-- what is never reached -/
def badE : SE := fun _ => .bad
theorem gbad {X : Cx} {A0 : Ax} {W : WX} {e : Expr} : PE X e (tE (gc X A0 W) badE) := ⟨fun _ _ _ _ _ _ h => let ⟨_, _, _, q⟩ := h; q.elim⟩
theorem SaidDef.mono {P : Program} {w : World} {K : PySem.W.Frag} {mg : Str → Option Value} {base : Heap} {Γ : Gx} {j k : Nat} {x : Str} {HS : SS} (d : SaidDef P w K mg base Γ j x HS) (h : j ≤ k) : SaidDef P w K mg base Γ k x HS := by
  obtain ⟨g, CG, pg, bg, sg, dV, kV, doc, pm, cg, ct, oc, an, od, osl, b0, suite, N, p1, p2, p3, p4, p5, p6, p7, p8, q1, q2, q3, q4, q5, q6, q7, q8, q9, q10, q11, q12, q13, q14, q15, q16⟩ := d.ex
  exact ⟨g, CG, pg, bg, sg, dV, kV, doc, pm, cg, ct, oc, an, od, osl, b0, suite, N, p1, p2, p3, p4, p5, p6, p7, p8, q1, q2, q3, q4, q5, q6, q7, q8, q9, q10, q11, q12, q13, q14, q15, fun A outer s H a C oe pn hr => q16 A outer s H a C oe pn (hr.mono h)⟩
section
variable {P : Program} {w : World} {K : PySem.W.Frag} {mg : Str → Option Value} {base : Heap} {Γ : Gx}
theorem said_of {k : Nat} {x : Str} {HS : SS} {st : Stmt} {f CG : Addr} {fd : FuncData} {b0 : Stmt} {suite : List Stmt} {p1 p2 p3 p4 p5 p6 p7 p8 : Pos} (fk : FnK K mg .none x st ["_law_call"] f fd) (b : Binds K fd ["_law_call"] []) (sc : FnScope ["_law_call", "_law_error", "_law_name"] ["_law_call"] (defScope st))
    (ebg : L2.defBody st = [.Try [.Return (some (.Call (.Name "repr" p1) [.Call (.Name "_law_call" p2) [] [] p3] [] p4)) p5] [.ExceptHandler (some (.Name "GridsymError" p6)) (some "_law_error") (b0 :: suite) p7] [] [] p8])
    (hva : Vis (defScope st) "_law_call") (hloc : (defScope st).names.lookup ("_law_error" : Str) = some NameKind.local) (hgl : (defScope st).names.lookup ("GridsymError" : Str) = some NameKind.globalImplicit) (hgr : (defScope st).names.lookup ("repr" : Str) = some NameKind.globalImplicit)
    (hme : mg "GridsymError" = some (.ref CG)) (hmr : mg "repr" = none) (hexm : ∀ q ∈ Γ.es, PySem.W.exmOne K (.ref q.2) (.ref CG) = some true)
    (hsu : ∀ (cdv : Value) (A : Around) (outer : List Env) (s : Shared) (H : Hp) (a C : Addr) (oe : Obj) (pn : List (Addr × Obj)), L2H.RoomH k ((cxOf C8.CX0 P w K mg base ["_law_call", "_law_error", "_law_name"] x (defScope st) f cdv A outer s H C8.E0).suite a ((a, oe) :: pn)).A → GX ((cxOf C8.CX0 P w K mg base ["_law_call", "_law_error", "_law_name"] x (defScope st) f cdv A outer s H C8.E0).suite a ((a, oe) :: pn)) → HotX ((cxOf C8.CX0 P w K mg base ["_law_call", "_law_error", "_law_name"] x (defScope st) f cdv A outer s H C8.E0).suite a ((a, oe) :: pn)) (Γ.hot a C) →
      PSs ((cxOf C8.CX0 P w K mg base ["_law_call", "_law_error", "_law_name"] x (defScope st) f cdv A outer s H C8.E0).suite a ((a, oe) :: pn)) (b0 :: suite) (tSt (gc ((cxOf C8.CX0 P w K mg base ["_law_call", "_law_error", "_law_name"] x (defScope st) f cdv A outer s H C8.E0).suite a ((a, oe) :: pn)) ⟨fun _ => none, Γ.hot a C⟩ W0) HS)) :
    SaidDef P w K mg base Γ k x HS := by
  obtain ⟨oc, od, kV, doc, pm, an, cdv, ct, osl, e, lk, hcd⟩ := fk.ex
  subst e
  exact ⟨f, CG, _, _, _, _, kV, doc, pm, cdv, ct, oc, an, od, osl, b0, suite, _, p1, p2, p3, p4, p5, p6, p7, p8, fk.at_, fk.kp, lk, hcd, b, sc, rfl, hva, hloc, hgl, hgr, ebg, hme, hmr, hexm,
    fun A outer s H a C oe pn hr gx hz hf => hsu cdv A outer s H a C oe pn ⟨hr.dp, hr.un⟩ ⟨gx.gd, gx.sys, gx.un⟩ ⟨oe, List.mem_cons_self, hz, hf⟩⟩
end
/-! ### the end: tables, classes -/
def codeAddr (K : PySem.W.Frag) (f : Addr) : Addr := match K.lookup f with
  | some ⟨_, _, .func fd, _⟩ => (match fd.code with | .ref c => c | _ => 0)
  | _ => 0
def codeIsB (K : PySem.W.Frag) (f : Addr) : Bool := match K.lookup f with
  | some ⟨_, _, .func fd, _⟩ => fd.code == .ref (codeAddr K f)
  | _ => false
def tabAddr (K : PySem.W.Frag) (f : Addr) : Addr := match K.lookup (codeAddr K f) with
  | some ⟨_, _, .fields vs, _⟩ => (match (vs[11]? : Option Value) with | some (.ref P) => P | _ => 0)
  | _ => 0
theorem codeIs_ok {K : PySem.W.Frag} {f : Addr} (h : codeIsB K f = true) : CodeAt K f (.ref (codeAddr K f)) := by
  unfold codeIsB at h
  split at h
  · rename_i c d fd sl e
    exact ⟨c, d, fd, sl, e, beq_iff_eq.mp h⟩
  · cases h
/-- fs: the defs that make lambdas, with the lambdas' names; ts: the tables that are known to be empty -/
def tabsB (K : PySem.W.Frag) (fs : List (Addr × Str)) (ts : List Addr) : Bool :=
  fs.all fun p => codeIsB K p.1 && PySem.W.codeHdIn K (codeAddr K p.1) (tabAddr K p.1) && ts.contains (tabAddr K p.1) && (K.lookup (tabAddr K p.1)).isNone && fs.all fun r => !(tabAddr K r.1 == tabAddr K p.1) || r.2 == p.2
def csOf (K : PySem.W.Frag) (fs : List (Addr × Str)) : List (Addr × Addr) := fs.map fun p => (codeAddr K p.1, tabAddr K p.1)
def gxOf (K : PySem.W.Frag) (fs : List (Addr × Str)) (es : List (Str × Addr)) : Gx := { T := fs.map fun p => (tabAddr K p.1, p.2), es := es }
section
variable {K : PySem.W.Frag} {h base : Heap} {fs : List (Addr × Str)} {ts : List Addr} {es : List (Str × Addr)} {mg : Str → Option Value}
theorem tabs_parts (ck : tabsB K fs ts = true) {p : Addr × Str} (hp : p ∈ fs) : codeIsB K p.1 = true ∧ PySem.W.codeHdIn K (codeAddr K p.1) (tabAddr K p.1) = true ∧ tabAddr K p.1 ∈ ts ∧ K.lookup (tabAddr K p.1) = none ∧ ∀ r ∈ fs, tabAddr K r.1 = tabAddr K p.1 → r.2 = p.2 := by
  have q := List.all_eq_true.mp ck p hp
  simp only [Bool.and_eq_true] at q
  obtain ⟨⟨⟨⟨q1, q2⟩, q3⟩, q4⟩, q5⟩ := q
  refine ⟨q1, q2, List.contains_iff_mem.mp q3, Option.isNone_iff_eq_none.mp q4, fun r hr e => ?_⟩
  have z := List.all_eq_true.mp q5 r hr
  simp only [Bool.or_eq_true, Bool.not_eq_true', beq_eq_false_iff_ne, beq_iff_eq] at z
  rcases z with z | z
  · exact absurd e z
  · exact z
theorem tabs_end (X : K.In h) (Y : ∀ P ∈ ts, h.get? P = some (PySem.W.tabObj #[])) (ck : tabsB K fs ts = true) :
    (∀ p ∈ csOf K fs, h.get? p.2 = some { cls := .none, data := .fields #[] }) ∧ (∀ p ∈ csOf K fs, K.lookup p.2 = none) ∧ (∀ p ∈ csOf K fs, PySem.W.CodeHd h p.1 p.2) ∧ ∀ q ∈ (gxOf K fs es).T, q.1 ∈ (csOf K fs).map (·.2) := by
  refine ⟨fun p hp => ?_, fun p hp => ?_, fun p hp => ?_, fun q hq => ?_⟩
  · obtain ⟨r, hr, rfl⟩ := List.mem_map.mp hp
    exact Y _ (tabs_parts ck hr).2.2.1
  · obtain ⟨r, hr, rfl⟩ := List.mem_map.mp hp
    exact (tabs_parts ck hr).2.2.2.1
  · obtain ⟨r, hr, rfl⟩ := List.mem_map.mp hp
    exact PySem.W.codeHd_of_K X (tabs_parts ck hr).2.1
  · obtain ⟨r, hr, rfl⟩ := List.mem_map.mp hq
    exact List.mem_map.mpr ⟨_, List.mem_map.mpr ⟨r, hr, rfl⟩, rfl⟩
theorem maker_end (TB : ∀ p ∈ csOf K fs, LamX.TabB base mg p.1 p.2) (ck : tabsB K fs ts = true) : ∀ p ∈ fs, Maker K mg base (gxOf K fs es) p.1 p.2 := fun p hp => by
  obtain ⟨q1, q2, q3, q4, q5⟩ := tabs_parts ck hp
  refine ⟨_, _, codeIs_ok q1, TB _ (List.mem_map.mpr ⟨p, hp, rfl⟩), List.mem_map.mpr ⟨p, hp, rfl⟩, fun r hr e => ?_⟩
  obtain ⟨z, hz, rfl⟩ := List.mem_map.mp hr
  exact q5 z hz e
/-- the classes of exceptions -/
def excCB (K : PySem.W.Frag) (D : Addr) : Bool :=
  PySem.W.findIn K (.ref D) "__getattribute__" == some (some (.builtin "BaseException.__getattribute__")) && PySem.W.findIn K (.ref D) "__getattr__" == some none && PySem.W.subIn K (.ref D) (.type "BaseException") == some true && PySem.W.hasDictIn K D &&
    PySem.W.findIn K (.ref D) "__class__" == some (some (.builtin "object.__class__")) && PySem.W.specialIn K (.builtin "object.__class__") "__get__" == some (some (.builtin "getset_descriptor.__get__")) && PySem.W.takesIn K (.builtin "object.__class__") == some true && PySem.W.mroIn K D (.type "object") == some true
theorem excC_of {D : Addr} (h : excCB K D = true) : ExcC K D := by
  unfold excCB at h
  simp only [Bool.and_eq_true, beq_iff_eq] at h
  obtain ⟨⟨⟨⟨⟨⟨⟨h1, h2⟩, h3⟩, h4⟩, h5⟩, h6⟩, h7⟩, h8⟩ := h
  exact ⟨h1, h2, h3, h4, h5, h6, h7, h8⟩
def isxB (K : PySem.W.Frag) (es : List (Str × Addr)) (cv : Value) (b : Str → Bool) : Bool := es.all fun p => PySem.W.kitOne K (.ref p.2) cv == some (b p.1)
theorem isx_end {cv : Value} {b : Str → Bool} (h0 : (es.all fun p => excCB K p.2) = true) (h : isxB K es cv b = true) : IsxOk K es cv b := fun p hp =>
  ⟨excC_of (List.all_eq_true.mp h0 p hp), beq_iff_eq.mp (List.all_eq_true.mp h p hp)⟩
theorem exm_end {CG : Addr} (h : (es.all fun p => PySem.W.exmOne K (.ref p.2) (.ref CG) == some true) = true) : ∀ q ∈ es, PySem.W.exmOne K (.ref q.2) (.ref CG) = some true := fun p hp => beq_iff_eq.mp (List.all_eq_true.mp h p hp)
theorem es_end (h : ∀ p ∈ es, mg p.1 = some (.ref p.2)) {ns : List Str} (hn : ns = es.map (·.1)) : ∀ n ∈ ns, ∀ C, mg n = some (.ref C) → (n, C) ∈ es := fun n hn' C e => by
  subst hn
  obtain ⟨p, hp, rfl⟩ := List.mem_map.mp hn'
  rw [h p hp] at e
  cases e
  exact hp
theorem gx_end (X : K.In h) (Y : ∀ P ∈ ts, h.get? P = some (PySem.W.tabObj #[])) (ck : tabsB K fs ts = true) : ∃ (Γ : Gx) (cs : List (Addr × Addr)), Γ.es = es ∧
    ((∀ p ∈ cs, h.get? p.2 = some { cls := .none, data := .fields #[] }) ∧ (∀ p ∈ cs, K.lookup p.2 = none) ∧ (∀ p ∈ cs, PySem.W.CodeHd h p.1 p.2) ∧ ∀ q ∈ Γ.T, q.1 ∈ cs.map (·.2)) ∧
    ∀ (base : Heap) (mg : Str → Option Value), (∀ p ∈ cs, LamX.TabB base mg p.1 p.2) → ∀ p ∈ fs, Maker K mg base Γ p.1 p.2 :=
  ⟨gxOf K fs es, csOf K fs, rfl, tabs_end X Y ck, fun _ _ TB => maker_end TB ck⟩
end
def refA {mg : Str → Option Value} {x : Str} {C : Addr} (_ : mg x = some (.ref C)) : Addr := C
abbrev frOf {K : PySem.W.Frag} {h : Heap} (_ : K.In h) : PySem.W.Frag := K
def fnA {K : PySem.W.Frag} {mg : Str → Option Value} {dV : Value} {x : Str} {st : Stmt} {ps : List Str} {f : Addr} {fd : FuncData} (_ : FnK K mg dV x st ps f fd) : Addr := f
end G
/-! a, b, .. = x, y, ..: new lists and dicts stay the frame's own -/
namespace G
open PySem PySem.Spec PyProof.Rows L2
def evN : List SE → List B → Rs (List Ev × List B)
  | [], ρ => .ok ([], ρ)
  | f :: fs, ρ => (f ρ).bind fun p => (evN fs p.2).bind fun q => .ok (p.1 :: q.1, q.2)
def resN : List B → List Ev → Option (List Ev × List B)
  | ρ, [] => some ([], ρ)
  | ρ, e :: es => (resv ρ e).bind fun p => (resN p.2 es).map fun q => (p.1 :: q.1, q.2)
def bindN : List Nat → List Ev → List B → Rs (List B)
  | [], [], ρ => .ok ρ
  | i :: is, e :: es, ρ => (bindV i e ρ).bind fun ρ' => bindN is es ρ'
  | _, _, _ => .bad
def parN (is : List Nat) (fs : List SE) : SS := fun ρ => (evN fs ρ).bind fun p => match resN p.2 p.1 with
  | some (es, ρ1) => (bindN is es ρ1).bind fun ρ' => .ok (.nx ρ')
  | none => .bad
/-! ### [..] * k, of a new list -/
def repR (ρ : List B) : Ev → Option PyData → Rs (Ev × List B)
  | .fr (.list ds), some (.int k) => if ds.length ≤ 1000 ∧ k < 10000 ∧ -10000 < k then .ok (.fr (.list (List.replicate k.toNat ds).flatten), ρ) else .bad
  | _, _ => .bad
def repE (fa fb : SE) : SE := fun ρ => (fa ρ).bind fun p => (fb p.2).bind fun q => repR q.2 p.1 (peek q.2 q.1)
theorem DrAll.rep {K : PySem.W.Frag} {S : Addr → Prop} {H : Hp} {vs : List V} {ds : List PyData} (h : DrAll K S H vs ds) : ∀ n : Nat, DrAll K S H (List.replicate n vs).flatten (List.replicate n ds).flatten
  | 0 => .nil
  | n + 1 => by
    rw [List.replicate_succ, List.replicate_succ, List.flatten_cons, List.flatten_cons]
    exact h.append (DrAll.rep h n)
/-! ### a list or a tuple walked -/
def iAny (K : PySem.W.Frag) (tl : TE) : TI := fun σ H R => tl σ H fun v H1 => ∃ a, v = .ref a ∧ (((∃ xs, SqL K H1 a xs) ∧ R (Itl K a) H1) ∨ ((∃ xs, SqT K H1 a xs) ∧ R (Itt K a) H1))
theorem pi_any {X : Cx} {tg l : Expr} {tl : TE} (hl : PE X l tl) : PI X tg l (iAny X.K tl) := by
  refine ⟨fun pins s σ H R I h => ?_⟩
  refine thn (hl.run pins s σ H _ I h) fun v s1 ⟨x, H1, I1, r1, q1⟩ => ?_
  obtain ⟨a, e, q⟩ := q1
  subst e
  cases r1
  rcases q with ⟨⟨xs, hq⟩, q⟩ | ⟨⟨xs, hq⟩, q⟩
  · obtain ⟨its, rv, p, hz⟩ := I1.list hq
    refine wpAny_pyIter_list p.isList ?_
    refine ⟨s1.heap.objs.size, [s1.heap.objs.size], _, _, H1, rfl, I1.kept (t' := s1.toks) fun b o e => Heap.get?_push_of_some _ e, turn_list a _, ⟨_, Heap.get?_push_size _ rfl, rfl, rfl⟩, fun b hb => ?_, q⟩
    have e : b = s1.heap.objs.size := by simpa using hb
    subst e
    exact I1.fpOk (Nat.le_refl _) (I1.hok.fresh (Nat.le_refl _))
  · obtain ⟨its, rv, p, hz⟩ := I1.tuple hq
    refine wpAny_pyIter_tuple (show s1.heap.IsTuple a its.toArray from p) ?_
    refine ⟨s1.heap.objs.size, [s1.heap.objs.size], _, _, H1, rfl, I1.kept (t' := s1.toks) fun b o e => Heap.get?_push_of_some _ e, turn_tuple a _, ⟨_, Heap.get?_push_size _ rfl, rfl, rfl⟩, fun b hb => ?_, q⟩
    have e : b = s1.heap.objs.size := by simpa using hb
    subst e
    exact I1.fpOk (Nat.le_refl _) (I1.hok.fresh (Nat.le_refl _))
def bothK : PyData → Option (List PyData)
  | .list ds => some ds
  | .tuple ds => some ds
  | _ => none
theorem gi_any {X : Cx} {A0 : Ax} {W : WX} {tg l : Expr} {fe : SE} (hl : PE X l (tE (gc X A0 W) fe)) : PI X tg l (tI (gc X A0 W) (seqI bothK fe)) := PI_imp (pi_any hl) fun σ H R h => seqI_bind h fun S' H' v d ds hd hk q => by
  cases d with
  | list ds' => cases hk; obtain ⟨a, rfl, hx, ok⟩ := itl_ok hd; exact ⟨a, rfl, .inl ⟨hx, q _ ok⟩⟩
  | tuple ds' => cases hk; obtain ⟨a, rfl, hx, ok⟩ := itt_ok hd; exact ⟨a, rfl, .inr ⟨hx, q _ ok⟩⟩
  | _ => cases hk
end G
/-! dicts: in, display, stores, walks -/
namespace G
open PySem PySem.Spec PyProof.Rows L2
/-! ### in -/
def inG : PyData → PyData → Option Ev := fun x y => match y with
  | .dict kvs => (keyOf x).bind fun q => if keyed kvs = true then some (.val (.bool (dget kvs q).isSome)) else none
  | _ => inD x y
def ninG : PyData → PyData → Option Ev := fun x y => match y with
  | .dict kvs => (keyOf x).bind fun q => if keyed kvs = true then some (.val (.bool (!(dget kvs q).isSome))) else none
  | _ => ninD x y
def rNotInG : R2 := fun y x H Q => ∃ a o, x = .ref a ∧ DGet H a y o ∧ Q (.bl (!o.isSome)) H
theorem Dw.has {K : PySem.W.Frag} {S : Addr → Prop} {H : Hp} {x y : V} {kvs : List (PyData × PyData)} {k : PyData} {q : Key} (h : Dw K S H x (.dict kvs)) (hk : Dw K S H y k) (hq : keyOf k = some q) (hd : keyed kvs = true) : ∃ a o, x = .ref a ∧ DGet H a y o ∧ (dget kvs q).isSome = o.isSome := by
  obtain ⟨a, o, rfl, ho, c⟩ := h.dic
  obtain ⟨ks, ds, rfl, dr, rfl⟩ := c.key hd
  refine ⟨a, valV ks q, rfl, .inl ⟨_, q, ho.rd, hk.key hq, rfl⟩, ?_⟩
  obtain ⟨h1, h2⟩ := dget_val q dr
  cases e : dget ((ks.map fun p => kD p.1).zip ds) q with
  | none => rw [h2 e]; rfl
  | some d => obtain ⟨v, e1, _⟩ := h1 d e; rw [e1]; rfl
section
variable {X : Cx} {A0 : Ax} {W : WX} {a b : Expr} {fa fb : SE} {pos : Pos}
theorem op_notInG (hu : X.A.units + 1 < cLine) : OpR X (compareOp .NotIn) rNotInG := by
  intro pins s σ H y x v u Q I ry rx h
  obtain ⟨a, o, rfl, g, q⟩ := h
  obtain rfl : u = Value.ref a := rx
  exact d_notIn hu I g ry fun s' I' => ⟨.bl (!o.isSome), H, I', rfl, q⟩
theorem op_notInX (hu : X.A.units + 65 < cLine) : OpR X (compareOp .NotIn) (fun x y H Q => (rNotInD X.K x y H Q ∨ rNotInT X.K x y H Q) ∨ rNotInG x y H Q) := ((op_notInD hu).or (op_notInT hu)).or (op_notInG (by omega))
theorem ninG_ok {K : PySem.W.Frag} : OpD K (fun x y H Q => (rNotInD K x y H Q ∨ rNotInT K x y H Q) ∨ rNotInG x y H Q) ninG := by
  intro S H x y d1 d2 e Q h1 h2 he out
  unfold ninG at he
  cases d2 with
  | dict kvs =>
    simp only at he
    cases hq : keyOf d1 with
    | none => rw [hq] at he; cases he
    | some q =>
      rw [hq] at he
      simp only [Option.bind] at he
      split at he
      · rename_i hk
        cases he
        obtain ⟨a, o, rfl, g, eo⟩ := h2.has h1 hq hk
        rw [eo] at out
        exact .inr ⟨a, o, rfl, g, outBl out⟩
      · cases he
  | _ => exact .inl (ninD_ok S H x y d1 _ e Q h1 h2 he out)
end
/-! ### the walks: values, items; the dict is locked from then on -/
def valsK : PyData → Option (List PyData)
  | .dict kvs => if keyed kvs = true then some (kvs.map (·.2)) else none
  | _ => none
def itemsK : PyData → Option (List PyData)
  | .dict kvs => if keyed kvs = true then some (kvs.map fun p => .tuple [p.1, p.2]) else none
  | _ => none
/-! ### {k: v, ..} -/
def flatA : List (SE × SE) → SA
  | [] => aNil
  | (k, v) :: r => aCons k (aCons v (flatA r))
def pairsD : List PyData → Option (List (Key × PyData))
  | [] => some []
  | k :: v :: r => (keyOf k).bind fun q => (pairsD r).map fun m => (q, v) :: m
  | _ => none
def mergeD : List (PyData × PyData) → List (Key × PyData) → List (PyData × PyData)
  | acc, [] => acc
  | acc, (q, d) :: r => mergeD (dput acc q d) r
def dicE (prs : List (SE × SE)) : SE := fun ρ => (flatA prs ρ).bind fun p => match shrs p.2 p.1 with
  | some (ds, ρ') => (match pairsD ds with
    | some m => if m.length ≤ 15 then .ok (.fr (.dict (mergeD [] m)), ρ') else .bad
    | none => .bad)
  | none => .bad
section
variable {X : Cx} {A0 : Ax} {W : WX}
/-- {} -/
def dic0E : SE := fun ρ => .ok (.fr (.dict []), ρ)
theorem gdic0 {pos : Pos} : PE X (.Dict [] [] pos) (tE (gc X A0 W) dic0E) := by
  refine PE_imp pe_dnewK ?_
  rintro σ H Q ⟨S, ρ, r, h⟩ p hn
  have sm : L2.Same H (upd H p (.dK [])) := same_alloc hn
  refine h S _ _ (Tr.grow sm) (r.same sm) ⟨p, rfl, ⟨hn, fun j hj => ?_⟩, fun z => ?_, fun z => ?_, _, upd_same, .dK (kvs := []) (ds := []) .nil⟩
  · obtain ⟨o, e⟩ := r.aa j p hj
    rw [hn] at e; cases e
  · obtain ⟨o, e⟩ := r.al p z; rw [hn] at e; cases e
  · obtain ⟨o, e⟩ := r.alive z; rw [hn] at e; cases e
end
end G
/-! sorted: tuples of ints of one length, any number of them -/
namespace G
open PySem PySem.Spec PyProof.Rows L2
def lexL : List Int → List Int → Bool
  | [], [] => false
  | [], _ :: _ => true
  | _ :: _, [] => false
  | x :: xs, y :: ys => if x = y then lexL xs ys else decide (x < y)
/-! ### the one sorted list -/
def insL (x : List Int) : List (List Int) → List (List Int)
  | [] => [x]
  | y :: r => if lexL y x = true then y :: insL x r else x :: y :: r
def srt : List (List Int) → List (List Int)
  | [] => []
  | x :: r => insL x (srt r)
/-! ### the rule -/
/-! ### by data -/
end G
namespace G
open PySem PySem.Spec PyProof.Rows L2
/-! ### enumerate(list), enumerate(tuple) -/
def enD (ds : List PyData) : List PyData := ds.zipIdx.map fun p => .tuple [.int p.2, p.1]
def enumK : PyData → Option (List PyData)
  | .list ds => some (enD ds)
  | .tuple ds => some (enD ds)
  | _ => none
end G
/-! pop, extend, int, str, sum, list(d), list(d.items()) -/
namespace G
open PySem PySem.Spec PyProof.Rows L2
def mtPop (d : PyData) (ys : List PyData) : Option (PyData × PyData) := match d, ys with
  | .list ds, [] => (ds.getLast?).map fun y => (.list ds.dropLast, y)
  | _, _ => none
def mtPopA (d : PyData) (ys : List PyData) : Option (PyData × PyData) := match d, ys with
  | .list (y :: r), [.int 0] => some (.list r, y)
  | _, _ => none
/-! ### xs.extend([..]) of a new list -/
def extG (i : Nat) (ρ : List B) : Ev → Rs (Ev × List B)
  | .fr (.list es) => (match (ρ[i]?) with
    | some b => (match ownD b with
      | some (.list ds) => if ds.length + es.length ≤ 1000000 then .ok (.val .none, ρ.set i (reD b (.list (ds ++ es)))) else .bad
      | _ => .bad)
    | none => .bad)
  | _ => .bad
def extE1 (i : Nat) (fe : SE) : SE := fun ρ => (fe ρ).bind fun p => extG i p.2 p.1
def extE (i : Nat) (fe : SE) : SE := fun ρ => match (ρ[i]?).bind ownD with
  | some d => if isLst d = true then extE1 i fe ρ else .bad
  | none => .bad
/-! ### int, str, sum -/
def toIntD : List PyData → Option Ev
  | [.int i] => some (.val (.int i))
  | [.bool b] => some (.val (.int (if b = true then 1 else 0)))
  | _ => none
def toStrD : List PyData → Option Ev
  | [.int i] => if i.natAbs.log2 < 1920 then some (.val (.str (toString i))) else none
  | _ => none
theorem toStrD_ok {K : PySem.W.Frag} : CallD K (fun xs H Q => ∃ i, xs = [.int i] ∧ i.natAbs.log2 < 1920 ∧ Q (.str (toString i)) H) toStrD := by
  intro S H xs ds e Q h he out
  match ds, he with
  | [.int i], he =>
    simp only [toStrD] at he
    split at he
    · rename_i hz
      cases he; obtain ⟨v, rfl, hv⟩ := dw1 h; exact ⟨i, by rw [hv.int], hz, outStr out⟩
    · cases he
section
variable {X : Cx} {A0 : Ax} {W : WX} {e : Expr} {es : List Expr} {fs : SA} {p pos : Pos}
theorem g_str (hm : X.mg "str" = none) (ha : PA X (e :: es) (tA (gc X A0 W) fs)) (hg : Gl X "str" := by rfl)
    (he : starEach (e :: es) X.env = (false, eval e X.env) :: starEach es X.env := by rfl) (hpl : (backTo pos (starEach es X.env)).any (·.1) = false := by rfl) : PE X (.Call (.Name "str" p) (e :: es) [] pos) (tE (gc X A0 W) (opN toStrD fs)) :=
  gcallT call_str_int toStrD_ok hm (by decide +kernel) ha hg (by decide) (by decide) he hpl
end
end G
namespace G
open PySem PySem.Spec PyProof.Rows L2
/-! ### list(x.items()) of a slot's own dict -/
def itemsJ (ρ : List B) : Option PyData → Rs (Ev × List B)
  | some (.dict kvs) => if keyed kvs = true then .ok (.fr (.list (kvs.map fun p => .tuple [p.1, p.2])), ρ) else .bad
  | _ => .bad
def itemsE (i : Nat) : SE := fun ρ => itemsJ ρ ((ρ[i]?).bind ownD)
end G
namespace G
open PySem PySem.Spec PyProof.Rows L2
/-! ### xs[k] as one of several targets -/
def subH (i : Nat) (y : PyData) (p : Ev × List B) : Rs (List B) := match peek p.2 p.1 with
  | some k => (match p.2[i]? with
    | some b => (match ownD b with
      | some d => (match setD d k y with
        | some d' => .ok (p.2.set i (reD b d'))
        | none => .bad)
      | none => .bad)
    | none => .bad)
  | none => .bad
def subG (i : Nat) (fk : SE) : SG := fun y ρ => match (ρ[i]?).bind ownD with
  | some _ => (fk ρ).bind (subH i y)
  | none => .bad
end G
/-! sorted(set(xs)), xs a list of ints -/
namespace G
open PySem PySem.Spec PyProof.Rows L2
/-! ### the data: ints in order, each once -/
/-! ### set(xs) -/
end G
/-! sorted(set(xs)): tuples of ints of one length, fewer than 64 -/
namespace G
open PySem PySem.Spec PyProof.Rows L2
/-! ### the data: no row twice -/
end G
/-! xs[::-1] of a list or a tuple -/
namespace G
open PySem PySem.Spec PyProof.Rows L2
section
variable {X : Cx}
def revD : PyData → Option Ev
  | .list ds => some (.fr (.list ds.reverse))
  | .tuple ds => some (.val (.tuple ds.reverse))
  | _ => none
end
end G
/-! ### a mirror run by simp -/
namespace G
open PySem PySem.Spec PyProof.Rows L2
section
variable {α β : Type} {a : α} {f : α → Rs β} {p : Prop} [Decidable p] {x y : Rs α} {n : Str} {ρ ρ' : List B} {f1 f2 : SS} {fe fa fb fc fk : SE} {fs : SA} {c ca cb : SB} {e e1 e2 : Ev} {es : List Ev} {d d1 d2 d3 : PyData} {ds : List PyData} {i j l m : Nat} {b b0 b1 b2 b3 b4 b5 b6 b7 : B} {bo : Bool} {fl : Fl} {r : Rs Fl} {it : SI} {t : SG}
theorem rb_ok : Rs.bind (.ok a) f = f a := id rfl
theorem rb_ex : Rs.bind (.ex n ρ) f = .ex n ρ := id rfl
theorem rb_bad : Rs.bind .bad f = .bad := id rfl
theorem rb_ite : Rs.bind (if p then x else y) f = if p then Rs.bind x f else Rs.bind y f := by split <;> rfl
theorem lz : (a :: (l' : List α))[0]? = some a := id rfl
theorem ls {l' : List α} : (a :: l')[i + 1]? = l'[i]? := id rfl
theorem sz {a' : α} {l' : List α} : (a :: l').set 0 a' = a' :: l' := id rfl
theorem ss {a' : α} {l' : List α} : (a :: l').set (i + 1) a' = a :: l'.set i a' := id rfl
/-- statements -/
def seqK (f2 : SS) : Fl → Rs Fl
  | .nx ρ => f2 ρ
  | r => .ok r
theorem r_seq : seqS f1 f2 ρ = Rs.bind (f1 ρ) (seqK f2) := by unfold seqS; congr 1
theorem k_seq1 : seqK f2 (.nx ρ) = f2 ρ := id rfl
theorem k_seq2 : seqK f2 (.rt e ρ) = .ok (.rt e ρ) := id rfl
theorem k_seq3 : seqK f2 (.bk ρ) = .ok (.bk ρ) := id rfl
theorem k_seq4 : seqK f2 (.ct ρ) = .ok (.ct ρ) := id rfl
theorem r_nx : nxS ρ = .ok (.nx ρ) := id rfl
theorem r_bk : bkS ρ = .ok (.bk ρ) := id rfl
theorem r_ct : ctS ρ = .ok (.ct ρ) := id rfl
theorem r_retN : retNS ρ = .ok (.rt (.val .none) ρ) := id rfl
def retK : Ev × List B → Rs Fl := fun p => .ok (.rt p.1 p.2)
theorem r_ret : retS fe ρ = Rs.bind (fe ρ) retK := id rfl
theorem k_ret : retK (e, ρ) = .ok (.rt e ρ) := id rfl
def dropK : Ev × List B → Rs Fl := fun p => .ok (.nx p.2)
theorem r_drop : dropS fe ρ = Rs.bind (fe ρ) dropK := id rfl
theorem k_drop : dropK (e, ρ) = .ok (.nx ρ) := id rfl
def ifK {γ : Type} (f1 f2 : List B → Rs γ) : Bool × List B → Rs γ := fun p => if p.1 = true then f1 p.2 else f2 p.2
theorem r_if : ifS c f1 f2 ρ = Rs.bind (c ρ) (ifK f1 f2) := id rfl
theorem r_ife : ifE c fa fb ρ = Rs.bind (c ρ) (ifK fa fb) := id rfl
theorem k_if {γ : Type} {f1 f2 : List B → Rs γ} : ifK f1 f2 (bo, ρ) = if bo = true then f1 ρ else f2 ρ := id rfl
def asgK (i : Nat) : Ev × List B → Rs Fl := fun p => Rs.bind (bindV i p.1 p.2) fun ρ' => .ok (.nx ρ')
theorem r_asg : asgS i fe ρ = Rs.bind (fe ρ) (asgK i) := id rfl
theorem k_asg1 : asgK i (.val d, ρ) = .ok (.nx (ρ.set i (.val d))) := id rfl
theorem k_asg2 : asgK i (.fr d, ρ) = .ok (.nx (ρ.set i (.own d))) := id rfl
def slK (i j : Nat) (ρ : List B) : Option B → Rs Fl
  | some (.own d) => .ok (.nx ((ρ.set j (.val d)).set i (.val d)))
  | some (.val d) => .ok (.nx (ρ.set i (.val d)))
  | _ => .bad
theorem k_asg3 : asgK i (.sl j, ρ) = slK i j ρ ρ[j]? := by
  unfold asgK bindV slK shr
  dsimp only
  cases ρ[j]? with
  | none => rfl
  | some b => cases b <;> rfl
theorem k_sl1 : slK i j ρ (some (.own d)) = .ok (.nx ((ρ.set j (.val d)).set i (.val d))) := id rfl
theorem k_sl2 : slK i j ρ (some (.val d)) = .ok (.nx (ρ.set i (.val d))) := id rfl
/-- what an expression's value is when it is shared -/
def shK {γ : Type} (k : PyData → List B → Rs γ) (ρ : List B) (e : Ev) : Rs γ := match shr ρ (settle e) with
  | some (d, ρ1) => k d ρ1
  | none => .bad
def shJ {γ : Type} (k : PyData → List B → Rs γ) (ρ : List B) (j : Nat) : Option B → Rs γ
  | some (.own d) => k d (ρ.set j (.val d))
  | some (.val d) => k d ρ
  | _ => .bad
theorem k_sh1 {γ : Type} {k : PyData → List B → Rs γ} : shK k ρ (.val d) = k d ρ := id rfl
theorem k_sh2 {γ : Type} {k : PyData → List B → Rs γ} : shK k ρ (.fr d) = k d ρ := id rfl
theorem k_sh3 {γ : Type} {k : PyData → List B → Rs γ} : shK k ρ (.sl j) = shJ k ρ j ρ[j]? := by
  unfold shK settle shr shJ
  dsimp only
  cases ρ[j]? with
  | none => rfl
  | some b => cases b <;> rfl
theorem k_sh4 {γ : Type} {k : PyData → List B → Rs γ} : shJ k ρ j (some (.own d)) = k d (ρ.set j (.val d)) := id rfl
theorem k_sh5 {γ : Type} {k : PyData → List B → Rs γ} : shJ k ρ j (some (.val d)) = k d ρ := id rfl
def asgGK (t : SG) (p : Ev × List B) : Rs Fl := shK (fun d ρ1 => match t d ρ1 with
    | .ok ρ' => .ok (.nx ρ')
    | _ => .bad) p.2 p.1
theorem r_asgG : asgG t fe ρ = Rs.bind (fe ρ) (asgGK t) := id rfl
def tgK : Rs (List B) → Rs Fl
  | .ok ρ' => .ok (.nx ρ')
  | _ => .bad
def asgGL (t : SG) (d : PyData) (ρ1 : List B) : Rs Fl := tgK (t d ρ1)
theorem k_asgG : asgGK t (e, ρ) = shK (asgGL t) ρ e := by
  unfold asgGK
  rfl
theorem k_asgL : asgGL t d ρ = tgK (t d ρ) := id rfl
theorem k_tg : tgK (.ok ρ) = .ok (.nx ρ) := id rfl
theorem r_nm : nmG i d ρ = .ok (ρ.set i (.val d)) := id rfl
theorem r_tup {u : List PyData → List B → Rs (List B)} : tupG 2 u (.tuple [d1, d2]) ρ = u [d1, d2] ρ := id rfl
theorem r_tup1 {u : List PyData → List B → Rs (List B)} : tupG 1 u (.tuple [d1]) ρ = u [d1] ρ := id rfl
theorem r_tup3 {u : List PyData → List B → Rs (List B)} : tupG 3 u (.tuple [d1, d2, d3]) ρ = u [d1, d2, d3] ρ := id rfl
theorem r_tup4 {u : List PyData → List B → Rs (List B)} {d4 : PyData} : tupG 4 u (.tuple [d1, d2, d3, d4]) ρ = u [d1, d2, d3, d4] ρ := id rfl
theorem r_nil : nilG [] ρ = .ok ρ := id rfl
theorem r_cons {u : List PyData → List B → Rs (List B)} : consG t u (d :: ds) ρ = Rs.bind (t d ρ) (u ds) := by
  unfold consG
  rfl
/-- expressions -/
def vK (i : Nat) (ρ : List B) : Option B → Rs (Ev × List B)
  | some (.val d) => .ok (.val d, ρ)
  | some (.own _) => .ok (.sl i, ρ)
  | some (.prm _) => .ok (.sl i, ρ)
  | some (.exc _) => .ok (.sl i, ρ)
  | _ => .bad
theorem r_V : fV i ρ = vK i ρ ρ[i]? := by
  unfold fV vK
  cases ρ[i]? with
  | none => rfl
  | some b => cases b <;> rfl
theorem k_V1 : vK i ρ (some (.val d)) = .ok (.val d, ρ) := id rfl
theorem k_V2 : vK i ρ (some (.own d)) = .ok (.sl i, ρ) := id rfl
theorem k_V4 {n : Str} : vK i ρ (some (.exc n)) = .ok (.sl i, ρ) := id rfl
theorem k_V3 : vK i ρ (some (.prm d)) = .ok (.sl i, ρ) := id rfl
theorem r_C : fC d ρ = .ok (.val d, ρ) := id rfl
theorem p_val : peek ρ (.val d) = some d := id rfl
theorem p_fr : peek ρ (.fr d) = some d := id rfl
theorem p_sl : peek ρ (.sl i) = Option.bind ρ[i]? peekB := id rfl
theorem pb_1 : peekB (B.val d) = some d := id rfl
theorem pb_2 : peekB (B.own d) = some d := id rfl
theorem pb_3 : peekB (B.prm d) = some d := id rfl
theorem od_1 : ownD (B.own d) = some d := id rfl
theorem od_2 : ownD (B.prm d) = some d := id rfl
theorem p_1 : Option.bind (some (B.val d)) peekB = some d := id rfl
theorem p_2 : Option.bind (some (B.own d)) peekB = some d := id rfl
theorem p_3 : Option.bind (some (B.prm d)) peekB = some d := id rfl
theorem q_1 : Option.bind (some (B.val d)) ownD = none := id rfl
theorem q_2 : Option.bind (some (B.own d)) ownD = some d := id rfl
theorem q_3 : Option.bind (some (B.prm d)) ownD = some d := id rfl
theorem re_1 : resE ρ (some (.val d)) = .ok (.val d, ρ) := id rfl
theorem re_2 : resE ρ (some (.fr d)) = .ok (.fr d, ρ) := id rfl
theorem re_ite {u v : Option Ev} : resE ρ (if p then u else v) = if p then resE ρ u else resE ρ v := by split <;> rfl
theorem st_1 : G.settle (.val d) = .val d := id rfl
theorem st_2 : G.settle (.fr d) = .val d := id rfl
theorem st_3 : G.settle (.sl i) = .sl i := id rfl
def o2K2 (bd : PyData → PyData → Option Ev) (e : Ev) (q : Ev × List B) : Rs (Ev × List B) := resE q.2 ((peek q.2 e).bind fun d1 => (peek q.2 q.1).bind fun d2 => bd d1 d2)
def o2K (bd : PyData → PyData → Option Ev) (fb : SE) (p : Ev × List B) : Rs (Ev × List B) := Rs.bind (fb p.2) (o2K2 bd p.1)
def o2L2 (bd : PyData → PyData → Option Ev) : Option PyData → Option PyData → Option Ev
  | some d1, some d2 => bd d1 d2
  | _, _ => none
theorem r_op2 {bd : PyData → PyData → Option Ev} : op2 bd fa fb ρ = Rs.bind (fa ρ) (o2K bd fb) := id rfl
theorem k_op2a {bd : PyData → PyData → Option Ev} : o2K bd fb (e, ρ) = Rs.bind (fb ρ) (o2K2 bd e) := id rfl
theorem k_op2b {bd : PyData → PyData → Option Ev} : o2K2 bd e (e1, ρ) = resE ρ (o2L2 bd (peek ρ e) (peek ρ e1)) := by
  unfold o2K2 o2L2
  dsimp only
  cases peek ρ e with
  | none => cases peek ρ e1 <;> rfl
  | some d => cases peek ρ e1 <;> rfl
theorem k_op2c {bd : PyData → PyData → Option Ev} : o2L2 bd (some d1) (some d2) = bd d1 d2 := id rfl
def o1K (bd : PyData → Option Ev) (p : Ev × List B) : Rs (Ev × List B) := resE p.2 ((peek p.2 p.1).bind bd)
theorem r_op1 {bd : PyData → Option Ev} : op1 bd fa ρ = Rs.bind (fa ρ) (o1K bd) := id rfl
theorem k_op1 {bd : PyData → Option Ev} : o1K bd (e, ρ) = resE ρ ((peek ρ e).bind bd) := id rfl
theorem ob_some {u : α → Option β} : Option.bind (some a) u = u a := id rfl
def oNK (bd : List PyData → Option Ev) (p : List Ev × List B) : Rs (Ev × List B) := resE p.2 ((peeks p.2 p.1).bind bd)
theorem r_said {ns : List Str} {HS : SS} : saidE ns HS fe ρ = saidK ns HS (fe ρ) := id rfl
theorem k_said1 {ns : List Str} {HS : SS} : saidK ns HS (.ok (e, ρ)) = resE ρ ((peek ρ e).bind fun d => reprD [d]) := id rfl
theorem r_opN {bd : List PyData → Option Ev} : opN bd fs ρ = Rs.bind (fs ρ) (oNK bd) := id rfl
theorem k_opN {bd : List PyData → Option Ev} : oNK bd (es, ρ) = resE ρ ((peeks ρ es).bind bd) := id rfl
theorem r_pk0 : peeks ρ [] = some [] := id rfl
def pkK : Option PyData → Option (List PyData) → Option (List PyData)
  | some d, some ds => some (d :: ds)
  | _, _ => none
theorem r_pk1 : peeks ρ (e :: es) = pkK (peek ρ e) (peeks ρ es) := by
  show ((peek ρ e).bind fun d => (peeks ρ es).map (d :: ·)) = _
  cases peek ρ e with
  | none => rfl
  | some d => cases peeks ρ es <;> rfl
theorem k_pk : pkK (some d) (some ds) = some (d :: ds) := id rfl
theorem r_anil : aNil ρ = .ok ([], ρ) := id rfl
def aK (fs : SA) (p : Ev × List B) : Rs (List Ev × List B) := Rs.bind (fs p.2) fun q => .ok (G.settle p.1 :: q.1, q.2)
def aK2 (e : Ev) (q : List Ev × List B) : Rs (List Ev × List B) := .ok (G.settle e :: q.1, q.2)
theorem r_acons : aCons fe fs ρ = Rs.bind (fe ρ) (aK fs) := id rfl
theorem k_acons : aK fs (e, ρ) = Rs.bind (fs ρ) (aK2 e) := id rfl
theorem k_acons2 : aK2 e (es, ρ) = .ok (G.settle e :: es, ρ) := id rfl
theorem shs_v0 : shrs ρ [] = some ([], ρ) := id rfl
theorem shs_v1 : shrs ρ (.val d :: es) = (shrs ρ es).map fun q => (d :: q.1, q.2) := id rfl
def shS (ρ : List B) (j : Nat) (es : List Ev) : Option B → Option (List PyData × List B)
  | some (.own d) => (shrs (ρ.set j (.val d)) es).map fun q => (d :: q.1, q.2)
  | some (.val d) => (shrs ρ es).map fun q => (d :: q.1, q.2)
  | _ => none
theorem shs_v2 : shrs ρ (.sl j :: es) = shS ρ j es ρ[j]? := by
  show ((shr ρ (.sl j)).bind fun p => (shrs p.2 es).map fun q => (p.1 :: q.1, q.2)) = _
  unfold shr shS
  dsimp only
  cases ρ[j]? with
  | none => rfl
  | some b => cases b <;> rfl
theorem shs_v3 : shS ρ j es (some (.own d)) = (shrs (ρ.set j (.val d)) es).map fun q => (d :: q.1, q.2) := id rfl
theorem shs_v4 : shS ρ j es (some (.val d)) = (shrs ρ es).map fun q => (d :: q.1, q.2) := id rfl
theorem om_some {γ : Type} {u : α → γ} : Option.map u (some a) = some (u a) := id rfl
def dK1 (mk : List PyData → Ev) : Option (List PyData × List B) → Rs (Ev × List B)
  | some (ds, ρ') => if ds.length ≤ sizeLine then resE ρ' (some (mk ds)) else .bad
  | none => .bad
theorem r_disp {mk : List PyData → Ev} : dispE mk fs ρ = Rs.bind (fs ρ) fun p => dK1 mk (shrs p.2 p.1) := by
  unfold dispE dK1
  congr 1
def dtK (p : List Ev × List B) : Rs (Ev × List B) := dK1 (fun ds => .val (.tuple ds)) (shrs p.2 p.1)
def dlK (p : List Ev × List B) : Rs (Ev × List B) := dK1 (fun ds => .fr (.list ds)) (shrs p.2 p.1)
theorem r_tupT : tupE fs ρ = Rs.bind (fs ρ) dtK := r_disp
theorem r_lstT : lstE fs ρ = Rs.bind (fs ρ) dlK := r_disp
def smallLen {α : Type} : List α → Nat → Bool
  | [], _ => true
  | _ :: _, 0 => false
  | _ :: l, n + 1 => smallLen l n
theorem sl_nil {n : Nat} : smallLen ([] : List α) n = true := by cases n <;> rfl
theorem sl_cons {n : Nat} {l' : List α} : smallLen (a :: l') (n + 1) = smallLen l' n := id rfl
theorem smallLen_ok {l' : List α} : ∀ {n : Nat}, smallLen l' n = true → l'.length ≤ n := by
  induction l' with
  | nil => intro n _; simp
  | cons a l' ih =>
    intro n h
    cases n with
    | zero => cases h
    | succ n => simp only [List.length_cons]; have := ih (n := n) h; omega
theorem len_ok {l' : List α} (h : smallLen l' 100 = true) : l'.length ≤ sizeLine := Nat.le_trans (smallLen_ok h) (by decide)
theorem k_dt : dtK (es, ρ) = dK1 (fun ds => .val (.tuple ds)) (shrs ρ es) := id rfl
theorem k_dl : dlK (es, ρ) = dK1 (fun ds => .fr (.list ds)) (shrs ρ es) := id rfl
theorem k_d1 (h : ds.length ≤ sizeLine) : dK1 (fun ds => .val (.tuple ds)) (some (ds, ρ)) = .ok (.val (.tuple ds), ρ) := if_pos h
theorem k_d2 (h : ds.length ≤ sizeLine) : dK1 (fun ds => .fr (.list ds)) (some (ds, ρ)) = .ok (.fr (.list ds), ρ) := if_pos h
/-- tests -/
def fBK (p : Ev × List B) : Rs (Bool × List B) := match peek p.2 p.1 with
  | some (.bool k) => .ok (k, p.2)
  | _ => .bad
theorem r_fB : fB fe ρ = Rs.bind (fe ρ) fBK := id rfl
theorem k_fB : fBK (.val (.bool bo), ρ) = .ok (bo, ρ) := id rfl
theorem r_and : andB ca cb ρ = Rs.bind (ca ρ) (ifK cb fun ρ => .ok (false, ρ)) := id rfl
theorem r_or : orB ca cb ρ = Rs.bind (ca ρ) (ifK (fun ρ => .ok (true, ρ)) cb) := id rfl
theorem r_andV : andV fa fb ρ = Rs.bind (fB fa ρ) (ifK fb fun ρ => .ok (.val (.bool false), ρ)) := id rfl
theorem r_orV : orV fa fb ρ = Rs.bind (fB fa ρ) (ifK (fun ρ => .ok (.val (.bool true), ρ)) fb) := id rfl
def notK (p : Bool × List B) : Rs (Bool × List B) := .ok (!p.1, p.2)
def notVK (p : Bool × List B) : Rs (Ev × List B) := .ok (.val (.bool (!p.1)), p.2)
theorem r_not : notB ca ρ = Rs.bind (ca ρ) notK := id rfl
theorem r_notV : notV fa ρ = Rs.bind (fB fa ρ) notVK := id rfl
theorem k_not : notK (bo, ρ) = .ok (!bo, ρ) := id rfl
theorem k_notV : notVK (bo, ρ) = .ok (.val (.bool (!bo)), ρ) := id rfl
theorem r_yes : yesB ρ = .ok (true, ρ) := id rfl
/-- x op y op z -/
def chK3 (b2 : PyData → PyData → Option Ev) (e : Ev) (r : Ev × List B) : Rs (Ev × List B) := resE r.2 (o2L2 b2 (peek r.2 e) (peek r.2 r.1))
def chB (b2 : PyData → PyData → Option Ev) (fc : SE) (e : Ev) (ρ : List B) : Option Bool → Rs (Ev × List B)
  | some false => .ok (.val (.bool false), ρ)
  | some true => Rs.bind (fc ρ) (chK3 b2 e)
  | none => .bad
def chK2 (b1 b2 : PyData → PyData → Option Ev) (fc : SE) (e : Ev) (q : Ev × List B) : Rs (Ev × List B) := chB b2 fc q.1 q.2 (boolD (o2L2 b1 (peek q.2 e) (peek q.2 q.1)))
def chK (b1 b2 : PyData → PyData → Option Ev) (fb fc : SE) (p : Ev × List B) : Rs (Ev × List B) := Rs.bind (fb p.2) (chK2 b1 b2 fc p.1)
theorem o2L2_eq {bd : PyData → PyData → Option Ev} {u v : Option PyData} : (u.bind fun d1 => v.bind fun d2 => bd d1 d2) = o2L2 bd u v := by
  cases u with
  | none => cases v <;> rfl
  | some d => cases v <;> rfl
theorem r_ch {b1 b2 : PyData → PyData → Option Ev} : ch3 b1 b2 fa fb fc ρ = Rs.bind (fa ρ) (chK b1 b2 fb fc) := by
  unfold ch3 chK
  congr 1
  funext p
  congr 1
  funext q
  unfold chK2 chB
  rw [o2L2_eq]
  cases boolD (o2L2 b1 (peek q.2 p.1) (peek q.2 q.1)) with
  | none => rfl
  | some k =>
    cases k with
    | false => rfl
    | true =>
      simp only []
      congr 1
      funext r
      unfold chK3
      rw [o2L2_eq]
theorem k_ch1 {b1 b2 : PyData → PyData → Option Ev} : chK b1 b2 fb fc (e, ρ) = Rs.bind (fb ρ) (chK2 b1 b2 fc e) := id rfl
theorem k_ch2 {b1 b2 : PyData → PyData → Option Ev} : chK2 b1 b2 fc e (e1, ρ) = chB b2 fc e1 ρ (boolD (o2L2 b1 (peek ρ e) (peek ρ e1))) := id rfl
theorem k_ch3 {b2 : PyData → PyData → Option Ev} : chB b2 fc e ρ (some bo) = if bo = true then Rs.bind (fc ρ) (chK3 b2 e) else .ok (.val (.bool false), ρ) := by cases bo <;> rfl
theorem k_ch4 {b2 : PyData → PyData → Option Ev} : chK3 b2 e (e1, ρ) = resE ρ (o2L2 b2 (peek ρ e) (peek ρ e1)) := id rfl
theorem k_ch5 : boolD (some (.val (.bool bo))) = some bo := id rfl
/-- calls -/
def caK (ms : List Bool) (F : SE) (dbs : List B) (p : List Ev × List B) : Rs (Ev × List B) := match cv1 ms p.1 p.2 with
  | some (es, ρ1) => (match cv2 ρ1 es with
    | some (bs, ls) => callR F (bs ++ dbs) (ls ++ dbs.map fun _ => none) ρ1
    | none => .bad)
  | none => .bad
theorem r_call {ms : List Bool} {F : SE} {dbs : List B} : callF ms F dbs fs ρ = Rs.bind (fs ρ) (caK ms F dbs) := id rfl
theorem c1_nil : cv1 [] [] ρ = some ([], ρ) := id rfl
theorem c1_t {ms : List Bool} : cv1 (true :: ms) (e :: es) ρ = (cv1 ms es ρ).map fun q => (e :: q.1, q.2) := id rfl
theorem c1_f {ms : List Bool} : cv1 (false :: ms) (.val d :: es) ρ = (cv1 ms es ρ).map fun q => (.val d :: q.1, q.2) := id rfl
def c1S (ρ : List B) (j : Nat) (ms : List Bool) (es : List Ev) : Option B → Option (List Ev × List B)
  | some (.own d) => (cv1 ms es (ρ.set j (.val d))).map fun q => (.val d :: q.1, q.2)
  | some (.val d) => (cv1 ms es ρ).map fun q => (.val d :: q.1, q.2)
  | _ => none
theorem c1_s {ms : List Bool} : cv1 (false :: ms) (.sl j :: es) ρ = c1S ρ j ms es ρ[j]? := by
  show ((shr ρ (.sl j)).bind fun p => (cv1 ms es p.2).map fun q => (Ev.val p.1 :: q.1, q.2)) = _
  unfold shr c1S
  dsimp only
  cases ρ[j]? with
  | none => rfl
  | some b => cases b <;> rfl
theorem c1_s1 {ms : List Bool} : c1S ρ j ms es (some (.own d)) = (cv1 ms es (ρ.set j (.val d))).map fun q => (.val d :: q.1, q.2) := id rfl
theorem c1_s2 {ms : List Bool} : c1S ρ j ms es (some (.val d)) = (cv1 ms es ρ).map fun q => (.val d :: q.1, q.2) := id rfl
def cc1 (F : SE) (dbs : List B) : Option (List Ev × List B) → Rs (Ev × List B)
  | some (es, ρ1) => (match cv2 ρ1 es with
    | some (bs, ls) => callR F (bs ++ dbs) (ls ++ dbs.map fun _ => none) ρ1
    | none => .bad)
  | none => .bad
def cc2 (F : SE) (dbs : List B) (ρ1 : List B) : Option (List B × List (Option Nat)) → Rs (Ev × List B)
  | some (bs, ls) => callR F (bs ++ dbs) (ls ++ dbs.map fun _ => none) ρ1
  | none => .bad
theorem k_ca {ms : List Bool} {F : SE} {dbs : List B} : caK ms F dbs (es, ρ) = cc1 F dbs (cv1 ms es ρ) := id rfl
theorem k_c1 {F : SE} {dbs : List B} : cc1 F dbs (some (es, ρ)) = cc2 F dbs ρ (cv2 ρ es) := id rfl
theorem k_c2 {F : SE} {dbs bs : List B} {ls' : List (Option Nat)} : cc2 F dbs ρ (some (bs, ls')) = callR F (bs ++ dbs) (ls' ++ dbs.map fun _ => none) ρ := id rfl
theorem c2_nil : cv2 ρ [] = some ([], []) := id rfl
theorem c2_v : cv2 ρ (.val d :: es) = (cv2 ρ es).map fun q => (.val d :: q.1, none :: q.2) := id rfl
def c2S (ρ : List B) (j : Nat) (es : List Ev) : Option B → Option (List B × List (Option Nat))
  | some (.own d) => (cv2 ρ es).map fun q => (.prm d :: q.1, some j :: q.2)
  | some (.prm d) => (cv2 ρ es).map fun q => (.prm d :: q.1, some j :: q.2)
  | some (.exc n) => (cv2 ρ es).map fun q => (.exc n :: q.1, none :: q.2)
  | _ => none
theorem c2_s : cv2 ρ (.sl j :: es) = c2S ρ j es ρ[j]? := by
  show ((cvB ρ (.sl j)).bind fun b => (cv2 ρ es).map fun q => (b.1 :: q.1, b.2 :: q.2)) = _
  unfold cvB c2S
  dsimp only
  cases ρ[j]? with
  | none => rfl
  | some b => cases b <;> rfl
theorem c2_s1 : c2S ρ j es (some (.own d)) = (cv2 ρ es).map fun q => (.prm d :: q.1, some j :: q.2) := id rfl
theorem c2_s3 {n : Str} : c2S ρ j es (some (.exc n)) = (cv2 ρ es).map fun q => (.exc n :: q.1, none :: q.2) := id rfl
theorem c2_s2 : c2S ρ j es (some (.prm d)) = (cv2 ρ es).map fun q => (.prm d :: q.1, some j :: q.2) := id rfl
def caW (ls : List (Option Nat)) (ρ : List B) : Rs (Ev × List B) → Rs (Ev × List B)
  | .ok (.val d, outs) => .ok (.val d, wb ls outs ρ)
  | .ok (.fr d, outs) => .ok (.fr d, wb ls outs ρ)
  | .ok (.sl _, _) => .bad
  | .ex n _ => .ex n (wbx ls ρ)
  | .bad => .bad
theorem k_call {F : SE} {bs : List B} {ls' : List (Option Nat)} : callR F bs ls' ρ = if dstL ls' = true then caW ls' ρ (F bs) else .bad := by
  unfold callR caW
  rfl
theorem k_w1 {ls' : List (Option Nat)} {outs : List B} : caW ls' ρ (.ok (.val d, outs)) = .ok (.val d, wb ls' outs ρ) := id rfl
theorem k_w2 {ls' : List (Option Nat)} {outs : List B} : caW ls' ρ (.ok (.fr d, outs)) = .ok (.fr d, wb ls' outs ρ) := id rfl
theorem k_w3 {ls' : List (Option Nat)} : caW ls' ρ (.ex n ρ') = .ex n (wbx ls' ρ) := id rfl
theorem k_wite {ls' : List (Option Nat)} {x y : Rs (Ev × List B)} : caW ls' ρ (if p then x else y) = if p then caW ls' ρ x else caW ls' ρ y := by split <;> rfl
theorem wb_nil {outs : List B} : wb [] outs ρ = ρ := by unfold wb; rfl
theorem wb_none {ls' : List (Option Nat)} {outs : List B} : wb (none :: ls') (b :: outs) ρ = wb ls' outs ρ := id rfl
def wbK (j : Nat) (ls : List (Option Nat)) (o : B) (outs : List B) (ρ : List B) : Option B → List B
  | some b => wb ls outs (ρ.set j (reB b o))
  | none => wb ls outs (ρ.set j .un)
theorem wb_some {ls' : List (Option Nat)} {outs : List B} : wb (some j :: ls') (b :: outs) ρ = wbK j ls' b outs ρ ρ[j]? := by
  unfold wbK
  show wb ls' outs _ = _
  cases ρ[j]? <;> rfl
theorem k_wb1 {ls' : List (Option Nat)} {outs : List B} {o : PyData} : wbK j ls' (.prm o) outs ρ (some (.own d)) = wb ls' outs (ρ.set j (.own o)) := id rfl
theorem k_wb2 {ls' : List (Option Nat)} {outs : List B} {o : PyData} : wbK j ls' (.prm o) outs ρ (some (.prm d)) = wb ls' outs (ρ.set j (.prm o)) := id rfl
theorem wbx_nil : wbx [] ρ = ρ := id rfl
theorem wbx_none {ls' : List (Option Nat)} : wbx (none :: ls') ρ = wbx ls' ρ := id rfl
theorem ap_nil {l' : List α} : l' ++ [] = l' := List.append_nil l'
theorem ap_nil2 {l' : List α} : [] ++ l' = l' := id rfl
theorem ap_cons {l' l2 : List α} : (a :: l') ++ l2 = a :: (l' ++ l2) := id rfl
theorem ma_nil {u : α → β} : List.map u [] = [] := id rfl
theorem ma_cons {u : α → β} {l' : List α} : List.map u (a :: l') = u a :: List.map u l' := id rfl
theorem ds_nil : dstL [] = true := id rfl
theorem ds_none {ls' : List (Option Nat)} : dstL (none :: ls') = dstL ls' := id rfl
theorem ds_some {ls' : List (Option Nat)} : dstL (some j :: ls') = (!memL j ls' && dstL ls') := id rfl
theorem me_nil : memL j [] = false := id rfl
theorem me_none {ls' : List (Option Nat)} : memL j (none :: ls') = memL j ls' := id rfl
theorem me_some {ls' : List (Option Nat)} : memL j (some i :: ls') = ((i == j) || memL j ls') := id rfl
/-- the end of a def -/
def outs : Nat → List B → List B := fun n ρ => (ρ.take n).map outB
theorem ou_0 : outs 0 ρ = [] := by unfold outs; rfl
theorem ou_s : outs (i + 1) (b :: ρ) = outB b :: outs i ρ := id rfl
theorem ob_val : outB (.val d) = .un := id rfl
theorem ob_own : outB (.own d) = .un := id rfl
theorem ob_un : outB .un = .un := id rfl
theorem ob_exc {n : Str} : outB (.exc n) = .un := id rfl
theorem ob_prm : outB (.prm d) = .prm d := id rfl
def retSl (outs : List B) : Option B → Rs (Ev × List B)
  | some (.val d) => .ok (.val d, outs)
  | some (.own d) => .ok (.fr d, outs)
  | _ => .bad
def leL : Nat → List B → Bool
  | 0, _ => true
  | _ + 1, [] => false
  | n + 1, _ :: l => leL n l
theorem leL_ok : ∀ {n : Nat} {ρ : List B}, leL n ρ = true → n ≤ ρ.length
  | 0, _, _ => Nat.zero_le _
  | n + 1, [], h => by cases h
  | n + 1, b :: l, h => Nat.succ_le_succ (leL_ok (n := n) (ρ := l) h)
theorem leL_of : ∀ {n : Nat} {ρ : List B}, n ≤ ρ.length → leL n ρ = true
  | 0, _, _ => by unfold leL; rfl
  | n + 1, [], h => by cases h
  | n + 1, b :: l, h => leL_of (n := n) (ρ := l) (Nat.le_of_succ_le_succ h)
theorem le_0 : leL 0 ρ = true := by unfold leL; rfl
theorem le_s : leL (i + 1) (b :: ρ) = leL i ρ := id rfl
theorem k_rf1 : retF m (.rt (.val d) ρ) = if leL m ρ = true then .ok (.val d, outs m ρ) else .bad := by
  by_cases h : leL m ρ = true
  · rw [if_pos h]; exact if_pos (leL_ok h)
  · rw [if_neg h]; exact if_neg fun q => h (leL_of q)
theorem k_rf2 : retF m (.rt (.fr d) ρ) = if leL m ρ = true then .ok (.fr d, outs m ρ) else .bad := by
  by_cases h : leL m ρ = true
  · rw [if_pos h]; exact if_pos (leL_ok h)
  · rw [if_neg h]; exact if_neg fun q => h (leL_of q)
theorem k_rf3 : retF m (.rt (.sl i) ρ) = if leL m ρ = true then retSl (outs m ρ) ρ[i]? else .bad := by
  by_cases h : leL m ρ = true
  case neg => rw [if_neg h]; exact if_neg fun q => h (leL_of q)
  rw [if_pos h]
  refine (if_pos (leL_ok h)).trans ?_
  show retF0 _ (.rt (.sl i) ρ) = _
  unfold retF0 retSl
  dsimp only
  cases ρ[i]? with
  | none => rfl
  | some b => cases b <;> rfl
theorem k_rf4 : retF m (.nx ρ) = if leL m ρ = true then .ok (.val .none, outs m ρ) else .bad := by
  by_cases h : leL m ρ = true
  · rw [if_pos h]; exact if_pos (leL_ok h)
  · rw [if_neg h]; exact if_neg fun q => h (leL_of q)
theorem k_rs1 {outs : List B} : retSl outs (some (.val d)) = .ok (.val d, outs) := id rfl
theorem k_rs2 {outs : List B} : retSl outs (some (.own d)) = .ok (.fr d, outs) := id rfl
/-- stores -/
def setG (i : Nat) (y k : PyData) (ρ : List B) : Option B → Rs Fl
  | some b => (match ownD b with
    | some d => (match setD d k y with
      | some d' => .ok (.nx (ρ.set i (reD b d')))
      | none => .bad)
    | none => .bad)
  | none => .bad
def setH (i : Nat) (y : PyData) (ρ : List B) : Option PyData → Rs Fl
  | some k => setG i y k ρ ρ[i]?
  | none => .bad
def setJ (i : Nat) (y : PyData) (q : Ev × List B) : Rs Fl := setH i y q.2 (peek q.2 q.1)
def setK (i : Nat) (fk : SE) (y : PyData) (ρ1 : List B) : Rs Fl := match (ρ1[i]?).bind ownD with
  | some _ => Rs.bind (fk ρ1) (setJ i y)
  | none => .bad
def setL (i : Nat) (fk : SE) (p : Ev × List B) : Rs Fl := shK (setK i fk) p.2 p.1
theorem r_set : setS i fk fe ρ = Rs.bind (fe ρ) (setL i fk) := by
  unfold setS setL shK
  congr 1
theorem k_set1 : setL i fk (e, ρ) = shK (setK i fk) ρ e := id rfl
def setM (fk : SE) (i : Nat) (y : PyData) (ρ1 : List B) : Option PyData → Rs Fl
  | some _ => Rs.bind (fk ρ1) (setJ i y)
  | none => .bad
theorem k_set2 {y : PyData} : setK i fk y ρ = setM fk i y ρ ((ρ[i]?).bind ownD) := by
  unfold setK setM
  rfl
theorem k_set3 {y : PyData} : setM fk i y ρ (some d) = Rs.bind (fk ρ) (setJ i y) := id rfl
theorem k_set4 {y : PyData} : setJ i y (e, ρ) = setH i y ρ (peek ρ e) := id rfl
theorem k_set5 {y k : PyData} : setH i y ρ (some k) = setG i y k ρ ρ[i]? := id rfl
def setO (i : Nat) (b : B) (ρ : List B) : Option PyData → Rs Fl
  | some d' => .ok (.nx (ρ.set i (reD b d')))
  | none => .bad
theorem k_set6 {y k : PyData} : setG i y k ρ (some (.own d)) = setO i (.own d) ρ (setD d k y) := by
  unfold setG setO
  rfl
theorem k_set7 {y k : PyData} : setG i y k ρ (some (.prm d)) = setO i (.prm d) ρ (setD d k y) := by
  unfold setG setO
  rfl
theorem k_set8 {d' : PyData} : setO i (.own d) ρ (some d') = .ok (.nx (ρ.set i (.own d'))) := id rfl
theorem k_set9 {d' : PyData} : setO i (.prm d) ρ (some d') = .ok (.nx (ρ.set i (.prm d'))) := id rfl
/-- a method that writes a list -/
def muA (i : Nat) (mt : PyData → List PyData → Option (PyData × PyData)) (ys : List PyData) (ρ1 : List B) : Option B → Rs (Ev × List B)
  | some b => (match ownD b with
      | some d => (match mt d ys with
        | some (d', v) => .ok (.val v, ρ1.set i (reD b d'))
        | none => .bad)
      | none => .bad)
  | none => .bad
def muB (i : Nat) (mt : PyData → List PyData → Option (PyData × PyData)) : Option (List PyData × List B) → Rs (Ev × List B)
  | some (ys, ρ1) => muA i mt ys ρ1 ρ1[i]?
  | none => .bad
def muC (i : Nat) (mt : PyData → List PyData → Option (PyData × PyData)) (p : List Ev × List B) : Rs (Ev × List B) := muB i mt (shrs p.2 p.1)
def muD (i : Nat) (mt : PyData → List PyData → Option (PyData × PyData)) (fa : SA) (ρ : List B) : Option PyData → Rs (Ev × List B)
  | some d => if isLst d = true then Rs.bind (fa ρ) (muC i mt) else .bad
  | none => .bad
theorem r_mut {mt : PyData → List PyData → Option (PyData × PyData)} : mutE i mt fs ρ = muD i mt fs ρ ((ρ[i]?).bind ownD) := by
  unfold mutE muD
  cases (ρ[i]?).bind ownD <;> rfl
theorem k_mu1 {mt : PyData → List PyData → Option (PyData × PyData)} : muD i mt fs ρ (some (.list ds)) = Rs.bind (fs ρ) (muC i mt) := id rfl
theorem k_mu2 {mt : PyData → List PyData → Option (PyData × PyData)} : muC i mt (es, ρ) = muB i mt (shrs ρ es) := id rfl
theorem k_mu3 {mt : PyData → List PyData → Option (PyData × PyData)} : muB i mt (some (ds, ρ)) = muA i mt ds ρ ρ[i]? := id rfl
def muE (i : Nat) (b : B) (ρ : List B) : Option (PyData × PyData) → Rs (Ev × List B)
  | some (d', v) => .ok (.val v, ρ.set i (reD b d'))
  | none => .bad
theorem k_mu4 {mt : PyData → List PyData → Option (PyData × PyData)} : muA i mt ds ρ (some (.own d)) = muE i (.own d) ρ (mt d ds) := by
  unfold muA muE
  rfl
theorem k_mu5 {mt : PyData → List PyData → Option (PyData × PyData)} : muA i mt ds ρ (some (.prm d)) = muE i (.prm d) ρ (mt d ds) := by
  unfold muA muE
  rfl
theorem k_mu6 {d' v : PyData} : muE i (.own d) ρ (some (d', v)) = .ok (.val v, ρ.set i (.own d')) := id rfl
theorem k_mu7 {d' v : PyData} : muE i (.prm d) ρ (some (d', v)) = .ok (.val v, ρ.set i (.prm d')) := id rfl
theorem k_app {y : PyData} (h : ds.length < sizeLine) : mtApp (.list ds) [y] = some (.list (ds ++ [y]), .none) := by
  unfold mtApp appD
  simp only [if_pos h, Option.map]
theorem k_apps {y : PyData} (h : smallLen ds 100 = true) : mtApp (.list ds) [y] = some (.list (ds ++ [y]), .none) := k_app (Nat.lt_of_le_of_lt (smallLen_ok h) (by decide))
theorem lt_line {n : Nat} (h : n ≤ 1000000) : n < sizeLine := Nat.lt_of_le_of_lt h (by decide)
/-- two names at once -/
def paK2 (i j : Nat) (e1 : Ev) (q : Ev × List B) : Rs Fl := match resv q.2 e1 with
  | some (e1, ρ1) => (match resv ρ1 q.1 with
    | some (e2, ρ2) => (match bindV i e1 ρ2 with
      | .ok ρ3 => (match bindV j e2 ρ3 with
        | .ok ρ4 => .ok (.nx ρ4)
        | _ => .bad)
      | _ => .bad)
    | none => .bad)
  | none => .bad
def paK (i j : Nat) (fb : SE) (p : Ev × List B) : Rs Fl := Rs.bind (fb p.2) (paK2 i j p.1)
theorem r_par : parS i j fa fb ρ = Rs.bind (fa ρ) (paK i j fb) := id rfl
theorem k_par1 : paK i j fb (e, ρ) = Rs.bind (fb ρ) (paK2 i j e) := id rfl
theorem k_par2 : paK2 i j (.val d1) (.val d2, ρ) = .ok (.nx ((ρ.set i (.val d1)).set j (.val d2))) := id rfl
theorem k_par3 : paK2 i j (.val d1) (.fr d2, ρ) = .ok (.nx ((ρ.set i (.val d1)).set j (.own d2))) := id rfl
theorem k_par4 : paK2 i j (.fr d1) (.val d2, ρ) = .ok (.nx ((ρ.set i (.own d1)).set j (.val d2))) := id rfl
theorem k_par5 : paK2 i j (.fr d1) (.fr d2, ρ) = .ok (.nx ((ρ.set i (.own d1)).set j (.own d2))) := id rfl
def p3K (i j l : Nat) : Option (List PyData × List B) → Rs Fl
  | some ([d1, d2, d3], ρ1) => .ok (.nx (((ρ1.set i (.val d1)).set j (.val d2)).set l (.val d3)))
  | _ => .bad
def p3L (i j l : Nat) (p : List Ev × List B) : Rs Fl := p3K i j l (shrs p.2 p.1)
theorem r_par3 : par3S i j l fs ρ = Rs.bind (fs ρ) (p3L i j l) := by
  unfold par3S p3L p3K
  congr 1
theorem k_p3a : p3L i j l (es, ρ) = p3K i j l (shrs ρ es) := id rfl
theorem k_p3b : p3K i j l (some ([d1, d2, d3], ρ)) = .ok (.nx (((ρ.set i (.val d1)).set j (.val d2)).set l (.val d3))) := id rfl
/-- several names at once -/
def pnL (is : List Nat) : Option (List Ev × List B) → Rs Fl
  | some (es, ρ1) => Rs.bind (bindN is es ρ1) fun ρ' => .ok (.nx ρ')
  | none => .bad
def pnK (is : List Nat) (p : List Ev × List B) : Rs Fl := pnL is (resN p.2 p.1)
theorem r_parN {is : List Nat} {fs : List SE} : parN is fs ρ = Rs.bind (evN fs ρ) (pnK is) := by
  unfold parN pnK pnL
  congr 1
theorem k_pn1 {is : List Nat} : pnK is (es, ρ) = pnL is (resN ρ es) := id rfl
def nxK (ρ : List B) : Rs Fl := .ok (.nx ρ)
theorem k_pn2 {is : List Nat} : pnL is (some (es, ρ)) = Rs.bind (bindN is es ρ) nxK := id rfl
theorem k_nx : nxK ρ = .ok (.nx ρ) := id rfl
def evK2 (e : Ev) (q : List Ev × List B) : Rs (List Ev × List B) := .ok (e :: q.1, q.2)
def evK (fs : List SE) (p : Ev × List B) : Rs (List Ev × List B) := Rs.bind (evN fs p.2) (evK2 p.1)
theorem ev_nil : evN [] ρ = .ok ([], ρ) := id rfl
theorem ev_cons {fs : List SE} : evN (fe :: fs) ρ = Rs.bind (fe ρ) (evK fs) := id rfl
theorem k_ev1 {fs : List SE} : evK fs (e, ρ) = Rs.bind (evN fs ρ) (evK2 e) := id rfl
theorem k_ev2 : evK2 e (es, ρ) = .ok (e :: es, ρ) := id rfl
theorem rs_nil : resN ρ [] = some ([], ρ) := id rfl
theorem rs_val : resN ρ (.val d :: es) = (resN ρ es).map fun q => (.val d :: q.1, q.2) := id rfl
theorem rs_fr : resN ρ (.fr d :: es) = (resN ρ es).map fun q => (.fr d :: q.1, q.2) := id rfl
def rsS (ρ : List B) (j : Nat) (es : List Ev) : Option B → Option (List Ev × List B)
  | some (.own d) => (resN (ρ.set j (.val d)) es).map fun q => (.val d :: q.1, q.2)
  | some (.val d) => (resN ρ es).map fun q => (.val d :: q.1, q.2)
  | _ => none
theorem rs_sl : resN ρ (.sl j :: es) = rsS ρ j es ρ[j]? := by
  show ((resv ρ (.sl j)).bind fun p => (resN p.2 es).map fun q => (p.1 :: q.1, q.2)) = _
  unfold resv shr rsS
  dsimp only
  cases ρ[j]? with
  | none => rfl
  | some b => cases b <;> rfl
theorem k_rsS1 : rsS ρ j es (some (.own d)) = (resN (ρ.set j (.val d)) es).map fun q => (.val d :: q.1, q.2) := id rfl
theorem k_rsS2 : rsS ρ j es (some (.val d)) = (resN ρ es).map fun q => (.val d :: q.1, q.2) := id rfl
theorem bn_nil : bindN [] [] ρ = .ok ρ := id rfl
theorem bn_val {is : List Nat} : bindN (i :: is) (.val d :: es) ρ = bindN is es (ρ.set i (.val d)) := id rfl
theorem bn_fr {is : List Nat} : bindN (i :: is) (.fr d :: es) ρ = bindN is es (ρ.set i (.own d)) := id rfl
/-- [..] * k -/
def rpK2 (e : Ev) (q : Ev × List B) : Rs (Ev × List B) := repR q.2 e (peek q.2 q.1)
def rpK (fb : SE) (p : Ev × List B) : Rs (Ev × List B) := Rs.bind (fb p.2) (rpK2 p.1)
theorem r_rep : repE fa fb ρ = Rs.bind (fa ρ) (rpK fb) := id rfl
theorem k_rp1 : rpK fb (e, ρ) = Rs.bind (fb ρ) (rpK2 e) := id rfl
theorem k_rp2 : rpK2 e (e1, ρ) = repR ρ e (peek ρ e1) := id rfl
theorem k_rp3 {k : Int} (h : ds.length ≤ 1000 ∧ k < 10000 ∧ -10000 < k) : repR ρ (.fr (.list ds)) (some (.int k)) = .ok (.fr (.list (List.replicate k.toNat ds).flatten), ρ) := if_pos h
theorem ixN_last {n : Nat} : ixN (n + 1) (-1) = some n := by
  unfold ixN
  rw [if_neg (by omega)]
  split
  · congr 1
    omega
  · omega
theorem set_last {y z : PyData} : setD (.list (ds ++ [z])) (.int (-1)) y = some (.list (ds ++ [y])) := by
  unfold setD
  dsimp only
  rw [List.length_append, show ds.length + [z].length = ds.length + 1 from rfl, ixN_last]
  simp
theorem ix_last {l' : List α} : atI (l' ++ [a]) (-1 : Int) = some a := by
  unfold atI
  rw [List.length_append, show l'.length + [a].length = l'.length + 1 from rfl, ixN_last]
  simp
/-- loops -/
def foK (t : SG) (b : SS) (p : List PyData × List B) : Rs Fl := forL t b p.1 p.2
theorem r_for {b : SS} : forS it t b ρ = Rs.bind (it ρ) (foK t b) := id rfl
theorem k_for {b : SS} : foK t b (ds, ρ) = forL t b ds ρ := id rfl
theorem fo_nil {b : SS} : forL t b [] ρ = .ok (.nx ρ) := by unfold forL; rfl
def foN (t : SG) (b : SS) (ds : List PyData) : Fl → Rs Fl
  | .nx ρ2 => forL t b ds ρ2
  | .ct ρ2 => forL t b ds ρ2
  | .bk ρ2 => .ok (.nx ρ2)
  | .rt e ρ2 => .ok (.rt e ρ2)
def foT (t : SG) (b : SS) (ds : List PyData) : Rs (List B) → Rs Fl
  | .ok ρ1 => Rs.bind (b ρ1) (foN t b ds)
  | _ => .bad
theorem fo_cons {b : SS} : forL t b (d :: ds) ρ = foT t b ds (t d ρ) := by
  conv => lhs; unfold forL
  unfold foT
  cases t d ρ <;> rfl
theorem k_fo0 {b : SS} : foT t b ds (.ok ρ) = Rs.bind (b ρ) (foN t b ds) := id rfl
theorem k_fo1 {b : SS} : foN t b ds (.nx ρ) = forL t b ds ρ := id rfl
theorem k_fo2 {b : SS} : foN t b ds (.ct ρ) = forL t b ds ρ := id rfl
theorem k_fo3 {b : SS} : foN t b ds (.bk ρ) = .ok (.nx ρ) := id rfl
theorem k_fo4 {b : SS} : foN t b ds (.rt e ρ) = .ok (.rt e ρ) := id rfl
/-- one turn of a loop; continue is as the end of the body -/
def tuK : Fl → Rs Fl
  | .ct ρ => .ok (.nx ρ)
  | r => .ok r
def tuT (b : SS) : Rs (List B) → Rs Fl
  | .ok ρ1 => Rs.bind (b ρ1) tuK
  | _ => .bad
def turn (t : SG) (b : SS) (d : PyData) (ρ : List B) : Rs Fl := tuT b (t d ρ)
theorem r_turn {b : SS} : turn t b d ρ = tuT b (t d ρ) := id rfl
theorem k_tu0 {b : SS} : tuT b (.ok ρ) = Rs.bind (b ρ) tuK := id rfl
theorem k_tu1 : tuK (.nx ρ) = .ok (.nx ρ) := id rfl
theorem k_tu2 : tuK (.ct ρ) = .ok (.nx ρ) := id rfl
theorem k_tu3 : tuK (.bk ρ) = .ok (.bk ρ) := id rfl
theorem k_tu4 : tuK (.rt e ρ) = .ok (.rt e ρ) := id rfl
theorem turn_nx {t : SG} {b : SS} {d : PyData} {ρ ρ' : List B} {ds : List PyData} (h : turn t b d ρ = .ok (.nx ρ')) : forL t b (d :: ds) ρ = forL t b ds ρ' := by
  rw [fo_cons]
  unfold turn at h
  cases ht : t d ρ with
  | ex m r => rw [ht] at h; cases h
  | bad => rw [ht] at h; cases h
  | ok ρ3 =>
    rw [ht, k_tu0] at h
    rw [k_fo0]
    cases hb : b ρ3 with
    | ex m r => rw [hb] at h; cases h
    | bad => rw [hb] at h; cases h
    | ok fl =>
      rw [hb, rb_ok] at h
      rw [rb_ok]
      cases fl with
      | nx ρ4 => rw [k_tu1] at h; cases h; rfl
      | ct ρ4 => rw [k_tu2] at h; cases h; rfl
      | bk ρ4 => rw [k_tu3] at h; cases h
      | rt e ρ4 => rw [k_tu4] at h; cases h
/-- loops over mapped lists -/
theorem fo_fold {α σ : Type} {enc : α → PyData} {t : SG} {b : SS} (I : σ → List B → Prop) (step : σ → α → σ) : ∀ {xs : List α} {s : σ} {ρ : List B}, I s ρ → (∀ x ∈ xs, ∀ s ρ, I s ρ → ∃ ρ', turn t b (enc x) ρ = .ok (.nx ρ') ∧ I (step s x) ρ') → ∃ ρ', forL t b (xs.map enc) ρ = .ok (.nx ρ') ∧ I (xs.foldl step s) ρ'
  | [], s, ρ, h, _ => ⟨ρ, fo_nil, h⟩
  | x :: xs, s, ρ, h, st => by
    obtain ⟨ρ1, e1, h1⟩ := st x (List.mem_cons_self ..) s ρ h
    obtain ⟨ρ2, e2, h2⟩ := fo_fold I step h1 fun z hz => st z (List.mem_cons_of_mem _ hz)
    exact ⟨ρ2, by rw [List.map_cons, turn_nx e1]; exact e2, h2⟩
/-- a loop with an invariant of the turn's place -/
theorem fo_inv {α : Type} {enc : α → PyData} {t : SG} {b : SS} (I : List B → Prop) {xs : List α} {ρ : List B} (h0 : I ρ) (st : ∀ x ∈ xs, ∀ ρ, I ρ → ∃ ρ', turn t b (enc x) ρ = .ok (.nx ρ') ∧ I ρ') : ∃ ρ', forL t b (xs.map enc) ρ = .ok (.nx ρ') ∧ I ρ' :=
  fo_fold (σ := Unit) (fun _ => I) (fun s _ => s) (s := ()) h0 fun x hx _ ρ h => st x hx ρ h
def seqIK (k : PyData → Option (List PyData)) (d : PyData) (ρ1 : List B) : Rs (List PyData × List B) := match k d with
    | some ds => .ok (ds, ρ1)
    | none => .bad
def seqIL (k : PyData → Option (List PyData)) (p : Ev × List B) : Rs (List PyData × List B) := shK (seqIK k) p.2 p.1
theorem r_seqI {k : PyData → Option (List PyData)} : seqI k fe ρ = Rs.bind (fe ρ) (seqIL k) := by
  unfold seqI seqIL shK seqIK
  congr 1
theorem k_seqI {k : PyData → Option (List PyData)} : seqIL k (e, ρ) = shK (seqIK k) ρ e := id rfl
theorem k_seqI1 : seqIK lstK (.list ds) ρ = .ok (ds, ρ) := id rfl
theorem k_seqI3 : seqIK bothK (.list ds) ρ = .ok (ds, ρ) := id rfl
theorem k_seqI5 : seqIK enumK (.list ds) ρ = .ok (enD ds, ρ) := id rfl
theorem k_seqI6 : seqIK enumK (.tuple ds) ρ = .ok (enD ds, ρ) := id rfl
theorem k_seqI4 : seqIK bothK (.tuple ds) ρ = .ok (ds, ρ) := id rfl
theorem k_seqI2 : seqIK tupK (.tuple ds) ρ = .ok (ds, ρ) := id rfl
def rg1 (ρ : List B) : Option (List PyData) → Rs (List PyData × List B)
  | some [.int j] => if rngOk j = true then .ok ((List.range j.toNat).map fun i : Nat => PyData.int (0 + i), ρ) else .bad
  | _ => .bad
def rg1K (p : List Ev × List B) : Rs (List PyData × List B) := rg1 p.2 (peeks p.2 p.1)
theorem r_rng1 : rng1I fs ρ = Rs.bind (fs ρ) rg1K := id rfl
theorem k_rng1 : rg1K (es, ρ) = rg1 ρ (peeks ρ es) := id rfl
theorem k_rng1b {j : Int} (h : rngOk j = true) : rg1 ρ (some [.int j]) = .ok ((List.range j.toNat).map fun i : Nat => PyData.int (0 + i), ρ) := if_pos h
def rg2 (ρ : List B) : Option (List PyData) → Rs (List PyData × List B)
  | some [.int i, .int j] => if (rngOk i && rngOk j) = true then .ok ((List.range (j - i).toNat).map fun k : Nat => PyData.int (i + k), ρ) else .bad
  | _ => .bad
def rg2K (p : List Ev × List B) : Rs (List PyData × List B) := rg2 p.2 (peeks p.2 p.1)
theorem r_rng2 : rng2I fs ρ = Rs.bind (fs ρ) rg2K := id rfl
theorem k_rng2 : rg2K (es, ρ) = rg2 ρ (peeks ρ es) := id rfl
theorem k_rng2b {i j : Int} (h : (rngOk i && rngOk j) = true) : rg2 ρ (some [.int i, .int j]) = .ok ((List.range (j - i).toNat).map fun k : Nat => PyData.int (i + k), ρ) := if_pos h
theorem rgl_0 : (List.range (Int.toNat 0)).map (fun i : Nat => PyData.int (0 + i)) = [] := id rfl
theorem rgl_1 : (List.range (Int.toNat 1)).map (fun i : Nat => PyData.int (0 + i)) = [.int 0] := id rfl
theorem rgl_2 : (List.range (Int.toNat 2)).map (fun i : Nat => PyData.int (0 + i)) = [.int 0, .int 1] := id rfl
theorem rgl_3 : (List.range (Int.toNat 3)).map (fun i : Nat => PyData.int (0 + i)) = [.int 0, .int 1, .int 2] := id rfl
theorem rgl_4 : (List.range (Int.toNat 4)).map (fun i : Nat => PyData.int (0 + i)) = [.int 0, .int 1, .int 2, .int 3] := id rfl
theorem rgl_5 : (List.range (Int.toNat 5)).map (fun i : Nat => PyData.int (0 + i)) = [.int 0, .int 1, .int 2, .int 3, .int 4] := id rfl
theorem rgl_6 : (List.range (Int.toNat 6)).map (fun i : Nat => PyData.int (0 + i)) = [.int 0, .int 1, .int 2, .int 3, .int 4, .int 5] := id rfl
theorem rgl_7 : (List.range (Int.toNat 7)).map (fun i : Nat => PyData.int (0 + i)) = [.int 0, .int 1, .int 2, .int 3, .int 4, .int 5, .int 6] := id rfl
theorem rgl_8 : (List.range (Int.toNat 8)).map (fun i : Nat => PyData.int (0 + i)) = [.int 0, .int 1, .int 2, .int 3, .int 4, .int 5, .int 6, .int 7] := id rfl
theorem rgl_9 : (List.range (Int.toNat 9)).map (fun i : Nat => PyData.int (0 + i)) = [.int 0, .int 1, .int 2, .int 3, .int 4, .int 5, .int 6, .int 7, .int 8] := id rfl
theorem rgl_10 : (List.range (Int.toNat 10)).map (fun i : Nat => PyData.int (0 + i)) = [.int 0, .int 1, .int 2, .int 3, .int 4, .int 5, .int 6, .int 7, .int 8, .int 9] := id rfl
theorem rgl_12 : (List.range (Int.toNat 12)).map (fun i : Nat => PyData.int (0 + i)) = [.int 0, .int 1, .int 2, .int 3, .int 4, .int 5, .int 6, .int 7, .int 8, .int 9, .int 10, .int 11] := id rfl
theorem rgl_16 : (List.range (Int.toNat 16)).map (fun i : Nat => PyData.int (0 + i)) = [.int 0, .int 1, .int 2, .int 3, .int 4, .int 5, .int 6, .int 7, .int 8, .int 9, .int 10, .int 11, .int 12, .int 13, .int 14, .int 15] := id rfl
theorem r1l_1 : (List.range (Int.toNat 1)).map (fun i : Nat => PyData.int (1 + i)) = [.int 1] := id rfl
theorem r1l_2 : (List.range (Int.toNat 2)).map (fun i : Nat => PyData.int (1 + i)) = [.int 1, .int 2] := id rfl
theorem r1l_3 : (List.range (Int.toNat 3)).map (fun i : Nat => PyData.int (1 + i)) = [.int 1, .int 2, .int 3] := id rfl
theorem r1l_4 : (List.range (Int.toNat 4)).map (fun i : Nat => PyData.int (1 + i)) = [.int 1, .int 2, .int 3, .int 4] := id rfl
theorem r1l_5 : (List.range (Int.toNat 5)).map (fun i : Nat => PyData.int (1 + i)) = [.int 1, .int 2, .int 3, .int 4, .int 5] := id rfl
theorem r1l_6 : (List.range (Int.toNat 6)).map (fun i : Nat => PyData.int (1 + i)) = [.int 1, .int 2, .int 3, .int 4, .int 5, .int 6] := id rfl
theorem r1l_8 : (List.range (Int.toNat 8)).map (fun i : Nat => PyData.int (1 + i)) = [.int 1, .int 2, .int 3, .int 4, .int 5, .int 6, .int 7, .int 8] := id rfl
theorem rpl_0 : (List.replicate (Int.toNat 0) [d]).flatten = [] := id rfl
theorem rpl_1 : (List.replicate (Int.toNat 1) [d]).flatten = [d] := id rfl
theorem rpl_2 : (List.replicate (Int.toNat 2) [d]).flatten = [d, d] := id rfl
theorem rpl_3 : (List.replicate (Int.toNat 3) [d]).flatten = [d, d, d] := id rfl
theorem rpl_4 : (List.replicate (Int.toNat 4) [d]).flatten = [d, d, d, d] := id rfl
theorem rpl_5 : (List.replicate (Int.toNat 5) [d]).flatten = [d, d, d, d, d] := id rfl
theorem rpl_6 : (List.replicate (Int.toNat 6) [d]).flatten = [d, d, d, d, d, d] := id rfl
theorem rpl_7 : (List.replicate (Int.toNat 7) [d]).flatten = [d, d, d, d, d, d, d] := id rfl
theorem rpl_8 : (List.replicate (Int.toNat 8) [d]).flatten = [d, d, d, d, d, d, d, d] := id rfl
/-- comprehensions -/
def lcK1 (ρv : List Nat) : Option (List PyData × List B) → Rs (Ev × List B)
  | some (all, ρe) => .ok (.fr (.list all), wipeB ρe ρv)
  | none => .bad
def lcK (t : SG) (c : SB) (fe : SE) (vs : List Nat) (p : List PyData × List B) : Rs (Ev × List B) := lcK1 vs (lcL t c fe vs 0 p.1 (wipeB p.2 vs))
theorem r_lc {vs : List Nat} : lcE it t c fe vs ρ = Rs.bind (it ρ) (lcK t c fe vs) := by
  unfold lcE lcK lcK1
  congr 1
theorem k_lc {vs : List Nat} : lcK t c fe vs (ds, ρ) = lcK1 vs (lcL t c fe vs 0 ds (wipeB ρ vs)) := id rfl
def lcD (t : SG) (c : SB) (fe : SE) (vs : List Nat) (n : Nat) (ds : List PyData) (y : PyData) (ρ4 : List B) : Option (List PyData × List B) := if n < sizeLine then (lcL t c fe vs (n + 1) ds (wipeB ρ4 vs)).map fun p => (y :: p.1, p.2) else none
def lcO (k : PyData → List B → Option (List PyData × List B)) : Option (PyData × List B) → Option (List PyData × List B)
  | some (y, ρ4) => k y ρ4
  | none => none
def lcC (t : SG) (c : SB) (fe : SE) (vs : List Nat) (n : Nat) (ds : List PyData) : Rs (Ev × List B) → Option (List PyData × List B)
  | .ok (e, ρ3) => lcO (lcD t c fe vs n ds) (shr ρ3 (G.settle e))
  | _ => none
def lcB (t : SG) (c : SB) (fe : SE) (vs : List Nat) (n : Nat) (ds : List PyData) : Rs (Bool × List B) → Option (List PyData × List B)
  | .ok (bo, ρ2) => if bo = true then lcC t c fe vs n ds (fe ρ2) else lcL t c fe vs n ds (wipeB ρ2 vs)
  | _ => none
def lcA (t : SG) (c : SB) (fe : SE) (vs : List Nat) (n : Nat) (ds : List PyData) : Rs (List B) → Option (List PyData × List B)
  | .ok ρ1 => lcB t c fe vs n ds (c ρ1)
  | _ => none
theorem l_nil {vs : List Nat} : lcL t c fe vs i [] ρ = some ([], ρ) := by unfold lcL; rfl
theorem l_cons {vs : List Nat} : lcL t c fe vs i (d :: ds) ρ = lcA t c fe vs i ds (t d ρ) := by
  conv => lhs; unfold lcL
  unfold lcA
  cases t d ρ with
  | ex n ρ => rfl
  | bad => rfl
  | ok ρ1 =>
    dsimp only
    unfold lcB
    cases c ρ1 with
    | ex n ρ => rfl
    | bad => rfl
    | ok q =>
      obtain ⟨b, ρ2⟩ := q
      cases b with
      | false => rfl
      | true =>
        dsimp only
        rw [if_pos rfl]
        unfold lcC
        cases fe ρ2 with
        | ex n ρ => rfl
        | bad => rfl
        | ok q =>
          obtain ⟨e, ρ3⟩ := q
          dsimp only
          unfold lcO lcD
          cases shr ρ3 (G.settle e) <;> rfl
theorem l_A {vs : List Nat} : lcA t c fe vs i ds (.ok ρ) = lcB t c fe vs i ds (c ρ) := id rfl
theorem l_B {vs : List Nat} : lcB t c fe vs i ds (.ok (bo, ρ)) = if bo = true then lcC t c fe vs i ds (fe ρ) else lcL t c fe vs i ds (wipeB ρ vs) := id rfl
theorem l_C {vs : List Nat} : lcC t c fe vs i ds (.ok (.val d, ρ)) = lcD t c fe vs i ds d ρ := id rfl
theorem l_C2 {vs : List Nat} : lcC t c fe vs i ds (.ok (.fr d, ρ)) = lcD t c fe vs i ds d ρ := id rfl
def lcS (k : PyData → List B → Option (List PyData × List B)) (j : Nat) (ρ : List B) : Option B → Option (List PyData × List B)
  | some (.own d) => k d (ρ.set j (.val d))
  | some (.val d) => k d ρ
  | _ => none
theorem l_C3 {vs : List Nat} : lcC t c fe vs i ds (.ok (.sl j, ρ)) = lcS (lcD t c fe vs i ds) j ρ ρ[j]? := by
  unfold lcC settle shr lcS lcO
  dsimp only
  cases ρ[j]? with
  | none => rfl
  | some b => cases b <;> rfl
theorem l_S1 {k : PyData → List B → Option (List PyData × List B)} : lcS k j ρ (some (.own d)) = k d (ρ.set j (.val d)) := id rfl
theorem l_S2 {k : PyData → List B → Option (List PyData × List B)} : lcS k j ρ (some (.val d)) = k d ρ := id rfl
theorem l_D {vs : List Nat} (h : i < sizeLine) : lcD t c fe vs i ds d ρ = (lcL t c fe vs (i + 1) ds (wipeB ρ vs)).map fun p => (d :: p.1, p.2) := if_pos h
theorem lcL_cons1 {t : SG} {c : SB} {fe : SE} {vs : List Nat} {d : PyData} {ρ ρ' : List B} {ys : List PyData} (h : lcL t c fe vs 0 [d] ρ = some (ys, ρ')) : ys.length ≤ 1 ∧ ∀ n ds, n < sizeLine → lcL t c fe vs n (d :: ds) ρ = (lcL t c fe vs (n + ys.length) ds ρ').map fun p => (ys ++ p.1, p.2) := by
  rw [l_cons] at h
  cases ht : t d ρ with
  | ex m r => rw [ht] at h; cases h
  | bad => rw [ht] at h; cases h
  | ok ρ1 =>
    rw [ht, l_A] at h
    cases hc : c ρ1 with
    | ex m r => rw [hc] at h; cases h
    | bad => rw [hc] at h; cases h
    | ok q =>
      obtain ⟨b, ρ2⟩ := q
      rw [hc, l_B] at h
      cases b with
      | false =>
        rw [if_neg (by simp), l_nil] at h
        cases h
        refine ⟨by simp, fun n ds hn => ?_⟩
        rw [l_cons, ht, l_A, hc, l_B, if_neg (by simp)]
        simp only [List.length_nil, Nat.add_zero, List.nil_append]
        cases lcL t c fe vs n ds (wipeB ρ2 vs) <;> rfl
      | true =>
        rw [if_pos rfl] at h
        cases hf : fe ρ2 with
        | ex m r => rw [hf] at h; cases h
        | bad => rw [hf] at h; cases h
        | ok q =>
          obtain ⟨e, ρ3⟩ := q
          rw [hf] at h
          unfold lcC at h
          dsimp only at h
          cases hs : shr ρ3 (G.settle e) with
          | none => rw [hs] at h; cases h
          | some q =>
            obtain ⟨y, ρ4⟩ := q
            rw [hs] at h
            unfold lcO lcD at h
            dsimp only at h
            rw [if_pos (by decide), l_nil] at h
            cases h
            refine ⟨by simp, fun n ds hn => ?_⟩
            rw [l_cons, ht, l_A, hc, l_B, if_pos rfl, hf]
            unfold lcC
            dsimp only
            rw [hs]
            unfold lcO lcD
            dsimp only
            rw [if_pos hn]
            rfl
/-- a comprehension whose turns leave the frame as it was -/
theorem lc_fm {α : Type} {enc : α → PyData} {t : SG} {c : SB} {fe : SE} {vs : List Nat} {ρ : List B} (g : α → Option PyData) : ∀ {xs : List α} {n : Nat}, (∀ x ∈ xs, lcL t c fe vs 0 [enc x] ρ = some ((g x).toList, ρ)) → n + xs.length ≤ sizeLine → lcL t c fe vs n (xs.map enc) ρ = some (xs.filterMap g, ρ)
  | [], n, _, _ => by rw [List.map_nil, l_nil]; rfl
  | x :: xs, n, h, hn => by
    simp only [List.length_cons] at hn
    obtain ⟨h1, h2⟩ := lcL_cons1 (h x (List.mem_cons_self ..))
    rw [List.map_cons, h2 n _ (by omega), lc_fm g (fun z hz => h z (List.mem_cons_of_mem _ hz)) (by omega)]
    cases hg : g x with
    | none => rw [List.filterMap_cons_none hg]; rfl
    | some y => rw [List.filterMap_cons_some hg]; rfl
theorem lc_map {α : Type} {enc : α → PyData} {t : SG} {c : SB} {fe : SE} {vs : List Nat} {ρ : List B} (g : α → PyData) {xs : List α} {n : Nat} (h : ∀ x ∈ xs, lcL t c fe vs 0 [enc x] ρ = some ([g x], ρ)) (hn : n + xs.length ≤ sizeLine) : lcL t c fe vs n (xs.map enc) ρ = some (xs.map g, ρ) := by
  rw [lc_fm (fun x => some (g x)) (fun x hx => h x hx) hn]
  congr 2
  exact congrFun (List.filterMap_eq_map (f := g)) xs
theorem k_lc1 {vs : List Nat} : lcK1 vs (some (ds, ρ)) = .ok (.fr (.list ds), wipeB ρ vs) := id rfl
theorem wi_nil : wipeB ρ [] = ρ := id rfl
theorem wi_cons {vs : List Nat} : wipeB ρ (i :: vs) = (wipeB ρ vs).set i .un := id rfl
theorem mulOk_l {x y : Int} (h : smallI x = true) : mulOk x y = true := by unfold mulOk; rw [h]; rfl
theorem mulOk_r {x y : Int} (h : smallI y = true) : mulOk x y = true := by unfold mulOk; rw [h]; simp
/-- slices -/
def slO (o o2 : Option Int) : Option PyData → Option Ev
  | some d => cutD d o o2
  | none => none
def slK3 (e : Ev) (o : Option Int) (q : Option Int × List B) : Rs (Ev × List B) := resE q.2 (slO o q.1 (peek q.2 e))
def slK2 (ph : SP) (e : Ev) (q : Option Int × List B) : Rs (Ev × List B) := Rs.bind (ptP ph q.2) (slK3 e q.1)
def slK1 (pl ph : SP) (p : Ev × List B) : Rs (Ev × List B) := Rs.bind (ptP pl p.2) (slK2 ph p.1)
theorem r_sl {pl ph : SP} : slE fe pl ph ρ = Rs.bind (fe ρ) (slK1 pl ph) := by
  unfold slE slK1
  congr 1
  funext p
  congr 1
  funext l
  unfold slK2
  congr 1
  funext u
  unfold slK3 slO
  cases peek u.2 p.1 <;> rfl
theorem k_sla {pl ph : SP} : slK1 pl ph (e, ρ) = Rs.bind (ptP pl ρ) (slK2 ph e) := id rfl
theorem k_slb {ph : SP} {o : Option Int} : slK2 ph e (o, ρ) = Rs.bind (ptP ph ρ) (slK3 e o) := id rfl
theorem k_slc {o o2 : Option Int} : slK3 e o (o2, ρ) = resE ρ (slO o o2 (peek ρ e)) := id rfl
theorem k_sld {o o2 : Option Int} : slO o o2 (some d) = cutD d o o2 := id rfl
theorem pt_n : ptP none ρ = .ok (none, ρ) := id rfl
def ptK (p : Ev × List B) : Rs (Option Int × List B) := match peek p.2 p.1 with
    | some (.int i) => .ok (some i, p.2)
    | _ => .bad
theorem pt_s : ptP (some fe) ρ = Rs.bind (fe ρ) ptK := id rfl
theorem k_pt {x : Int} : ptK (.val (.int x), ρ) = .ok (some x, ρ) := id rfl
theorem cu_t {o o2 : Option Int} : cutD (.tuple ds) o o2 = some (.val (.tuple (cutL ds o o2))) := id rfl
theorem cu_l {o o2 : Option Int} : cutD (.list ds) o o2 = some (.fr (.list (cutL ds o o2))) := id rfl
theorem cu_1n {l' : List α} : cutL (a :: l') (some 1) none = l' := by
  unfold cutL
  have h1 : HT.sIx (a :: l').length 0 (some 1) = 1 := by unfold HT.sIx; simp
  have h2 : HT.sIx (a :: l').length (a :: l').length none = (a :: l').length := by unfold HT.sIx; rfl
  rw [h1, h2]
  simp
theorem cu_2n {a2 : α} {l' : List α} : cutL (a :: a2 :: l') (some 2) none = l' := by
  unfold cutL
  have h1 : HT.sIx (a :: a2 :: l').length 0 (some 2) = 2 := by unfold HT.sIx; simp
  have h2 : HT.sIx (a :: a2 :: l').length (a :: a2 :: l').length none = (a :: a2 :: l').length := by unfold HT.sIx; rfl
  rw [h1, h2]
  simp
theorem cu_n1 {l' : List α} : cutL (a :: l') none (some 1) = [a] := by
  unfold cutL
  have h1 : HT.sIx (a :: l').length 0 none = 0 := by unfold HT.sIx; rfl
  have h2 : HT.sIx (a :: l').length (a :: l').length (some 1) = 1 := by unfold HT.sIx; simp
  rw [h1, h2]
  simp
/-- data -/
theorem d_add {x y : Int} : addD (.int x) (.int y) = some (.val (.int (x + y))) := id rfl
theorem d_addT {xs ys : List PyData} (h : xs.length + ys.length ≤ sizeLine) : addD (.tuple xs) (.tuple ys) = some (.val (.tuple (xs ++ ys))) := if_pos h
theorem d_addTs {xs ys : List PyData} (h : smallLen (xs ++ ys) 100 = true) : addD (.tuple xs) (.tuple ys) = some (.val (.tuple (xs ++ ys))) := d_addT (by have := len_ok h; simpa using this)
theorem d_addL {xs ys : List PyData} (h : xs.length + ys.length ≤ sizeLine) : addD (.list xs) (.list ys) = some (.fr (.list (xs ++ ys))) := if_pos h
theorem d_addLs {xs ys : List PyData} (h : smallLen (xs ++ ys) 100 = true) : addD (.list xs) (.list ys) = some (.fr (.list (xs ++ ys))) := d_addL (by have := len_ok h; simpa using this)
theorem d_sub {x y : Int} : subD (.int x) (.int y) = some (.val (.int (x - y))) := id rfl
theorem d_mul {x y : Int} (h : mulOk x y = true) : mulD (.int x) (.int y) = some (.val (.int (x * y))) := if_pos h
theorem d_fdiv {x y : Int} (h : divOk y = true) : fdivD (.int x) (.int y) = some (.val (.int (x.fdiv y))) := if_pos h
theorem d_mod {x y : Int} (h : y ≠ 0) : modD (.int x) (.int y) = some (.val (.int (x.fmod y))) := if_neg h
theorem d_neg {x : Int} : negD (.int x) = some (.val (.int (-x))) := id rfl
theorem d_cmp {x y : Int} {k : Int → Int → Bool} : cmpI k (.int x) (.int y) = some (.val (.bool (k x y))) := id rfl
theorem d_ixT {k : Int} : ixD (.tuple ds) (.int k) = (atI ds k).map .val := id rfl
theorem d_ixL {k : Int} : ixD (.list ds) (.int k) = (atI ds k).map .val := id rfl
theorem at_0 {l' : List α} : atI (a :: l') (0 : Int) = some a := atI_nat (j := 0) rfl
theorem at_1 {a0 : α} {l' : List α} : atI (a0 :: a :: l') (1 : Int) = some a := atI_nat (j := 1) rfl
theorem at_2 {a0 a1 : α} {l' : List α} : atI (a0 :: a1 :: a :: l') (2 : Int) = some a := atI_nat (j := 2) rfl
theorem at_3 {a0 a1 a2 : α} {l' : List α} : atI (a0 :: a1 :: a2 :: a :: l') (3 : Int) = some a := atI_nat (j := 3) rfl
theorem d_lenL : lenD [.list ds] = some (.val (.int ds.length)) := id rfl
theorem d_lenT : lenD [.tuple ds] = some (.val (.int ds.length)) := id rfl
theorem d_tupL : tupleD [.list ds] = some (.val (.tuple ds)) := id rfl
theorem d_tupT : tupleD [.tuple ds] = some (.val (.tuple ds)) := id rfl
def allK (o : Option (List Bool)) : Option Ev := o.map fun bs => .val (.bool (bs.all id))
theorem d_all : allD [.list ds] = allK (boolsD ds) := id rfl
theorem k_all {bs : List Bool} : allK (some bs) = some (.val (.bool (bs.all id))) := id rfl
def anyK (o : Option (List Bool)) : Option Ev := o.map fun bs => .val (.bool (bs.any id))
theorem d_any : anyD [.list ds] = anyK (boolsD ds) := id rfl
theorem k_any {bs : List Bool} : anyK (some bs) = some (.val (.bool (bs.any id))) := id rfl
theorem bo_nil : boolsD [] = some [] := id rfl
theorem bo_cons : boolsD (.bool bo :: ds) = (boolsD ds).map (bo :: ·) := id rfl
theorem al_nil {u : α → Bool} : List.all [] u = true := id rfl
theorem al_cons {u : α → Bool} {l' : List α} : List.all (a :: l') u = (u a && List.all l' u) := id rfl
theorem al_map {u : α → Bool} : ∀ {l' : List α}, (l'.map u).all id = l'.all u
  | [] => rfl
  | a :: l' => by simp only [List.map_cons, List.all_cons, id, al_map (l' := l')]
theorem an_nil {u : α → Bool} : List.any [] u = false := id rfl
theorem an_cons {u : α → Bool} {l' : List α} : List.any (a :: l') u = (u a || List.any l' u) := id rfl
theorem an_map {u : α → Bool} : ∀ {l' : List α}, (l'.map u).any id = l'.any u
  | [] => rfl
  | a :: l' => by simp only [List.map_cons, List.any_cons, id, an_map (l' := l')]
theorem id_b {b : Bool} : id b = b := id rfl
theorem bo_map {u : α → Bool} {l' : List α} : boolsD (l'.map fun z => PyData.bool (u z)) = some (l'.map u) := by
  induction l' with
  | nil => rfl
  | cons z l' ih =>
    show (boolsD (l'.map fun z => PyData.bool (u z))).map (u z :: ·) = _
    rw [ih]
    rfl
theorem d_max {x y : Int} : max2D [.int x, .int y] = some (.val (.int (if y > x then y else x))) := id rfl
theorem d_min {x y : Int} : min2D [.int x, .int y] = some (.val (.int (if y < x then y else x))) := id rfl
theorem d_listL : listD [.list ds] = some (.fr (.list ds)) := id rfl
theorem d_listT : listD [.tuple ds] = some (.fr (.list ds)) := id rfl
theorem d_p18 : powD (.int 10) (.int 18) = some (.val (.int 1000000000000000000)) := id rfl
theorem d_p13 : powD (.int 10) (.int 13) = some (.val (.int 10000000000000)) := id rfl
theorem d_p12 : powD (.int 10) (.int 12) = some (.val (.int 1000000000000)) := id rfl
theorem d_is {x : PyData} : isD x .none = some (.val (.bool (isNoneD x))) := by unfold isD; cases x <;> rfl
theorem d_abs {x : Int} : absD [.int x] = some (.val (.int (if x < 0 then -x else x))) := id rfl
theorem d_repr (h : reprOk d = true) : reprD [d] = some (.val (.str d.shown)) := if_pos h
theorem d_eqS {x y : Str} : eqD (.str x) (.str y) = some (.val (.bool (x == y))) := by
  unfold eqD
  rw [if_pos (by rfl : (str2 (PyData.str x) (PyData.str y) || _) = true)]
  rfl
theorem d_neS {x y : Str} : neD (.str x) (.str y) = some (.val (.bool (!(x == y)))) := by
  unfold neD
  rw [if_pos (by rfl : (str2 (PyData.str x) (PyData.str y) || _) = true)]
  rfl
theorem d_eqI {x y : Int} : eqD (.int x) (.int y) = some (.val (.bool (decide (x = y)))) := by
  unfold eqD
  rw [if_pos (by rfl : (str2 (PyData.int x) (PyData.int y) || _) = true)]
  simp only [PyData.eqv]
  congr 3
theorem d_neI {x y : Int} : neD (.int x) (.int y) = some (.val (.bool (!decide (x = y)))) := by
  unfold neD
  rw [if_pos (by rfl : (str2 (PyData.int x) (PyData.int y) || _) = true)]
  simp only [PyData.eqv]
  congr 3
theorem d_isi {T : String} : isiD T d = some (.val (.bool (isiB T d))) := id rfl
theorem isy_int_none : isiB "int" .none = false := id rfl
theorem isy_int_bool {bo : Bool} : isiB "int" (.bool bo) = true := id rfl
theorem isy_int_int {x : Int} : isiB "int" (.int x) = true := id rfl
theorem isy_int_str {x : Str} : isiB "int" (.str x) = false := id rfl
theorem isy_int_list : isiB "int" (.list ds) = false := id rfl
theorem isy_int_tuple : isiB "int" (.tuple ds) = false := id rfl
theorem isy_int_dict {kv : List (PyData × PyData)} : isiB "int" (.dict kv) = false := id rfl
theorem isy_bool_none : isiB "bool" .none = false := id rfl
theorem isy_bool_bool {bo : Bool} : isiB "bool" (.bool bo) = true := id rfl
theorem isy_bool_int {x : Int} : isiB "bool" (.int x) = false := id rfl
theorem isy_bool_str {x : Str} : isiB "bool" (.str x) = false := id rfl
theorem isy_bool_list : isiB "bool" (.list ds) = false := id rfl
theorem isy_bool_tuple : isiB "bool" (.tuple ds) = false := id rfl
theorem isy_bool_dict {kv : List (PyData × PyData)} : isiB "bool" (.dict kv) = false := id rfl
theorem isy_tuple_none : isiB "tuple" .none = false := id rfl
theorem isy_tuple_bool {bo : Bool} : isiB "tuple" (.bool bo) = false := id rfl
theorem isy_tuple_int {x : Int} : isiB "tuple" (.int x) = false := id rfl
theorem isy_tuple_str {x : Str} : isiB "tuple" (.str x) = false := id rfl
theorem isy_tuple_list : isiB "tuple" (.list ds) = false := id rfl
theorem isy_tuple_tuple : isiB "tuple" (.tuple ds) = true := id rfl
theorem isy_tuple_dict {kv : List (PyData × PyData)} : isiB "tuple" (.dict kv) = false := id rfl
theorem isy_list_none : isiB "list" .none = false := id rfl
theorem isy_list_bool {bo : Bool} : isiB "list" (.bool bo) = false := id rfl
theorem isy_list_int {x : Int} : isiB "list" (.int x) = false := id rfl
theorem isy_list_str {x : Str} : isiB "list" (.str x) = false := id rfl
theorem isy_list_list : isiB "list" (.list ds) = true := id rfl
theorem isy_list_tuple : isiB "list" (.tuple ds) = false := id rfl
theorem isy_list_dict {kv : List (PyData × PyData)} : isiB "list" (.dict kv) = false := id rfl
theorem isy_str_none : isiB "str" .none = false := id rfl
theorem isy_str_bool {bo : Bool} : isiB "str" (.bool bo) = false := id rfl
theorem isy_str_int {x : Int} : isiB "str" (.int x) = false := id rfl
theorem isy_str_str {x : Str} : isiB "str" (.str x) = true := id rfl
theorem isy_str_list : isiB "str" (.list ds) = false := id rfl
theorem isy_str_tuple : isiB "str" (.tuple ds) = false := id rfl
theorem isy_str_dict {kv : List (PyData × PyData)} : isiB "str" (.dict kv) = false := id rfl
theorem isy_dict_none : isiB "dict" .none = false := id rfl
theorem isy_dict_bool {bo : Bool} : isiB "dict" (.bool bo) = false := id rfl
theorem isy_dict_int {x : Int} : isiB "dict" (.int x) = false := id rfl
theorem isy_dict_str {x : Str} : isiB "dict" (.str x) = false := id rfl
theorem isy_dict_list : isiB "dict" (.list ds) = false := id rfl
theorem isy_dict_tuple : isiB "dict" (.tuple ds) = false := id rfl
theorem isy_dict_dict {kv : List (PyData × PyData)} : isiB "dict" (.dict kv) = true := id rfl
theorem it_t {x y : α} : (if True then x else y) = x := if_pos trivial
theorem it_f {x y : α} : (if False then x else y) = y := if_neg fun h => h
theorem b_tt : (true = true) = True := by simp
theorem b_ft : (false = true) = False := by simp
theorem b_nt : (!true) = false := id rfl
theorem b_nf : (!false) = true := id rfl
theorem b_ta {b : Bool} : (true && b) = b := by simp
theorem b_fa {b : Bool} : (false && b) = false := by simp
theorem b_at {b : Bool} : (b && true) = b := by simp
theorem b_to {b : Bool} : (true || b) = true := by simp
theorem b_fo {b : Bool} : (false || b) = b := by simp
theorem lI_0 : (([] : List α).length : Int) = 0 := id rfl
theorem lI_1 {a1 : α} : (([a1] : List α).length : Int) = 1 := id rfl
theorem lI_2 {a1 a2 : α} : (([a1, a2] : List α).length : Int) = 2 := id rfl
theorem lI_3 {a1 a2 a3 : α} : (([a1, a2, a3] : List α).length : Int) = 3 := id rfl
theorem lI_4 {a1 a2 a3 a4 : α} : (([a1, a2, a3, a4] : List α).length : Int) = 4 := id rfl
theorem lI_5 {a1 a2 a3 a4 a5 : α} : (([a1, a2, a3, a4, a5] : List α).length : Int) = 5 := id rfl
theorem lI_m {l' : List α} {u : α → β} : ((l'.map u).length : Int) = l'.length := by rw [List.length_map]
theorem bs_f {x y : Str} (h : decide (x = y) = false) : (x == y) = false := beq_eq_false_iff_ne.mpr (of_decide_eq_false h)
theorem es_f {x y : Str} (h : decide (x = y) = false) : (x = y) = False := eq_false (of_decide_eq_false h)
theorem bb_tt : (true == true) = true := id rfl
theorem bb_tf : (true == false) = false := id rfl
theorem bb_ft : (false == true) = false := id rfl
theorem bb_ff : (false == false) = true := id rfl
theorem bq_s {x : Str} : (x == x) = true := beq_self_eq_true x
/-- dicts -/
def dicM (ρ : List B) : Option (List (Key × PyData)) → Rs (Ev × List B)
  | some m => if m.length ≤ 15 then .ok (.fr (.dict (mergeD [] m)), ρ) else .bad
  | none => .bad
def dicL : Option (List PyData × List B) → Rs (Ev × List B)
  | some (ds, ρ') => dicM ρ' (pairsD ds)
  | none => .bad
def dicK (p : List Ev × List B) : Rs (Ev × List B) := dicL (shrs p.2 p.1)
theorem r_dic {prs : List (SE × SE)} : dicE prs ρ = Rs.bind (flatA prs ρ) dicK := by
  unfold dicE dicK dicL dicM
  congr 1
theorem k_dic1 : dicK (es, ρ) = dicL (shrs ρ es) := id rfl
theorem k_dic2 : dicL (some (ds, ρ)) = dicM ρ (pairsD ds) := id rfl
theorem k_dic3 {mm : List (Key × PyData)} (h : mm.length ≤ 15) : dicM ρ (some mm) = .ok (.fr (.dict (mergeD [] mm)), ρ) := if_pos h
theorem k_dic4 {q : Key} : dicM ρ (some [(q, d)]) = .ok (.fr (.dict [(kD q, d)]), ρ) := id rfl
theorem k_kD1 {x : Int} : kD (.inl x) = .int x := id rfl
theorem k_kD2 {x : Str} : kD (.inr x) = .str x := id rfl
theorem k_fl0 : flatA [] = aNil := id rfl
theorem k_fl1 {prs : List (SE × SE)} : flatA ((fk, fe) :: prs) = aCons fk (aCons fe (flatA prs)) := id rfl
theorem k_pr0 : pairsD [] = some [] := id rfl
theorem k_pr1 {x : Int} : pairsD (.int x :: d :: ds) = (pairsD ds).map fun m => (.inl x, d) :: m := id rfl
theorem k_pr2 {x : Str} : pairsD (.str x :: d :: ds) = (pairsD ds).map fun m => (.inr x, d) :: m := id rfl
theorem r_dic0 : dic0E ρ = .ok (.fr (.dict []), ρ) := id rfl
theorem d_ixDi {kvs : List (PyData × PyData)} {x : Int} : ixD (.dict kvs) (.int x) = (dget kvs (.inl x)).map .val := id rfl
theorem d_ixDs {kvs : List (PyData × PyData)} {x : Str} : ixD (.dict kvs) (.str x) = (dget kvs (.inr x)).map .val := id rfl
theorem d_inGT {x : PyData} : inG x (.tuple ds) = inD x (.tuple ds) := id rfl
theorem d_inGL {x : PyData} : inG x (.list ds) = inD x (.list ds) := id rfl
theorem d_ninGT {x : PyData} : ninG x (.tuple ds) = ninD x (.tuple ds) := id rfl
theorem d_ninGL {x : PyData} : ninG x (.list ds) = ninD x (.list ds) := id rfl
theorem d_inGi {kvs : List (PyData × PyData)} {x : Int} (h : keyed kvs = true) : inG (.int x) (.dict kvs) = some (.val (.bool (dget kvs (.inl x)).isSome)) := by
  unfold inG
  simp only [keyOf, Option.bind, if_pos h]
theorem d_ninGi {kvs : List (PyData × PyData)} {x : Int} (h : keyed kvs = true) : ninG (.int x) (.dict kvs) = some (.val (.bool (!(dget kvs (.inl x)).isSome))) := by
  unfold ninG
  simp only [keyOf, Option.bind, if_pos h]
theorem k_vals {kvs : List (PyData × PyData)} (h : keyed kvs = true) : seqIK valsK (.dict kvs) ρ = .ok (kvs.map (·.2), ρ) := by
  unfold seqIK valsK
  simp only [if_pos h]
theorem k_items {kvs : List (PyData × PyData)} (h : keyed kvs = true) : seqIK itemsK (.dict kvs) ρ = .ok (kvs.map fun p => .tuple [p.1, p.2], ρ) := by
  unfold seqIK itemsK
  simp only [if_pos h]
theorem d_setDi {kvs : List (PyData × PyData)} {x : Int} {y : PyData} (h : keyed kvs = true) (h2 : kvs.length < 1000000) : setD (.dict kvs) (.int x) y = some (.dict (dput kvs (.inl x) y)) := by
  unfold setD
  simp only [keyOf, Option.bind, h, h2, and_self, if_true]
theorem dg_nil {q : Key} : dget [] q = none := id rfl
theorem dg_i {kvs : List (PyData × PyData)} {x y : Int} : dget ((.int x, d) :: kvs) (.inl y) = if x = y then some d else dget kvs (.inl y) := by
  show (if keyOf (.int x) = some (.inl y) then some d else dget kvs (.inl y)) = _
  by_cases h : x = y
  · rw [if_pos h, if_pos (by rw [h]; rfl)]
  · rw [if_neg h, if_neg (fun z => h (by cases z; rfl))]
theorem dg_s {kvs : List (PyData × PyData)} {x y : Str} : dget ((.str x, d) :: kvs) (.inr y) = if x = y then some d else dget kvs (.inr y) := by
  show (if keyOf (.str x) = some (.inr y) then some d else dget kvs (.inr y)) = _
  by_cases h : x = y
  · rw [if_pos h, if_pos (by rw [h]; rfl)]
  · rw [if_neg h, if_neg (fun z => h (by cases z; rfl))]
def dputK : Option PyData → List (PyData × PyData) → Key → PyData → List (PyData × PyData)
  | none, kvs, q, d => kvs ++ [(kD q, d)]
  | some _, kvs, q, d => kvs.map (fun p => if keyOf p.1 = some q then (p.1, d) else p)
theorem dput_K {kvs : List (PyData × PyData)} {q : Key} : dput kvs q d = dputK (dget kvs q) kvs q d := by
  unfold dput dputK
  cases dget kvs q <;> rfl
theorem mg_0 {kvs : List (PyData × PyData)} : mergeD kvs [] = kvs := by unfold mergeD; rfl
theorem mg_s {kvs : List (PyData × PyData)} {q : Key} {r' : List (Key × PyData)} : mergeD kvs ((q, d) :: r') = mergeD (dputK (dget kvs q) kvs q d) r' := by
  conv => lhs; unfold mergeD
  rw [dput_K]
theorem dpk_n {kvs : List (PyData × PyData)} {q : Key} : dputK none kvs q d = kvs ++ [(kD q, d)] := id rfl
theorem ky_i {kvs : List (PyData × PyData)} {x : Int} : keyed ((.int x, d) :: kvs) = true := id rfl
theorem ky_s {kvs : List (PyData × PyData)} {x : Str} : keyed ((.str x, d) :: kvs) = true := id rfl
/-- equality of data -/
def shN (n : Nat) (d : PyData) : Bool := d.canLay0 && decide (d.depth ≤ n)
def shA (n : Nat) (ds : List PyData) : Bool := ds.all (shN n)
theorem shA_nil {n : Nat} : shA n [] = true := id rfl
theorem shA_cons {n : Nat} : shA n (d :: ds) = (shN n d && shA n ds) := id rfl
theorem shA_map {n : Nat} {u : α → PyData} {l' : List α} (h : ∀ z, shN n (u z) = true) : shA n (l'.map u) = true := by
  unfold shA
  rw [List.all_eq_true]
  intro z hz
  obtain ⟨w, _, rfl⟩ := List.mem_map.mp hz
  exact h w
theorem shN_int {n : Nat} {x : Int} : shN n (.int x) = true := by unfold shN PyData.canLay0 PyData.depth; simp
theorem shN_bool {n : Nat} {x : Bool} : shN n (.bool x) = true := by unfold shN PyData.canLay0 PyData.depth; simp
theorem shN_none {n : Nat} : shN n .none = true := by unfold shN PyData.canLay0 PyData.depth; simp
theorem shN_str {n : Nat} {x : Str} (h : PyData.strOk x = true) : shN n (.str x) = true := by unfold shN PyData.canLay0 PyData.depth; simp [h]
theorem shA_ok {n : Nat} {ds : List PyData} : (PyData.canLayAll0 ds && decide (PyData.depthAll ds ≤ n)) = shA n ds := by
  induction ds with
  | nil => unfold shA PyData.canLayAll0 PyData.depthAll; simp
  | cons d ds ih =>
    rw [shA_cons, ← ih]
    unfold shN
    rw [show PyData.canLayAll0 (d :: ds) = (d.canLay0 && PyData.canLayAll0 ds) by simp [PyData.canLayAll0], show PyData.depthAll (d :: ds) = max d.depth (PyData.depthAll ds) by simp [PyData.depthAll]]
    cases d.canLay0 <;> cases PyData.canLayAll0 ds <;> simp [Nat.max_le]
theorem shN_tup {n : Nat} {ds : List PyData} : shN (n + 1) (.tuple ds) = shA n ds := by
  rw [← shA_ok]
  unfold shN
  rw [show PyData.canLay0 (.tuple ds) = PyData.canLayAll0 ds by simp [PyData.canLay0], show PyData.depth (.tuple ds) = PyData.depthAll ds + 1 by simp [PyData.depth]]
  simp
theorem shN_lst {n : Nat} {ds : List PyData} : shN (n + 1) (.list ds) = shA n ds := by
  rw [← shA_ok]
  unfold shN
  rw [show PyData.canLay0 (.list ds) = PyData.canLayAll0 ds by simp [PyData.canLay0], show PyData.depth (.list ds) = PyData.depthAll ds + 1 by simp [PyData.depth]]
  simp
theorem sh_of {x : PyData} (h : shN 64 x = true) : SeqAt.shaped x = true := h
theorem d_eqX {x y : PyData} (hx : shN 64 x = true) (hy : shN 64 y = true) : eqD x y = some (.val (.bool (PyData.eqv x y))) := by
  unfold eqD
  rw [sh_of hx, sh_of hy]
  simp
theorem d_neX {x y : PyData} (hx : shN 64 x = true) (hy : shN 64 y = true) : neD x y = some (.val (.bool (!PyData.eqv x y))) := by
  unfold neD
  rw [sh_of hx, sh_of hy]
  simp
theorem d_inT {x : PyData} (hx : shN 64 x = true) (hy : shN 64 (.tuple ds) = true) : inD x (.tuple ds) = some (.val (.bool (ds.any fun z => PyData.eqv z x))) := by
  unfold inD itemsD
  simp only [Option.bind, sh_of hx, sh_of hy, Bool.and_self, if_true]
theorem d_inL {x : PyData} (hx : shN 64 x = true) (hy : shN 64 (.list ds) = true) : inD x (.list ds) = some (.val (.bool (ds.any fun z => PyData.eqv z x))) := by
  unfold inD itemsD
  simp only [Option.bind, sh_of hx, sh_of hy, Bool.and_self, if_true]
theorem d_ninT {x : PyData} (hx : shN 64 x = true) (hy : shN 64 (.tuple ds) = true) : ninD x (.tuple ds) = some (.val (.bool (!ds.any fun z => PyData.eqv z x))) := by
  unfold ninD itemsD
  simp only [Option.bind, sh_of hx, sh_of hy, Bool.and_self, if_true]
theorem d_ninL {x : PyData} (hx : shN 64 x = true) (hy : shN 64 (.list ds) = true) : ninD x (.list ds) = some (.val (.bool (!ds.any fun z => PyData.eqv z x))) := by
  unfold ninD itemsD
  simp only [Option.bind, sh_of hx, sh_of hy, Bool.and_self, if_true]
theorem ev_ii {x y : Int} : PyData.eqv (.int x) (.int y) = decide (x = y) := by simp only [PyData.eqv]; rfl
theorem ev_bb {x y : Bool} : PyData.eqv (.bool x) (.bool y) = (x == y) := id rfl
theorem ev_ss {x y : Str} : PyData.eqv (.str x) (.str y) = (x == y) := id rfl
theorem ev_nn : PyData.eqv .none .none = true := id rfl
theorem ev_tt {xs ys : List PyData} : PyData.eqv (.tuple xs) (.tuple ys) = PyData.eqvAll xs ys := by simp only [PyData.eqv]
theorem ev_ll {xs ys : List PyData} : PyData.eqv (.list xs) (.list ys) = PyData.eqvAll xs ys := by simp only [PyData.eqv]
theorem ev_0 : PyData.eqvAll [] [] = true := by simp only [PyData.eqvAll]
theorem ev_c {x y : PyData} {xs ys : List PyData} : PyData.eqvAll (x :: xs) (y :: ys) = (PyData.eqv x y && PyData.eqvAll xs ys) := by simp only [PyData.eqvAll]
theorem ev_c0 {x : PyData} {xs : List PyData} : PyData.eqvAll (x :: xs) [] = false := by simp only [PyData.eqvAll]
theorem ev_0c {x : PyData} {xs : List PyData} : PyData.eqvAll [] (x :: xs) = false := by simp only [PyData.eqvAll]
theorem ev_none_bool {b1_ : Bool} : PyData.eqv .none (.bool b1_) = false := id rfl
theorem ev_none_int {i1_ : Int} : PyData.eqv .none (.int i1_) = false := id rfl
theorem ev_none_str {x1_ : Str} : PyData.eqv .none (.str x1_) = false := id rfl
theorem ev_none_list {l1_ : List PyData} : PyData.eqv .none (.list l1_) = false := id rfl
theorem ev_none_tuple {t1_ : List PyData} : PyData.eqv .none (.tuple t1_) = false := id rfl
theorem ev_bool_none {b1_ : Bool} : PyData.eqv (.bool b1_) .none = false := id rfl
theorem ev_bool_str {b1_ : Bool} {x1_ : Str} : PyData.eqv (.bool b1_) (.str x1_) = false := id rfl
theorem ev_bool_list {b1_ : Bool} {l1_ : List PyData} : PyData.eqv (.bool b1_) (.list l1_) = false := id rfl
theorem ev_bool_tuple {b1_ : Bool} {t1_ : List PyData} : PyData.eqv (.bool b1_) (.tuple t1_) = false := id rfl
theorem ev_int_none {i1_ : Int} : PyData.eqv (.int i1_) .none = false := id rfl
theorem ev_int_str {i1_ : Int} {x1_ : Str} : PyData.eqv (.int i1_) (.str x1_) = false := id rfl
theorem ev_int_list {i1_ : Int} {l1_ : List PyData} : PyData.eqv (.int i1_) (.list l1_) = false := id rfl
theorem ev_int_tuple {i1_ : Int} {t1_ : List PyData} : PyData.eqv (.int i1_) (.tuple t1_) = false := id rfl
theorem ev_str_none {x1_ : Str} : PyData.eqv (.str x1_) .none = false := id rfl
theorem ev_str_bool {x1_ : Str} {b1_ : Bool} : PyData.eqv (.str x1_) (.bool b1_) = false := id rfl
theorem ev_str_int {x1_ : Str} {i1_ : Int} : PyData.eqv (.str x1_) (.int i1_) = false := id rfl
theorem ev_str_list {x1_ : Str} {l1_ : List PyData} : PyData.eqv (.str x1_) (.list l1_) = false := id rfl
theorem ev_str_tuple {x1_ : Str} {t1_ : List PyData} : PyData.eqv (.str x1_) (.tuple t1_) = false := id rfl
theorem ev_list_none {l1_ : List PyData} : PyData.eqv (.list l1_) .none = false := id rfl
theorem ev_list_bool {l1_ : List PyData} {b1_ : Bool} : PyData.eqv (.list l1_) (.bool b1_) = false := id rfl
theorem ev_list_int {l1_ : List PyData} {i1_ : Int} : PyData.eqv (.list l1_) (.int i1_) = false := id rfl
theorem ev_list_str {l1_ : List PyData} {x1_ : Str} : PyData.eqv (.list l1_) (.str x1_) = false := id rfl
theorem ev_list_tuple {l1_ : List PyData} {t1_ : List PyData} : PyData.eqv (.list l1_) (.tuple t1_) = false := id rfl
theorem ev_tuple_none {t1_ : List PyData} : PyData.eqv (.tuple t1_) .none = false := id rfl
theorem ev_tuple_bool {t1_ : List PyData} {b1_ : Bool} : PyData.eqv (.tuple t1_) (.bool b1_) = false := id rfl
theorem ev_tuple_int {t1_ : List PyData} {i1_ : Int} : PyData.eqv (.tuple t1_) (.int i1_) = false := id rfl
theorem ev_tuple_str {t1_ : List PyData} {x1_ : Str} : PyData.eqv (.tuple t1_) (.str x1_) = false := id rfl
theorem ev_tuple_list {t1_ : List PyData} {l1_ : List PyData} : PyData.eqv (.tuple t1_) (.list l1_) = false := id rfl
theorem dec_t : (decide p = true) = p := by simp
theorem not_dec : ((!decide p) = true) = ¬ p := by simp
/-- pop, extend, items -/
theorem k_popA : mtPopA (.list (d :: ds)) [.int 0] = some (.list ds, d) := id rfl
theorem k_popZ : mtPop (.list (ds ++ [d])) [] = some (.list ds, d) := by
  show ((ds ++ [d]).getLast?).map _ = _
  rw [List.getLast?_append, List.dropLast_concat]
  rfl
theorem k_pop1 : mtPop (.list [d]) [] = some (.list [], d) := id rfl
def extF (i : Nat) (fe : SE) (ρ : List B) : Option PyData → Rs (Ev × List B)
  | some d => if isLst d = true then extE1 i fe ρ else .bad
  | none => .bad
theorem r_ext : extE i fe ρ = extF i fe ρ ((ρ[i]?).bind ownD) := by
  unfold extE extF
  cases (ρ[i]?).bind ownD <;> rfl
def extK (i : Nat) (p : Ev × List B) : Rs (Ev × List B) := extG i p.2 p.1
theorem k_ext1 : extF i fe ρ (some (.list ds)) = Rs.bind (fe ρ) (extK i) := id rfl
def extJ (i : Nat) (es : List PyData) (ρ : List B) (b : B) : Option PyData → Rs (Ev × List B)
  | some (.list ds) => if ds.length + es.length ≤ 1000000 then .ok (.val .none, ρ.set i (reD b (.list (ds ++ es)))) else .bad
  | _ => .bad
def extH (i : Nat) (es : List PyData) (ρ : List B) : Option B → Rs (Ev × List B)
  | some b => extJ i es ρ b (ownD b)
  | none => .bad
theorem k_ext2 : extK i (.fr (.list ds), ρ) = extH i ds ρ ρ[i]? := by
  unfold extK extG extH
  dsimp only
  cases ρ[i]? with
  | none => rfl
  | some b =>
    dsimp only
    unfold extJ
    cases ownD b with
    | none => rfl
    | some d => cases d <;> rfl
theorem k_ext3 {ds' : List PyData} (h : ds.length + ds'.length ≤ 1000000) : extH i ds' ρ (some (.own (.list ds))) = .ok (.val .none, ρ.set i (.own (.list (ds ++ ds')))) := if_pos h
theorem k_ext4 {ds' : List PyData} (h : ds.length + ds'.length ≤ 1000000) : extH i ds' ρ (some (.prm (.list ds))) = .ok (.val .none, ρ.set i (.prm (.list (ds ++ ds')))) := if_pos h
theorem r_items : itemsE i ρ = itemsJ ρ ((ρ[i]?).bind ownD) := id rfl
theorem k_itemsJ {kvs : List (PyData × PyData)} (h : keyed kvs = true) : itemsJ ρ (some (.dict kvs)) = .ok (.fr (.list (kvs.map fun p => .tuple [p.1, p.2])), ρ) := if_pos h
theorem d_listD {kvs : List (PyData × PyData)} (h : keyed kvs = true) : listD [.dict kvs] = some (.fr (.list (kvs.map (·.1)))) := if_pos h
theorem d_intI {x : Int} : toIntD [.int x] = some (.val (.int x)) := id rfl
theorem d_intB : toIntD [.bool bo] = some (.val (.int (if bo = true then 1 else 0))) := id rfl
theorem d_strI {x : Int} (h : x.natAbs.log2 < 1920) : toStrD [.int x] = some (.val (.str (toString x))) := if_pos h
/-- xs[k] as one of several targets -/
def subK (i : Nat) (fk : SE) (y : PyData) (ρ : List B) : Option PyData → Rs (List B)
  | some _ => Rs.bind (fk ρ) (subH i y)
  | none => .bad
theorem r_subG {y : PyData} : subG i fk y ρ = subK i fk y ρ ((ρ[i]?).bind ownD) := by
  unfold subG subK
  cases (ρ[i]?).bind ownD <;> rfl
theorem k_sub1 {y : PyData} : subK i fk y ρ (some d) = Rs.bind (fk ρ) (subH i y) := id rfl
def subO (i : Nat) (b : B) (ρ : List B) : Option PyData → Rs (List B)
  | some d' => .ok (ρ.set i (reD b d'))
  | none => .bad
def subM (i : Nat) (y k : PyData) (ρ : List B) : Option B → Rs (List B)
  | some b => (match ownD b with
    | some d => subO i b ρ (setD d k y)
    | none => .bad)
  | none => .bad
def subL (i : Nat) (y : PyData) (ρ : List B) : Option PyData → Rs (List B)
  | some k => subM i y k ρ ρ[i]?
  | none => .bad
theorem k_sub2 {y : PyData} : subH i y (e, ρ) = subL i y ρ (peek ρ e) := by
  unfold subH subL
  dsimp only
  cases peek ρ e with
  | none => rfl
  | some k =>
    dsimp only
    unfold subM
    cases ρ[i]? with
    | none => rfl
    | some b =>
      dsimp only
      cases ownD b with
      | none => rfl
      | some d => dsimp only; unfold subO; cases setD d k y <;> rfl
theorem k_sub3 {y k : PyData} : subL i y ρ (some k) = subM i y k ρ ρ[i]? := id rfl
theorem k_sub4 {y k : PyData} : subM i y k ρ (some (.own d)) = subO i (.own d) ρ (setD d k y) := id rfl
theorem k_sub5 {y k : PyData} : subM i y k ρ (some (.prm d)) = subO i (.prm d) ρ (setD d k y) := id rfl
theorem k_sub6 {d' : PyData} : subO i (.own d) ρ (some d') = .ok (ρ.set i (.own d')) := id rfl
theorem k_sub7 {d' : PyData} : subO i (.prm d) ρ (some d') = .ok (ρ.set i (.prm d')) := id rfl
theorem r_tupL1 {u : List PyData → List B → Rs (List B)} : tupG 1 u (.list [d1]) ρ = u [d1] ρ := id rfl
theorem r_tupL2 {u : List PyData → List B → Rs (List B)} : tupG 2 u (.list [d1, d2]) ρ = u [d1, d2] ρ := id rfl
theorem r_tupL3 {u : List PyData → List B → Rs (List B)} : tupG 3 u (.list [d1, d2, d3]) ρ = u [d1, d2, d3] ρ := id rfl
theorem r_tupL4 {u : List PyData → List B → Rs (List B)} {d4 : PyData} : tupG 4 u (.list [d1, d2, d3, d4]) ρ = u [d1, d2, d3, d4] ρ := id rfl
theorem d_isB {x y : Bool} : isD (.bool x) (.bool y) = some (.val (.bool (decide (x = y)))) := id rfl
theorem d_isnB {x y : Bool} : isnD (.bool x) (.bool y) = some (.val (.bool (!decide (x = y)))) := id rfl
theorem d_isnN {x : PyData} : isnD x .none = some (.val (.bool (!isNoneD x))) := by unfold isnD; cases x <;> rfl
theorem d_revL {ds : List PyData} : revD (.list ds) = some (.fr (.list ds.reverse)) := id rfl
theorem d_revT {ds : List PyData} : revD (.tuple ds) = some (.val (.tuple ds.reverse)) := id rfl
end
end G
namespace M
open PySem PySem.Spec PyProof.Rows L2 G
abbrev c_KINDS : PyData := .int (8)
abbrev c_MOST_GENERATORS : PyData := .int (6)
def B__law_cell : SS := (seqS (ifS (fB (op2 (cmpI fun i j => decide (i < j)) (fV 1) (opN lenD (aCons (fV 0) aNil)))) (retS (op2 ixD (fV 0) (fV 1))) nxS) (retS (fC (.int 0))))
def F__law_cell : SE := defF 2 B__law_cell
theorem r__law_cell {x0_ x1_ : B} : F__law_cell [x0_, x1_] = Rs.bind (B__law_cell [x0_, x1_]) (retF 2) := rfl
def B_is_integer : SS := (retS (andV (op1 (isiD "int") (fV 0)) (notV (op1 (isiD "bool") (fV 0)))))
def F_is_integer : SE := defF 1 B_is_integer
def B_is_between : SS := (retS (andV (callF [false] F_is_integer [] (aCons (fV 0) aNil)) (ch3 (cmpI fun i j => decide (i ≤ j)) (cmpI fun i j => decide (i ≤ j)) (fV 1) (fV 0) (fV 2))))
def F_is_between : SE := defF 3 B_is_between
theorem r_is_between {x0_ x1_ x2_ : B} : F_is_between [x0_, x1_, x2_] = Rs.bind (B_is_between [x0_, x1_, x2_]) (retF 3) := rfl
def B_is_symmetry : SS := (seqS (ifS (orB (notB (fB (op1 (isiD "tuple") (fV 0)))) (orB (fB (op2 neD (opN lenD (aCons (fV 0) aNil)) (fC (.int 3)))) (notB (fB (opN allD (aCons (lcE (seqI bothK (fV 0)) (nmG 1) yesB (callF [false] F_is_integer [] (aCons (fV 1) aNil)) [1]) aNil)))))) (retS (fC (.bool false))) nxS) (retS (callF [false, false, false] F_is_between [] (aCons (op2 ixD (fV 0) (fC (.int 0))) (aCons (fC (.int 0)) (aCons (op2 subD (fC c_KINDS) (fC (.int 1))) aNil))))))
def F_is_symmetry : SE := defF 2 B_is_symmetry
theorem r_is_symmetry {x0_ : B} : F_is_symmetry [x0_] = Rs.bind (B_is_symmetry [x0_, .un]) (retF 1) := rfl
def B_need_symmetry : SS := (ifS (notB (fB (callF [false] F_is_symmetry [] (aCons (fV 0) aNil)))) (exS_ "SymmetryError") nxS)
def F_need_symmetry : SE := defF 1 B_need_symmetry
theorem r_need_symmetry {x0_ : B} : F_need_symmetry [x0_] = Rs.bind (B_need_symmetry [x0_]) (retF 1) := rfl
def B_is_generators : SS := (retS (andV (op1 (isiD "tuple") (fV 0)) (andV (op2 (cmpI fun i j => decide (i ≤ j)) (opN lenD (aCons (fV 0) aNil)) (fC c_MOST_GENERATORS)) (opN allD (aCons (lcE (seqI bothK (fV 0)) (nmG 1) yesB (callF [false] F_is_symmetry [] (aCons (fV 1) aNil)) [1]) aNil)))))
def F_is_generators : SE := defF 2 B_is_generators
theorem r_is_generators {x0_ : B} : F_is_generators [x0_] = Rs.bind (B_is_generators [x0_, .un]) (retF 1) := rfl
def B_need_generators : SS := (ifS (notB (fB (callF [false] F_is_generators [] (aCons (fV 0) aNil)))) (exS_ "GeneratorsError") nxS)
def F_need_generators : SE := defF 1 B_need_generators
theorem r_need_generators {x0_ : B} : F_need_generators [x0_] = Rs.bind (B_need_generators [x0_]) (retF 1) := rfl
end M
namespace M
open PySem PySem.Spec PyProof.Rows L2 G
end M
namespace M
open PySem PySem.Spec PyProof.Rows L2 G
end M
/-! a def that calls itself: the bottom; x == () of any tuple -/
namespace G
open PySem PySem.Spec PyProof.Rows L2
/-! ### x == () -/
/-! ### t * k of a tuple -/
def mulTD : PyData → PyData → Option Ev
  | .tuple (x :: xs), .int k => if 2 ≤ k ∧ k ≤ 1000 ∧ (x :: xs).length ≤ 1000 then some (.val (.tuple (List.replicate k.toNat (x :: xs)).flatten)) else none
  | _, _ => none
theorem mulTD_ok {K : PySem.W.Frag} : OpD K (rRepT K) mulTD := by
  intro S H x y d1 d2 e Q h1 h2 he out
  cases d1 with
  | tuple xs =>
    cases xs with
    | nil => cases he
    | cons z xs =>
      cases d2 with
      | int k =>
        simp only [mulTD] at he
        split at he
        · rename_i hc
          cases he
          obtain ⟨a, us, rfl, q1, rr⟩ := h1.tup
          have hy := h2.int
          subst hy
          refine ⟨a, k, us, rfl, rfl, q1, fun hu => ?_, hc.1, hc.2.1, ?_, outTup (rr.rep _) out⟩
          · subst hu; cases rr
          · rw [rr.length]; exact hc.2.2
        · cases he
      | _ => cases he
  | _ => cases he
section
variable {X : Cx} {A0 : Ax} {W : WX} {a b : Expr} {fa fb : SE} {pos : Pos}
theorem gmulT (ha : PE X a (tE (gc X A0 W) fa)) (hb : PE X b (tE (gc X A0 W) fb)) : PE X (.BinOp a .Mult b pos) (tE (gc X A0 W) (op2 mulTD fa fb)) := gop op_repT mulTD_ok ha hb
end
end G
namespace G
open PySem PySem.Spec PyProof.Rows L2
/-! a comprehension over a slot's own list, which stays the slot's own -/
end G
namespace M
open PySem PySem.Spec PyProof.Rows L2 G
end M
namespace M
open PySem PySem.Spec PyProof.Rows L2 G
end M
namespace M
open PySem PySem.Spec PyProof.Rows L2 G
end M
namespace M
open PySem PySem.Spec PyProof.Rows L2 G
def B__law_error_marks : SS := (seqS (asgS 1 (lstE (aCons (isxE 0 (isN "SquareError")) (aCons (isxE 0 (isN "SymmetryError")) (aCons (isxE 0 (isN "GeneratorsError")) aNil))))) (seqS (asgS 1 (op2 addD (fV 1) (lstE (aCons (isxE 0 (isN "NumberError")) (aCons (isxE 0 (isN "ProgramError")) aNil))))) (seqS (asgS 1 (op2 addD (fV 1) (lstE (aCons (isxE 0 (isN "DescriptionError")) (aCons (isxE 0 (isN "ContainmentError")) aNil))))) (seqS (asgS 1 (op2 addD (fV 1) (lstE (aCons (isxE 0 (isN "PatternError")) (aCons (isxE 0 (isN "CompatibilityError")) aNil))))) (seqS (asgS 1 (op2 addD (fV 1) (lstE (aCons (isxE 0 (isN "UndoError")) (aCons (isxE 0 (isN "ParseError")) (aCons (isxE 0 (isN "CommandError")) aNil)))))) (retS (op2 addD (fV 1) (lstE (aCons (isxE 0 (isN "LimitError")) aNil)))))))))
def F__law_error_marks : SE := defF 2 B__law_error_marks
def B__law_error_name : SS := (seqS (asgS 1 (callF [true] F__law_error_marks [] (aCons (fV 0) aNil))) (seqS (ifS (orB (fB (op2 neD (lmE countD (fV 1) (fC (.bool true))) (fC (.int 1)))) (notB (fB (isxE 0 isAll)))) (retS (fC (.str "other"))) nxS) (seqS (asgS 2 (lstE (aCons (fC (.str "square")) (aCons (fC (.str "symmetry")) (aCons (fC (.str "generators")) (aCons (fC (.str "number")) (aCons (fC (.str "program")) (aCons (fC (.str "description")) (aCons (fC (.str "containment")) (aCons (fC (.str "pattern")) aNil)))))))))) (retS (op2 ixD (op2 addD (fV 2) (lstE (aCons (fC (.str "compatibility")) (aCons (fC (.str "undo")) (aCons (fC (.str "parse")) (aCons (fC (.str "command")) (aCons (fC (.str "limit")) aNil))))))) (lmE indexLD (fV 1) (fC (.bool true))))))))
def F__law_error_name : SE := defF 3 B__law_error_name
def said_ns : List Str := ["SquareError", "SymmetryError", "GeneratorsError", "NumberError", "ProgramError", "DescriptionError", "ContainmentError", "PatternError", "CompatibilityError", "UndoError", "ParseError", "CommandError"]
def H__law_said : SS := (seqS (asgS 2 (callF [true] F__law_error_name [] (aCons (fV 1) aNil))) (retS (op2 addD (op2 addD (fC (.str "! ")) (fV 2)) (ifE (fB (op2 eqD (fV 2) (fC (.str "limit")))) (op2 addD (op2 addD (op2 addD (fC (.str " ")) (opN toStrD (aCons badE aNil))) (fC (.str " "))) (opN toStrD (aCons badE aNil))) (fC (.str ""))))))
end M
namespace G
open PySem PySem.Spec PyProof.Rows L2
/-! ### try: .. except ..: a body that nothing leaves as an exception -/
/-! ### xs.pop(i) -/
end G
namespace M
open PySem PySem.Spec PyProof.Rows L2 G
end M
/-! == and != where a dict stands against an int, and of any items against () and [] -/
namespace G
open PySem PySem.Spec PyProof.Rows L2
open AutoSeq1 (wpAny_loadPart')
/-! ### a dict and an int -/
/-! ### a dict against an int, within tuples -/
/-! ### the operators -/
end G
namespace M
open PySem PySem.Spec PyProof.Rows L2 G
end M
set_option maxHeartbeats 2000000
namespace G
open PySem PySem.Spec PyProof.Rows L2
/-! ### f'..' of texts and ints -/
def fsStep (acc : Str) : PyData → Option Str
  | .str y => if y.length ≤ sizeLine ∧ (acc ++ y).length ≤ sizeLine then some (acc ++ y) else none
  | .int i => if i.natAbs.log2 < 1920 ∧ (acc ++ (toString i : String)).length ≤ sizeLine then some (acc ++ (toString i : String)) else none
  | _ => none
def fsJ (rest : Str → SE) (ρ : List B) : Option Str → Rs (Ev × List B)
  | some a => rest a ρ
  | none => .bad
def fsK (rest : Str → SE) (acc : Str) (p : Ev × List B) : Rs (Ev × List B) := fsJ rest p.2 ((peek p.2 p.1).bind (fsStep acc))
def fsL : List SE → Str → SE
  | [], acc => fun ρ => resE ρ (some (.val (.str acc)))
  | f :: fs, acc => fun ρ => (f ρ).bind (fsK (fsL fs) acc)
def fsE (fs : List SE) : SE := fsL fs Str.empty
theorem r_fsE {fs : List SE} {ρ : List B} : fsE fs ρ = fsL fs Str.empty ρ := id rfl
theorem r_fs0 {acc : Str} {ρ : List B} : fsL [] acc ρ = .ok (.val (.str acc), ρ) := id rfl
theorem r_fs1 {f : SE} {fs : List SE} {acc : Str} {ρ : List B} : fsL (f :: fs) acc ρ = Rs.bind (f ρ) (fsK (fsL fs) acc) := id rfl
theorem k_fs1 {rest : Str → SE} {acc : Str} {e : Ev} {ρ : List B} : fsK rest acc (e, ρ) = fsJ rest ρ ((peek ρ e).bind (fsStep acc)) := id rfl
theorem k_fs2 {rest : Str → SE} {a : Str} {ρ : List B} : fsJ rest ρ (some a) = rest a ρ := id rfl
theorem k_fsS {acc y : Str} (h : y.length ≤ sizeLine ∧ (acc ++ y).length ≤ sizeLine) : fsStep acc (.str y) = some (acc ++ y) := if_pos h
theorem k_fsI {acc : Str} {i : Int} (h : i.natAbs.log2 < 1920 ∧ (acc ++ (toString i : String)).length ≤ sizeLine) : fsStep acc (.int i) = some (acc ++ (toString i : String)) := if_pos h
section
variable {X : Cx} {A0 : Ax} {W : WX}
theorem fsL_ok {g : Gc} : ∀ (fs : List SE) (acc : Str) (S : Addr → Prop) (ρ : List B) (σ : St) (H : Hp) (Q : VK), Rp g.K g.A0 S H σ ρ → PostE g S H σ ρ (fsL fs acc ρ) Q → tJs (fs.map fun f => tFmt (tE g f)) acc σ H (fun out H1 => Q (.str out) H1)
  | [], acc, S, ρ, σ, H, Q, r, h => by
    have h : PostE g S H σ ρ (resE ρ (some (.val (.str acc)))) Q := h
    obtain ⟨ev, he, out⟩ := resE_out (g := g) Tr.refl r h
    cases he
    exact outStr out
  | f :: fs, acc, S, ρ, σ, H, Q, r, h => by
    show tE g f σ H _
    refine tE_bind (P := fun z => PostE g S H σ ρ z Q) exE PostE.bad r h fun p S1 H1 v1 t1 r1 e1 h => ?_
    unfold fsK at h
    cases pk : peek p.2 p.1 with
    | none => rw [pk] at h; exact h.elim
    | some d =>
      rw [pk, Option.bind_some] at h
      have dw := peek_ok r1 e1 pk
      cases d with
      | str y =>
        unfold fsStep at h
        simp only at h
        split at h
        · rename_i hc
          exact .inl ⟨y, dw.str, hc.1, y, rfl, hc.2, fsL_ok fs (acc ++ y) S1 p.2 σ H1 Q r1 (PostE.from t1 h)⟩
        · exact h.elim
      | int i =>
        unfold fsStep at h
        simp only at h
        split at h
        · rename_i hc
          exact .inr ⟨i, dw.int, hc.1, _, rfl, hc.2, fsL_ok fs _ S1 p.2 σ H1 Q r1 (PostE.from t1 h)⟩
        · exact h.elim
      | _ => exact h.elim
/-- the parts -/
inductive PF (X : Cx) (g : Gc) : List Expr → List SE → Prop where
  | nil : PF X g [] []
  | cons {e : Expr} {f : SE} {es : List Expr} {fs : List SE} {pos : Pos} (h : PE X e (tE g f)) (r : PF X g es fs) : PF X g (.FormattedValue e (-1) none pos :: es) (f :: fs)
theorem PF.pj {X : Cx} {g : Gc} {es : List Expr} {fs : List SE} (h : PF X g es fs) : PJ X es (fs.map fun f => tFmt (tE g f)) := by
  induction h with
  | nil => exact .nil
  | cons h _ ih => exact .cons (pe_fmt h) ih
theorem g_fs {v1 v2 : Expr} {rest : List Expr} {fs : List SE} {pos : Pos} (h : PF X (gc X A0 W) (v1 :: v2 :: rest) fs) : PE X (.JoinedStr (v1 :: v2 :: rest) pos) (tE (gc X A0 W) (fsE fs)) :=
  PE_imp (pe_joined h.pj) fun σ H Q ⟨S, ρ, r, h⟩ => fsL_ok fs Str.empty S ρ σ H Q r h
end
/-! ### methods of a text with one argument -/
def isSt8 : Option PyData → Bool
  | some (.str _) => true
  | _ => false
def smK2 (b : PyData → PyData → Option Ev) (e : Ev) : Ev × List B → Rs (Ev × List B) := fun q => resE q.2 (o2L2 b (peek q.2 e) (peek q.2 q.1))
def smJ (b : PyData → PyData → Option Ev) (fa : SE) (e : Ev) (ρ : List B) (c : Bool) : Rs (Ev × List B) := if c = true then (fa ρ).bind (smK2 b e) else .bad
def smK (b : PyData → PyData → Option Ev) (fa : SE) : Ev × List B → Rs (Ev × List B) := fun p => smJ b fa p.1 p.2 (isSt8 (peek p.2 p.1))
def smE (b : PyData → PyData → Option Ev) (fe fa : SE) : SE := fun ρ => (fe ρ).bind (smK b fa)
theorem r_smE {b : PyData → PyData → Option Ev} {fe fa : SE} {ρ : List B} : smE b fe fa ρ = Rs.bind (fe ρ) (smK b fa) := id rfl
theorem k_sm1 {b : PyData → PyData → Option Ev} {fa : SE} {e : Ev} {ρ : List B} : smK b fa (e, ρ) = smJ b fa e ρ (isSt8 (peek ρ e)) := id rfl
theorem k_sm2 {x : Str} : isSt8 (some (.str x)) = true := id rfl
theorem k_sm3 {b : PyData → PyData → Option Ev} {fa : SE} {e : Ev} {ρ : List B} : smJ b fa e ρ true = Rs.bind (fa ρ) (smK2 b e) := id rfl
theorem k_sm4 {b : PyData → PyData → Option Ev} {e e2 : Ev} {ρ : List B} : smK2 b e (e2, ρ) = resE ρ (o2L2 b (peek ρ e) (peek ρ e2)) := id rfl
theorem sm_ok {g : Gc} {r : V → List V → Hp → VK → Prop} {b : PyData → PyData → Option Ev} {fe fa : SE} (ho : ∀ S H x y d1 d2 e Q, Dw g.K S H x d1 → Dw g.K S H y d2 → b d1 d2 = some e → Out g.K S H e Q → r x [y] H Q) :
    ∀ σ H Q, tE g (smE b fe fa) σ H Q → tM1 r (tE g fe) (tE g fa) σ H Q := by
  rintro σ H Q ⟨S, ρ, rp, h⟩
  refine tE_bind (P := fun z => PostE g S H σ ρ z Q) exE PostE.bad rp h fun p S1 H1 v1 t1 r1 e1 h => ?_
  unfold smK smJ at h
  split at h
  rotate_left
  · exact h.elim
  rename_i hl
  refine ⟨?_, ?_⟩
  · cases p0 : peek p.2 p.1 with
    | none => rw [p0] at hl; cases hl
    | some d0 =>
      rw [p0] at hl
      cases d0 with
      | str a => exact ⟨a, (peek_ok r1 e1 p0).str⟩
      | _ => cases hl
  · refine tE_bind (P := fun z => PostE g S1 H1 σ p.2 z Q) exE PostE.bad r1 (h.from t1) fun q S2 H2 v2 t2 r2 e2 h => ?_
    obtain ⟨e, he, out⟩ := resE_out t2 r2 h
    have e1' := e1.mono r1 t2
    cases p1 : peek q.2 p.1 with
    | none => rw [p1] at he; cases he
    | some d1 =>
      rw [p1] at he
      cases p2 : peek q.2 q.1 with
      | none => rw [p2] at he; cases he
      | some d2 =>
        rw [p2] at he
        exact ho S2 H2 v1 v2 d1 d2 e Q (peek_ok r2 e1' p1) (peek_ok r2 e2 p2) he out
theorem dr_strs {K : PySem.W.Frag} {S : Addr → Prop} {H : Hp} : ∀ (ys : List Str), DrAll K S H (ys.map V.str) (ys.map PyData.str)
  | [] => .nil
  | y :: ys => .cons (.str y) (dr_strs ys)
def strsD : List PyData → Option (List Str)
  | [] => some []
  | .str x :: ds => (strsD ds).map (x :: ·)
  | _ :: _ => none
theorem strsD_map (ys : List Str) : strsD (ys.map PyData.str) = some ys := by
  induction ys with
  | nil => rfl
  | cons y ys ih => show (strsD (ys.map PyData.str)).map _ = _; rw [ih]; rfl
theorem strsD_ok {K : PySem.W.Frag} {S : Addr → Prop} {H : Hp} : ∀ {ds : List PyData} {xs : List V} {ys : List Str}, DrAll K S H xs ds → strsD ds = some ys → xs = ys.map V.str
  | [], xs, ys, h, e => by cases h; cases e; rfl
  | d :: ds, xs, ys, h, e => by
    cases h with
    | cons h1 h2 =>
      cases d with
      | str x =>
        cases q : strsD ds with
        | none =>
          have : (strsD ds).map (x :: ·) = some ys := e
          rw [q] at this
          cases this
        | some zs =>
          have : (strsD ds).map (x :: ·) = some ys := e
          rw [q] at this
          cases this
          rw [List.map_cons, strsD_ok h2 q, h1.w.str]
      | _ => cases e
def splitD (x y : PyData) : Option Ev := match x, y with
  | .str a, .str b => if (b.length == 0) = false ∧ a.length + 2 ≤ sizeLine then some (.fr (.list ((Txt.split a b).map PyData.str))) else none
  | _, _ => none
def joinD (x y : PyData) : Option Ev := match x, y with
  | .str a, .list ds => (strsD ds).bind fun ys => if (ys.map (·.length)).sum + ys.length * a.length ≤ 16777216 then some (.val (.str (Txt.join a ys))) else none
  | _, _ => none
theorem d_split {a b : Str} {l : List Str} (h : (b.length == 0) = false ∧ a.length + 2 ≤ sizeLine) (e : Txt.split a b = l) : splitD (.str a) (.str b) = some (.fr (.list (l.map PyData.str))) := by
  rw [← e]; exact if_pos h
theorem d_join {a r : Str} {ys : List Str} (h : (ys.map (·.length)).sum + ys.length * a.length ≤ 16777216) (e : Txt.join a ys = r) : joinD (.str a) (.list (ys.map PyData.str)) = some (.val (.str r)) := by
  show (strsD (ys.map PyData.str)).bind _ = _
  rw [strsD_map, Option.bind_some, if_pos h, e]
section
variable {X : Cx} {A0 : Ax} {W : WX} {o e a b : Expr} {es : List Expr} {rest : List Expr} {fe fa fb : SE} {fs : SA} {apos cpos pos p : Pos}
theorem g_split (ho : PE X o (tE (gc X A0 W) fe)) (ha : PE X e (tE (gc X A0 W) fa)) (hs : starEach [e] X.env = [(false, eval e X.env)] := by rfl) (hbase : attributeBase o "split" X.env (eval o X.env) = eval o X.env := by rfl) (hline : (apos.endLine == cpos.line) = true := by rfl) :
    PE X (.Call (.Attribute o "split" apos) [e] [] cpos) (tE (gc X A0 W) (smE splitD fe fa)) :=
  PE_imp (pe_split ho ha hs hbase hline) (sm_ok fun S H x y d1 d2 e Q h1 h2 he out => by
    unfold splitD at he
    split at he
    · split at he
      · rename_i hc
        cases he
        exact ⟨_, _, h1.str, by rw [h2.str], hc.1, hc.2, outLst (dr_strs _) out⟩
      · cases he
    · cases he)
theorem g_join (ho : PE X o (tE (gc X A0 W) fe)) (ha : PE X e (tE (gc X A0 W) fa)) (hs : starEach [e] X.env = [(false, eval e X.env)] := by rfl) (hbase : attributeBase o "join" X.env (eval o X.env) = eval o X.env := by rfl) (hline : (apos.endLine == cpos.line) = true := by rfl) :
    PE X (.Call (.Attribute o "join" apos) [e] [] cpos) (tE (gc X A0 W) (smE joinD fe fa)) :=
  PE_imp (pe_join ho ha hs hbase hline) (sm_ok fun S H x y d1 d2 e Q h1 h2 he out => by
    unfold joinD at he
    split at he
    · rename_i a ds
      cases q : strsD ds with
      | none => rw [q] at he; cases he
      | some ys =>
        rw [q, Option.bind_some] at he
        split at he
        · rename_i hc
          cases he
          obtain ⟨p, xs, rfl, sx, dx⟩ := h2.lst
          have ex := strsD_ok dx q
          subst ex
          exact ⟨_, p, ys, h1.str, rfl, .inl sx.sq, hc, outStr out⟩
        · cases he
    · cases he)
/-! ### int(text) -/
def intTD : List PyData → Option Ev
  | [.str a] => if a.length ≤ 640 then (PySem.intText? a).map fun n => .val (.int n) else none
  | _ => none
theorem d_intT {a : Str} {n : Int} (h : a.length ≤ 640) (e : PySem.intText? a = some n) : intTD [.str a] = some (.val (.int n)) := by
  show (if a.length ≤ 640 then (PySem.intText? a).map fun n => Ev.val (.int n) else none) = _
  rw [if_pos h, e]; rfl
theorem intTD_ok {K : PySem.W.Frag} : CallD K (fun xs H Q => ∃ a n, xs = [.str a] ∧ PySem.intText? a = some n ∧ a.length ≤ 640 ∧ Q (.int n) H) intTD := by
  intro S H xs ds e Q h he out
  match ds, he with
  | [.str a], he =>
    have he : (if a.length ≤ 640 then (PySem.intText? a).map fun n => Ev.val (.int n) else none) = some e := he
    split at he
    · rename_i hl
      cases q : PySem.intText? a with
      | none => rw [q] at he; cases he
      | some n =>
        rw [q] at he
        cases he
        obtain ⟨v, rfl, hv⟩ := dw1 h
        exact ⟨a, n, by rw [hv.str], q, hl, outInt out⟩
    · cases he
theorem g_intT (hm : X.mg "int" = none) (ha : PA X (e :: es) (tA (gc X A0 W) fs)) (hg : Gl X "int" := by rfl)
    (he : starEach (e :: es) X.env = (false, eval e X.env) :: starEach es X.env := by rfl) (hpl : (backTo pos (starEach es X.env)).any (·.1) = false := by rfl) : PE X (.Call (.Name "int" p) (e :: es) [] pos) (tE (gc X A0 W) (opN intTD fs)) :=
  gcallT call_int_str intTD_ok hm (by decide +kernel) ha hg (by decide) (by decide) he hpl
/-! ### a sign in a text -/
def inSgD : PyData → PyData → Option Ev
  | .str x, .str z => match x.cps.toList with
    | [c] => some (.val (.bool (decide (c ∈ z.cps.toList))))
    | _ => none
  | _, _ => none
theorem d_inSg {c : Nat} {z : Str} : inSgD (.str ⟨#[c]⟩) (.str z) = some (.val (.bool (decide (c ∈ z.cps.toList)))) := id rfl
theorem inSgD_ok {K : PySem.W.Frag} : OpD K (fun x y H Q => ∃ (c : Nat) (z : Str), x = .str ⟨#[c]⟩ ∧ y = .str z ∧ Q (.bl (decide (c ∈ z.cps.toList))) H) inSgD := by
  intro S H x y d1 d2 e Q h1 h2 he out
  unfold inSgD at he
  split at he
  · rename_i x' z
    split at he
    · rename_i c hc
      cases he
      refine ⟨c, z, ?_, h2.str, outBl out⟩
      rw [h1.str]
      congr 1
      exact Str.ext' (Array.toList_inj.mp hc)
    · cases he
  · cases he
theorem g_inSg (ha : PE X a (tE (gc X A0 W) fa)) (hb : PE X b (tE (gc X A0 W) fb)) (hm : behindInMarks .In b = false := by with_unfolding_all rfl) : PE X (.Compare a [.In] [b] pos) (tE (gc X A0 W) (op2 inSgD fa fb)) := gcmp op_in_sign inSgD_ok ha hb hm
/-! ### a text walked -/
def strK : PyData → Option (List PyData)
  | .str x => some (x.cps.toList.map fun c => .str ⟨#[c]⟩)
  | _ => none
theorem its_ok {K : PySem.W.Frag} {S : Addr → Prop} {H : Hp} (x : Str) : ItOk K (Its x) S H (x.cps.toList.map fun c => PyData.str ⟨#[c]⟩) := by
  refine ⟨fun S2 H2 i d _ e => ?_, fun S2 H2 _ => ?_⟩
  · rw [List.getElem?_map] at e
    cases q : x.cps.toList[i]? with
    | none => rw [q] at e; cases e
    | some c =>
      rw [q] at e
      cases e
      have q2 : x.cps[i]? = some c := by rw [← Array.getElem?_toList]; exact q
      refine ⟨?_, fun y H' hy => ?_⟩
      · have := (List.getElem?_eq_some_iff.mp q).1
        exact this
      · obtain ⟨rfl, c', e', rfl⟩ := hy
        rw [q2] at e'
        cases e'
        exact ⟨fun _ _ e => e, .str _⟩
  · rw [List.length_map]
    exact Nat.le_refl _
theorem gi_str {tg l : Expr} (hl : PE X l (tE (gc X A0 W) fe)) : PI X tg l (tI (gc X A0 W) (seqI strK fe)) := PI_imp (pi_str hl) fun σ H R h => seqI_bind h fun S' H' v d ds hd hk q => by
  cases d with
  | str x => cases hk; exact ⟨x, hd.w.str, q _ (its_ok x)⟩
  | _ => cases hk
theorem k_seqIS {x : Str} {ρ : List B} : seqIK strK (.str x) ρ = .ok (x.cps.toList.map fun c => .str ⟨#[c]⟩, ρ) := id rfl
/-! ### text or e -/
end
end G
namespace M
open PySem PySem.Spec PyProof.Rows L2 G
abbrev c_COLON : PyData := .str ":"
abbrev c_COMMA : PyData := .str ","
abbrev c_DIGITS : PyData := .str "0123456789"
abbrev c_MINUS : PyData := .str "-"
abbrev c_NONE : PyData := .str "-"
def B_natural_in : SS := (seqS (ifS (orB (fB (op2 eqD (fV 0) (fC (.str "")))) (orB (notB (fB (opN allD (aCons (lcE (seqI strK (fV 0)) (nmG 1) yesB (op2 inSgD (fV 1) (fC c_DIGITS)) [1]) aNil)))) (andB (fB (op2 eqD (op2 ixD (fV 0) (fC (.int 0))) (fC (.str "0")))) (fB (op2 neD (fV 0) (fC (.str "0"))))))) (retS (fC .none)) nxS) (retS (opN intTD (aCons (fV 0) aNil))))
def F_natural_in : SE := defF 2 B_natural_in
theorem r_natural_in {x0_ : B} : F_natural_in [x0_] = Rs.bind (B_natural_in [x0_, .un]) (retF 1) := rfl
def B_integer_in : SS := (seqS (ifS (fB (op2 neD (slE (fV 0) none (some (fC (.int 1)))) (fC c_MINUS))) (retS (callF [false] F_natural_in [] (aCons (fV 0) aNil))) nxS) (seqS (asgS 1 (callF [false] F_natural_in [] (aCons (slE (fV 0) (some (fC (.int 1))) none) aNil))) (retS (ifE (orB (fB (op2 isD (fV 1) (fC .none))) (fB (op2 eqD (fV 1) (fC (.int 0))))) (fC .none) (op2 subD (fC (.int 0)) (fV 1))))))
def F_integer_in : SE := defF 2 B_integer_in
theorem r_integer_in {x0_ : B} : F_integer_in [x0_] = Rs.bind (B_integer_in [x0_, .un]) (retF 1) := rfl
def B_square_in : SS := (seqS (asgS 1 (opN tupleD (aCons (lcE (seqI bothK (smE splitD (fV 0) (fC c_COMMA))) (nmG 2) yesB (callF [false] F_integer_in [] (aCons (fV 2) aNil)) [2]) aNil))) (retS (ifE (andB (fB (op2 eqD (opN lenD (aCons (fV 1) aNil)) (fC (.int 2)))) (fB (op2 ninG (fC .none) (fV 1)))) (fV 1) (fC .none))))
def F_square_in : SE := defF 3 B_square_in
theorem r_square_in {x0_ : B} : F_square_in [x0_] = Rs.bind (B_square_in [x0_, .un, .un]) (retF 1) := rfl
def B_symmetry_in : SS := (seqS (asgS 1 (smE splitD (fV 0) (fC c_COLON))) (seqS (ifS (fB (op2 neD (opN lenD (aCons (fV 1) aNil)) (fC (.int 2)))) (retS (fC .none)) nxS) (seqS (parS 2 3 (callF [false] F_natural_in [] (aCons (op2 ixD (fV 1) (fC (.int 0))) aNil)) (callF [false] F_square_in [] (aCons (op2 ixD (fV 1) (fC (.int 1))) aNil))) (seqS (ifS (orB (fB (op2 isD (fV 2) (fC .none))) (fB (op2 isD (fV 3) (fC .none)))) (retS (fC .none)) nxS) (retS (ifE (fB (callF [false] F_is_symmetry [] (aCons (op2 addD (tupE (aCons (fV 2) aNil)) (fV 3)) aNil))) (op2 addD (tupE (aCons (fV 2) aNil)) (fV 3)) (fC .none)))))))
def F_symmetry_in : SE := defF 4 B_symmetry_in
theorem r_symmetry_in {x0_ : B} : F_symmetry_in [x0_] = Rs.bind (B_symmetry_in [x0_, .un, .un, .un]) (retF 1) := rfl
def B_parse_symmetry : SS := (seqS (asgS 1 (ifE (fB (op1 (isiD "str") (fV 0))) (callF [false] F_symmetry_in [] (aCons (fV 0) aNil)) (fC .none))) (seqS (ifS (fB (op2 isD (fV 1) (fC .none))) (exS_ "ParseError") nxS) (retS (fV 1))))
def F_parse_symmetry : SE := defF 2 B_parse_symmetry
theorem r_parse_symmetry {x0_ : B} : F_parse_symmetry [x0_] = Rs.bind (B_parse_symmetry [x0_, .un]) (retF 1) := rfl
def B_generators_in : SS := (seqS (ifS (fB (op2 eqD (fV 0) (fC c_NONE))) (retS (tupE aNil)) nxS) (seqS (asgS 1 (opN tupleD (aCons (lcE (seqI bothK (smE splitD (fV 0) (fC (.str " ")))) (nmG 2) yesB (callF [false] F_symmetry_in [] (aCons (fV 2) aNil)) [2]) aNil))) (retS (ifE (fB (callF [false] F_is_generators [] (aCons (fV 1) aNil))) (fV 1) (fC .none)))))
def F_generators_in : SE := defF 3 B_generators_in
theorem r_generators_in {x0_ : B} : F_generators_in [x0_] = Rs.bind (B_generators_in [x0_, .un, .un]) (retF 1) := rfl
def B_parse_generators : SS := (seqS (asgS 1 (ifE (fB (op1 (isiD "str") (fV 0))) (callF [false] F_generators_in [] (aCons (fV 0) aNil)) (fC .none))) (seqS (ifS (fB (op2 isD (fV 1) (fC .none))) (exS_ "ParseError") nxS) (retS (fV 1))))
def F_parse_generators : SE := defF 2 B_parse_generators
theorem r_parse_generators {x0_ : B} : F_parse_generators [x0_] = Rs.bind (B_parse_generators [x0_, .un]) (retF 1) := rfl
def B_square_text : SS := (retS (fsE [(op2 ixD (fV 0) (fC (.int 0))), (fC c_COMMA), (op2 ixD (fV 0) (fC (.int 1)))]))
def F_square_text : SE := defF 1 B_square_text
theorem r_square_text {x0_ : B} : F_square_text [x0_] = Rs.bind (B_square_text [x0_]) (retF 1) := rfl
def B_symmetry_text : SS := (retS (fsE [(op2 ixD (fV 0) (fC (.int 0))), (fC c_COLON), (callF [false] F_square_text [] (aCons (slE (fV 0) (some (fC (.int 1))) none) aNil))]))
def F_symmetry_text : SE := defF 1 B_symmetry_text
theorem r_symmetry_text {x0_ : B} : F_symmetry_text [x0_] = Rs.bind (B_symmetry_text [x0_]) (retF 1) := rfl
def B_format_symmetry : SS := (seqS (dropS (callF [false] F_need_symmetry [] (aCons (fV 0) aNil))) (retS (callF [false] F_symmetry_text [] (aCons (fV 0) aNil))))
def F_format_symmetry : SE := defF 1 B_format_symmetry
theorem r_format_symmetry {x0_ : B} : F_format_symmetry [x0_] = Rs.bind (B_format_symmetry [x0_]) (retF 1) := rfl
def B_symmetries_text : SS := (retS (ifE (fB (op2 neD (fV 0) (tupE aNil))) (smE joinD (fC (.str " ")) (lcE (seqI bothK (fV 0)) (nmG 1) yesB (callF [false] F_symmetry_text [] (aCons (fV 1) aNil)) [1])) (fC c_NONE)))
def F_symmetries_text : SE := defF 2 B_symmetries_text
theorem r_symmetries_text {x0_ : B} : F_symmetries_text [x0_] = Rs.bind (B_symmetries_text [x0_, .un]) (retF 1) := rfl
def B_format_generators : SS := (seqS (dropS (callF [false] F_need_generators [] (aCons (fV 0) aNil))) (retS (callF [false] F_symmetries_text [] (aCons (fV 0) aNil))))
def F_format_generators : SE := defF 1 B_format_generators
theorem r_format_generators {x0_ : B} : F_format_generators [x0_] = Rs.bind (B_format_generators [x0_]) (retF 1) := rfl
def B__law_texts_are_right : SS := (seqS (ifS (orB (fB (op2 neD (callF [false] F_format_symmetry [] (aCons (tupE (aCons (fC (.int 7)) (aCons (fV 0) (aCons (op1 negD (fC (.int 2))) aNil)))) aNil)) (op2 addD (op2 addD (fC (.str "7:")) (opN toStrD (aCons (fV 0) aNil))) (fC (.str ",-2"))))) (fB (op2 neD (callF [false] F_format_symmetry [] (aCons (tupE (aCons (fC (.int 0)) (aCons (fC (.int 0)) (aCons (fC (.int 0)) aNil)))) aNil)) (fC (.str "0:0,0"))))) (retS (fC (.bool false))) nxS) (seqS (ifS (fB (op2 neD (callF [false] F_parse_symmetry [] (aCons (op2 addD (op2 addD (fC (.str "3:-")) (opN toStrD (aCons (op2 addD (fV 0) (fC (.int 1))) aNil))) (fC (.str ",0"))) aNil)) (tupE (aCons (fC (.int 3)) (aCons (op2 subD (op2 subD (fC (.int 0)) (fV 0)) (fC (.int 1))) (aCons (fC (.int 0)) aNil)))))) (retS (fC (.bool false))) nxS) (seqS (ifS (orB (fB (op2 neD (callF [false] F_format_generators [] (aCons (tupE aNil) aNil)) (fC (.str "-")))) (fB (op2 neD (callF [false] F_parse_generators [] (aCons (fC (.str "-")) aNil)) (tupE aNil)))) (retS (fC (.bool false))) nxS) (seqS (asgS 1 (tupE (aCons (tupE (aCons (fC (.int 1)) (aCons (fC (.int 0)) (aCons (fC (.int 0)) aNil)))) (aCons (tupE (aCons (fC (.int 0)) (aCons (fV 0) (aCons (fC (.int 0)) aNil)))) (aCons (tupE (aCons (fC (.int 6)) (aCons (op1 negD (fC (.int 3))) (aCons (fC (.int 1000)) aNil)))) aNil))))) (seqS (ifS (fB (op2 neD (callF [false] F_parse_generators [] (aCons (fC (.str "0:1,1")) aNil)) (tupE (aCons (tupE (aCons (fC (.int 0)) (aCons (fC (.int 1)) (aCons (fC (.int 1)) aNil)))) aNil)))) (retS (fC (.bool false))) nxS) (retS (op2 eqD (callF [false] F_format_generators [] (aCons (fV 1) aNil)) (op2 addD (op2 addD (fC (.str "1:0,0 0:")) (opN toStrD (aCons (fV 0) aNil))) (fC (.str ",0 6:-3,1000"))))))))))
def F__law_texts_are_right : SE := defF 2 B__law_texts_are_right
theorem r__law_texts_are_right {x0_ : B} : F__law_texts_are_right [x0_] = Rs.bind (B__law_texts_are_right [x0_, .un]) (retF 1) := rfl
def L1_law_k87 : SS := (seqS (asgS 2 (opN reprD (aCons (fV 1) aNil))) (ifS (orB (fB (op2 neD (saidE said_ns H__law_said (callF [false] F_format_symmetry [] (aCons (fV 1) aNil))) (fC (.str "! symmetry")))) (fB (op2 neD (opN reprD (aCons (fV 1) aNil)) (fV 2)))) (retS (fC (.bool false))) nxS))
def L2_law_k87 : SS := (seqS (asgS 2 (opN reprD (aCons (fV 1) aNil))) (ifS (orB (fB (op2 neD (saidE said_ns H__law_said (callF [false] F_format_generators [] (aCons (fV 1) aNil))) (fC (.str "! generators")))) (fB (op2 neD (opN reprD (aCons (fV 1) aNil)) (fV 2)))) (retS (fC (.bool false))) nxS))
def L3_law_k87 : SS := (ifS (fB (op2 neD (saidE said_ns H__law_said (callF [false] F_parse_symmetry [] (aCons (fV 1) aNil))) (fC (.str "! parse")))) (retS (fC (.bool false))) nxS)
def L4_law_k87 : SS := (ifS (fB (op2 neD (saidE said_ns H__law_said (callF [false] F_parse_generators [] (aCons (fV 1) aNil))) (fC (.str "! parse")))) (retS (fC (.bool false))) nxS)
def B_law_k87 : SS := (seqS (forS (seqI bothK (lstE (aCons (fC .none) (aCons (tupE aNil) (aCons (fC (.int 0)) (aCons (fC (.str "0:0,0")) (aCons (lstE (aCons (fC (.int 0)) (aCons (fC (.int 0)) (aCons (fC (.int 0)) aNil)))) (aCons (tupE (aCons (fC (.int 8)) (aCons (fC (.int 0)) (aCons (fC (.int 0)) aNil)))) (aCons (tupE (aCons (fC (.int 0)) (aCons (fC (.int 0)) aNil))) (aCons (tupE (aCons (fC (.bool true)) (aCons (fC (.int 0)) (aCons (fC (.int 0)) aNil)))) (aCons (tupE (aCons (fC (.int 0)) (aCons (fC (.int 0)) (aCons (fC (.int 0)) (aCons (fC (.int 0)) aNil))))) (aCons (tupE (aCons (tupE (aCons (fC (.int 0)) (aCons (fC (.int 0)) (aCons (fC (.int 0)) aNil)))) aNil)) (aCons dic0E aNil))))))))))))) (nmG 1) L1_law_k87) (seqS (asgS 3 (lstE (aCons (fC .none) (aCons (fC (.int 0)) (aCons (fC (.str "-")) (aCons (lstE aNil) (aCons (tupE (aCons (fC (.int 0)) (aCons (fC (.int 0)) (aCons (fC (.int 0)) aNil)))) (aCons (tupE (aCons (tupE (aCons (fC (.int 0)) (aCons (fC (.int 0)) aNil))) aNil)) (aCons (op2 mulTD (tupE (aCons (tupE (aCons (fC (.int 0)) (aCons (fC (.int 0)) (aCons (fC (.int 0)) aNil)))) aNil)) (fC (.int 7))) (aCons (tupE (aCons (tupE (aCons (fC (.int 0)) (aCons (fC (.int 0)) (aCons (fC (.int 0)) aNil)))) (aCons (fC .none) aNil))) (aCons (lstE (aCons (tupE (aCons (fC (.int 0)) (aCons (fC (.int 0)) (aCons (fC (.int 0)) aNil)))) aNil)) (aCons dic0E aNil)))))))))))) (seqS (forS (seqI bothK (op2 addD (fV 3) (lstE (aCons (tupE (aCons (tupE (aCons (fC (.int 8)) (aCons (fC (.int 0)) (aCons (fC (.int 0)) aNil)))) aNil)) aNil)))) (nmG 1) L2_law_k87) (seqS (forS (seqI bothK (lstE (aCons (fC .none) (aCons (fC (.str "")) (aCons (fC (.str "8:0,0")) (aCons (fC (.str "0:0")) (aCons (fC (.str "-")) (aCons (fC (.str "0:0,0 0:0,0")) (aCons (fC (.int 7)) (aCons (tupE aNil) aNil)))))))))) (nmG 1) L3_law_k87) (seqS (forS (seqI bothK (lstE (aCons (fC .none) (aCons (fC (.str "")) (aCons (fC (.str "8:0,0")) (aCons (fC (.str "0:0")) (aCons (fC (.str "--")) (aCons (fC (.str "0:0,0  0:0,0")) (aCons (fC (.int 7)) (aCons (tupE aNil) aNil)))))))))) (nmG 1) L4_law_k87) (retS (opN allD (aCons (lcE (rng1I (aCons (opN max2D (aCons (fC (.int 1)) (aCons (opN min2D (aCons (opN lenD (aCons (fV 0) aNil)) (aCons (fC (.int 3)) aNil))) aNil))) aNil)) (nmG 4) yesB (callF [false] F__law_texts_are_right [] (aCons (op2 modD (callF [false, false] F__law_cell [] (aCons (fV 0) (aCons (fV 4) aNil))) (fC (.int 999))) aNil)) [4]) aNil))))))))
def F_law_k87 : SE := defF 5 B_law_k87
theorem r_law_k87 {x0_ : B} : F_law_k87 [x0_] = Rs.bind (B_law_k87 [x0_, .un, .un, .un, .un]) (retF 1) := rfl
end M
namespace L_k87
open PySem PySem.Spec PyProof.Rows L2 G M
def topS (i : Nat) : Stmt := PySem.Challenge.pw_gridsym_k87_texts_by_hand_and_by_names.main.body.getD i (.Pass ⟨0, 0, 0, 0⟩)
abbrev s__law_error_marks : Stmt := topS 46
theorem sc__law_error_marks : FnScope ["_law_error", "_law_found"] ["_law_error"] (defScope s__law_error_marks) := ⟨rfl, rfl, rfl, by decide +kernel, rfl, by decide +kernel, by decide +kernel⟩
abbrev s__law_error_name : Stmt := topS 47
theorem sc__law_error_name : FnScope ["_law_error", "_law_marks", "_law_names"] ["_law_error"] (defScope s__law_error_name) := ⟨rfl, rfl, rfl, by decide +kernel, rfl, by decide +kernel, by decide +kernel⟩
abbrev s__law_said : Stmt := topS 48
theorem sc__law_said : FnScope ["_law_call", "_law_error", "_law_name"] ["_law_call"] (defScope s__law_said) := ⟨rfl, rfl, rfl, by decide +kernel, rfl, by decide +kernel, by decide +kernel⟩
abbrev s_natural_in : Stmt := topS 37
theorem sc_natural_in : FnScope ["word", "sign"] ["word"] (defScope s_natural_in) := ⟨rfl, rfl, rfl, by decide +kernel, rfl, by decide +kernel, by decide +kernel⟩
abbrev s_integer_in : Stmt := topS 38
theorem sc_integer_in : FnScope ["word", "found"] ["word"] (defScope s_integer_in) := ⟨rfl, rfl, rfl, by decide +kernel, rfl, by decide +kernel, by decide +kernel⟩
abbrev s_square_in : Stmt := topS 39
theorem sc_square_in : FnScope ["word", "found", "part"] ["word"] (defScope s_square_in) := ⟨rfl, rfl, rfl, by decide +kernel, rfl, by decide +kernel, by decide +kernel⟩
abbrev s_is_integer : Stmt := topS 16
theorem sc_is_integer : FnScope ["thing"] ["thing"] (defScope s_is_integer) := ⟨rfl, rfl, rfl, by decide +kernel, rfl, by decide +kernel, by decide +kernel⟩
abbrev s_is_between : Stmt := topS 17
theorem sc_is_between : FnScope ["thing", "least", "most"] ["thing", "least", "most"] (defScope s_is_between) := ⟨rfl, rfl, rfl, by decide +kernel, rfl, by decide +kernel, by decide +kernel⟩
abbrev s_is_symmetry : Stmt := topS 20
theorem sc_is_symmetry : FnScope ["thing", "one"] ["thing"] (defScope s_is_symmetry) := ⟨rfl, rfl, rfl, by decide +kernel, rfl, by decide +kernel, by decide +kernel⟩
abbrev s_symmetry_in : Stmt := topS 40
theorem sc_symmetry_in : FnScope ["word", "parts", "kind", "square"] ["word"] (defScope s_symmetry_in) := ⟨rfl, rfl, rfl, by decide +kernel, rfl, by decide +kernel, by decide +kernel⟩
abbrev s_parse_symmetry : Stmt := topS 42
theorem sc_parse_symmetry : FnScope ["text", "found"] ["text"] (defScope s_parse_symmetry) := ⟨rfl, rfl, rfl, by decide +kernel, rfl, by decide +kernel, by decide +kernel⟩
abbrev s_is_generators : Stmt := topS 24
theorem sc_is_generators : FnScope ["thing", "one"] ["thing"] (defScope s_is_generators) := ⟨rfl, rfl, rfl, by decide +kernel, rfl, by decide +kernel, by decide +kernel⟩
abbrev s_generators_in : Stmt := topS 41
theorem sc_generators_in : FnScope ["text", "found", "word"] ["text"] (defScope s_generators_in) := ⟨rfl, rfl, rfl, by decide +kernel, rfl, by decide +kernel, by decide +kernel⟩
abbrev s_parse_generators : Stmt := topS 43
theorem sc_parse_generators : FnScope ["text", "found"] ["text"] (defScope s_parse_generators) := ⟨rfl, rfl, rfl, by decide +kernel, rfl, by decide +kernel, by decide +kernel⟩
abbrev s_need_generators : Stmt := topS 25
theorem sc_need_generators : FnScope ["thing"] ["thing"] (defScope s_need_generators) := ⟨rfl, rfl, rfl, by decide +kernel, rfl, by decide +kernel, by decide +kernel⟩
abbrev s_square_text : Stmt := topS 32
theorem sc_square_text : FnScope ["square"] ["square"] (defScope s_square_text) := ⟨rfl, rfl, rfl, by decide +kernel, rfl, by decide +kernel, by decide +kernel⟩
abbrev s_symmetry_text : Stmt := topS 33
theorem sc_symmetry_text : FnScope ["symmetry"] ["symmetry"] (defScope s_symmetry_text) := ⟨rfl, rfl, rfl, by decide +kernel, rfl, by decide +kernel, by decide +kernel⟩
abbrev s_symmetries_text : Stmt := topS 34
theorem sc_symmetries_text : FnScope ["symmetries", "one"] ["symmetries"] (defScope s_symmetries_text) := ⟨rfl, rfl, rfl, by decide +kernel, rfl, by decide +kernel, by decide +kernel⟩
abbrev s_format_generators : Stmt := topS 36
theorem sc_format_generators : FnScope ["generators"] ["generators"] (defScope s_format_generators) := ⟨rfl, rfl, rfl, by decide +kernel, rfl, by decide +kernel, by decide +kernel⟩
abbrev s_need_symmetry : Stmt := topS 21
theorem sc_need_symmetry : FnScope ["thing"] ["thing"] (defScope s_need_symmetry) := ⟨rfl, rfl, rfl, by decide +kernel, rfl, by decide +kernel, by decide +kernel⟩
abbrev s_format_symmetry : Stmt := topS 35
theorem sc_format_symmetry : FnScope ["symmetry"] ["symmetry"] (defScope s_format_symmetry) := ⟨rfl, rfl, rfl, by decide +kernel, rfl, by decide +kernel, by decide +kernel⟩
abbrev s__law_texts_are_right : Stmt := topS 49
theorem sc__law_texts_are_right : FnScope ["_law_far", "_law_rows"] ["_law_far"] (defScope s__law_texts_are_right) := ⟨rfl, rfl, rfl, by decide +kernel, rfl, by decide +kernel, by decide +kernel⟩
abbrev s__law_cell : Stmt := topS 45
theorem sc__law_cell : FnScope ["_law_script", "_law_index"] ["_law_script", "_law_index"] (defScope s__law_cell) := ⟨rfl, rfl, rfl, by decide +kernel, rfl, by decide +kernel, by decide +kernel⟩
abbrev s_law : Stmt := topS 50
theorem sc_law : FnScope ["_law_script", "_law_value", "_law_kept", "_law_values", "_law_k"] ["_law_script"] (defScope s_law) := ⟨rfl, rfl, rfl, by decide +kernel, rfl, by decide +kernel, by decide +kernel⟩
section
variable {P : Program} {w : World} {K : PySem.W.Frag} {mg : Str → Option Value} {base : Heap} {Γ : Gx} {f_ T_ : Addr} {fd_ : FuncData}
set_option maxHeartbeats 4000000 in
theorem g__law_error_marks (fk : FnK K mg .none "_law_error_marks" s__law_error_marks ["_law_error"] f_ fd_) (sys : SysOk base) (z_isinstance : mg "isinstance" = none) {D_CommandError : Addr} (ix_CommandError : mg "CommandError" = some (.ref D_CommandError)) (ok_CommandError : IsxOk K Γ.es (.ref D_CommandError) (isN "CommandError")) {D_CompatibilityError : Addr} (ix_CompatibilityError : mg "CompatibilityError" = some (.ref D_CompatibilityError)) (ok_CompatibilityError : IsxOk K Γ.es (.ref D_CompatibilityError) (isN "CompatibilityError")) {D_ContainmentError : Addr} (ix_ContainmentError : mg "ContainmentError" = some (.ref D_ContainmentError)) (ok_ContainmentError : IsxOk K Γ.es (.ref D_ContainmentError) (isN "ContainmentError")) {D_DescriptionError : Addr} (ix_DescriptionError : mg "DescriptionError" = some (.ref D_DescriptionError)) (ok_DescriptionError : IsxOk K Γ.es (.ref D_DescriptionError) (isN "DescriptionError")) {D_GeneratorsError : Addr} (ix_GeneratorsError : mg "GeneratorsError" = some (.ref D_GeneratorsError)) (ok_GeneratorsError : IsxOk K Γ.es (.ref D_GeneratorsError) (isN "GeneratorsError")) {D_LimitError : Addr} (ix_LimitError : mg "LimitError" = some (.ref D_LimitError)) (ok_LimitError : IsxOk K Γ.es (.ref D_LimitError) (isN "LimitError")) {D_NumberError : Addr} (ix_NumberError : mg "NumberError" = some (.ref D_NumberError)) (ok_NumberError : IsxOk K Γ.es (.ref D_NumberError) (isN "NumberError")) {D_ParseError : Addr} (ix_ParseError : mg "ParseError" = some (.ref D_ParseError)) (ok_ParseError : IsxOk K Γ.es (.ref D_ParseError) (isN "ParseError")) {D_PatternError : Addr} (ix_PatternError : mg "PatternError" = some (.ref D_PatternError)) (ok_PatternError : IsxOk K Γ.es (.ref D_PatternError) (isN "PatternError")) {D_ProgramError : Addr} (ix_ProgramError : mg "ProgramError" = some (.ref D_ProgramError)) (ok_ProgramError : IsxOk K Γ.es (.ref D_ProgramError) (isN "ProgramError")) {D_SquareError : Addr} (ix_SquareError : mg "SquareError" = some (.ref D_SquareError)) (ok_SquareError : IsxOk K Γ.es (.ref D_SquareError) (isN "SquareError")) {D_SymmetryError : Addr} (ix_SymmetryError : mg "SymmetryError" = some (.ref D_SymmetryError)) (ok_SymmetryError : IsxOk K Γ.es (.ref D_SymmetryError) (isN "SymmetryError")) {D_UndoError : Addr} (ix_UndoError : mg "UndoError" = some (.ref D_UndoError)) (ok_UndoError : IsxOk K Γ.es (.ref D_UndoError) (isN "UndoError")) : FnGH P w K mg base Γ 1 f_ fd_ ["_law_error"] F__law_error_marks :=
  fnGH_of (N := ["_law_error", "_law_found"]) (body := B__law_error_marks) fk.ex sc__law_error_marks sys fun cdv hcd A outer s H p C A0 hr gx hx => (gs_cons (gs_set 1 sc__law_error_marks.nd (glst (gcons (gisx hx 0 ix_SquareError ok_SquareError z_isinstance) (gcons (gisx hx 0 ix_SymmetryError ok_SymmetryError z_isinstance) (gcons (gisx hx 0 ix_GeneratorsError ok_GeneratorsError z_isinstance) gnil))))) (gs_cons (gs_set 1 sc__law_error_marks.nd (gadd (gv 1) (glst (gcons (gisx hx 0 ix_NumberError ok_NumberError z_isinstance) (gcons (gisx hx 0 ix_ProgramError ok_ProgramError z_isinstance) gnil))))) (gs_cons (gs_set 1 sc__law_error_marks.nd (gadd (gv 1) (glst (gcons (gisx hx 0 ix_DescriptionError ok_DescriptionError z_isinstance) (gcons (gisx hx 0 ix_ContainmentError ok_ContainmentError z_isinstance) gnil))))) (gs_cons (gs_set 1 sc__law_error_marks.nd (gadd (gv 1) (glst (gcons (gisx hx 0 ix_PatternError ok_PatternError z_isinstance) (gcons (gisx hx 0 ix_CompatibilityError ok_CompatibilityError z_isinstance) gnil))))) (gs_cons (gs_set 1 sc__law_error_marks.nd (gadd (gv 1) (glst (gcons (gisx hx 0 ix_UndoError ok_UndoError z_isinstance) (gcons (gisx hx 0 ix_ParseError ok_ParseError z_isinstance) (gcons (gisx hx 0 ix_CommandError ok_CommandError z_isinstance) gnil)))))) (gs_one (gs_ret (gadd (gv 1) (glst (gcons (gisx hx 0 ix_LimitError ok_LimitError z_isinstance) gnil))))))))))
theorem b__law_error_marks (fk : FnK K mg .none "_law_error_marks" s__law_error_marks ["_law_error"] f_ fd_) : Binds K fd_ ["_law_error"] [] := fk.binds fun _ _ _ _ _ _ us hl => match us, hl with | [_], _ => rfl
set_option maxHeartbeats 4000000 in
theorem g__law_error_name (fk : FnK K mg .none "_law_error_name" s__law_error_name ["_law_error"] f_ fd_) (sys : SysOk base) (z_ValueError : mg "ValueError" = none) (z_isinstance : mg "isinstance" = none) (ok_ValueError : IsxOk K Γ.es (.type "ValueError") isAll) (hf__law_error_marks : CalledH P w K mg base Γ 1 "_law_error_marks" ["_law_error"] F__law_error_marks) : FnGH P w K mg base Γ 2 f_ fd_ ["_law_error"] F__law_error_name :=
  fnGH_of (N := ["_law_error", "_law_marks", "_law_names"]) (body := B__law_error_name) fk.ex sc__law_error_name sys fun cdv hcd A outer s H p C A0 hr gx hx => (gs_cons (gs_set 1 sc__law_error_name.nd (gcallH [true] hf__law_error_marks hr gx hx (gcons (gv 0) gnil))) (gs_cons (gs_if (PW.pt (gor (gtcmp (op_neU (huh64 hr)) neD_ok (g_count (huh65 hr) (gv 1) gbl) gint (nomark _)) (gor1 (gnot (gtv (gisxB hx 0 z_ValueError (by decide +kernel) ok_ValueError z_isinstance)))))) (gs_one (gs_ret gstr)) gs_nil) (gs_cons (gs_set 2 sc__law_error_name.nd (glst (gcons gstr (gcons gstr (gcons gstr (gcons gstr (gcons gstr (gcons gstr (gcons gstr (gcons gstr gnil)))))))))) (gs_one (gs_ret (gix (huh1 hr) (gadd (gv 2) (glst (gcons gstr (gcons gstr (gcons gstr (gcons gstr (gcons gstr gnil))))))) (g_indexL (huh65 hr) (gv 1) gbl)))))))
theorem b__law_error_name (fk : FnK K mg .none "_law_error_name" s__law_error_name ["_law_error"] f_ fd_) : Binds K fd_ ["_law_error"] [] := fk.binds fun _ _ _ _ _ _ us hl => match us, hl with | [_], _ => rfl
theorem b__law_said (fk : FnK K mg .none "_law_said" s__law_said ["_law_call"] f_ fd_) : Binds K fd_ ["_law_call"] [] := fk.binds fun _ _ _ _ _ _ us hl => match us, hl with | [_], _ => rfl
set_option maxHeartbeats 4000000 in
theorem sd__law_said (fk : FnK K mg .none "_law_said" s__law_said ["_law_call"] f_ fd_) (sys : SysOk base) (z_str : mg "str" = none) (hf__law_error_name : CalledH P w K mg base Γ 2 "_law_error_name" ["_law_error"] F__law_error_name) {CG : Addr} (z_repr : mg "repr" = none) (ig_ : mg "GridsymError" = some (.ref CG)) (hexm : ∀ q ∈ Γ.es, PySem.W.exmOne K (.ref q.2) (.ref CG) = some true) : SaidDef P w K mg base Γ 3 "_law_said" H__law_said :=
  said_of fk (b__law_said fk) sc__law_said rfl (.inl rfl) rfl rfl rfl ig_ z_repr hexm fun cdv A outer s H a C oe pn hr gx hx => (gs_cons (gs_set 2 sc__law_said.nd (gcallH [true] hf__law_error_name hr gx hx (gcons (gv 1) gnil))) (gs_one (gs_ret (gadd (gadd gstr (gv 2)) (gif (gtcmp (op_eqU (huh64 hr)) eqD_ok (gv 2) gstr (nomark _)) (gadd (gadd (gadd gstr (g_str z_str (gcons gbad gnil))) gstr) (g_str z_str (gcons gbad gnil))) gstr)))))
set_option maxHeartbeats 4000000 in
theorem g_natural_in (fk : FnK K mg .none "natural_in" s_natural_in ["word"] f_ fd_) (sys : SysOk base) (z_all : mg "all" = none) (z_int : mg "int" = none) (k_DIGITS : ConK K mg "DIGITS" c_DIGITS) : FnG P w K mg base Γ 1 f_ fd_ ["word"] F_natural_in :=
  fnG_of (N := ["word", "sign"]) (body := B_natural_in) fk.ex sc_natural_in sys fun cdv hcd A outer s H E A0 hr gx tk => (gs_cons (gs_if (PW.pt (gor (gtcmp (op_eqU (hu64 hr)) eqD_ok (gv 0) gstr (nomark _)) (gor (gnot (gtv (g_all rfl z_all (gcons (glc [1] rfl rfl sc_natural_in.nd (gi_str (gv 0)) (blkOk_by (own := [("sign", 1)]) (by kernel_rfl)) (fun s_ H_ C_ cl_ fp_ => (gg_name 1 sc_natural_in.nd)) (fun s_ H_ C_ cl_ fp_ => gts_nil) (fun s_ H_ C_ cl_ fp_ => (g_inSg (gv 1) (gcon k_DIGITS)))) gnil)))) (gor1 (PW.pt (gand (gtcmp (op_eqU (hu64 hr)) eqD_ok (gix (hu1 hr) (gv 0) gint) gstr (nomark _)) (gand1 (gtcmp (op_neU (hu64 hr)) neD_ok (gv 0) gstr (nomark _))))))))) (gs_one (gs_ret gnon)) gs_nil) (gs_one (gs_ret (g_intT z_int (gcons (gv 0) gnil)))))
theorem b_natural_in (fk : FnK K mg .none "natural_in" s_natural_in ["word"] f_ fd_) : Binds K fd_ ["word"] [] := fk.binds fun _ _ _ _ _ _ us hl => match us, hl with | [_], _ => rfl
set_option maxHeartbeats 4000000 in
theorem g_integer_in (fk : FnK K mg .none "integer_in" s_integer_in ["word"] f_ fd_) (sys : SysOk base) (k_MINUS : ConK K mg "MINUS" c_MINUS) (f_natural_in : CalledG P w K mg base Γ 1 "natural_in" ["word"] F_natural_in []) : FnG P w K mg base Γ 2 f_ fd_ ["word"] F_integer_in :=
  fnG_of (N := ["word", "found"]) (body := B_integer_in) fk.ex sc_integer_in sys fun cdv hcd A outer s H E A0 hr gx tk => (gs_cons (gs_if (gtcmp (op_neU (hu64 hr)) neD_ok (gslice (gv 0) gpn (gps gint)) (gcon k_MINUS) (nomark _)) (gs_one (gs_ret (gcallC [false] f_natural_in hr gx tk (gcons (gv 0) gnil)))) gs_nil) (gs_cons (gs_set 1 sc_integer_in.nd (gcallC [false] f_natural_in hr gx tk (gcons (gslice (gv 0) (gps gint) gpn) gnil))) (gs_one (gs_ret (gif (PW.pt (gor (gtcmp (op_isN.or op_is_bl) isD_ok (gv 1) gnon (nomark _)) (gor1 (gtcmp (op_eqU (hu64 hr)) eqD_ok (gv 1) gint (nomark _))))) gnon (gsub gint (gv 1)))))))
theorem b_integer_in (fk : FnK K mg .none "integer_in" s_integer_in ["word"] f_ fd_) : Binds K fd_ ["word"] [] := fk.binds fun _ _ _ _ _ _ us hl => match us, hl with | [_], _ => rfl
set_option maxHeartbeats 4000000 in
theorem g_square_in (fk : FnK K mg .none "square_in" s_square_in ["word"] f_ fd_) (sys : SysOk base) (z_len : mg "len" = none) (z_tuple : mg "tuple" = none) (k_COMMA : ConK K mg "COMMA" c_COMMA) (f_integer_in : CalledG P w K mg base Γ 2 "integer_in" ["word"] F_integer_in []) : FnG P w K mg base Γ 3 f_ fd_ ["word"] F_square_in :=
  fnG_of (N := ["word", "found", "part"]) (body := B_square_in) fk.ex sc_square_in sys fun cdv hcd A outer s H E A0 hr gx tk => (gs_cons (gs_set 1 sc_square_in.nd (g_tuple z_tuple (gcons (glc [2] rfl rfl sc_square_in.nd (gi_any (g_split (gv 0) (gcon k_COMMA))) (blkOk_by (own := [("part", 2)]) (by kernel_rfl)) (fun s_ H_ C_ cl_ fp_ => (gg_name 2 sc_square_in.nd)) (fun s_ H_ C_ cl_ fp_ => gts_nil) (fun s_ H_ C_ cl_ fp_ => have gx := gx_blk s_ H_ _ _ fp_ gx; have tk := takes_gx gx; (gcallC [false] f_integer_in hr gx tk (gcons (gv 2) gnil)))) gnil))) (gs_one (gs_ret (gif (PW.pt (gand (gtcmp (op_eqU (hu64 hr)) eqD_ok (g_len z_len (gcons (gv 1) gnil)) gint (nomark _)) (gand1 (gtcmp (op_notInX (hu65 hr)) ninG_ok gnon (gv 1) (by with_unfolding_all rfl))))) (gv 1) gnon))))
theorem b_square_in (fk : FnK K mg .none "square_in" s_square_in ["word"] f_ fd_) : Binds K fd_ ["word"] [] := fk.binds fun _ _ _ _ _ _ us hl => match us, hl with | [_], _ => rfl
set_option maxHeartbeats 4000000 in
theorem g_is_integer (fk : FnK K mg .none "is_integer" s_is_integer ["thing"] f_ fd_) (sys : SysOk base) (z_bool : mg "bool" = none) (z_int : mg "int" = none) (z_isinstance : mg "isinstance" = none) : FnG P w K mg base Γ 1 f_ fd_ ["thing"] F_is_integer :=
  fnG_of (N := ["thing"]) (body := B_is_integer) fk.ex sc_is_integer sys fun cdv hcd A outer s H E A0 hr gx tk => (gs_one (gs_ret (gandV (g_isi kit_int z_isinstance z_int (by decide +kernel) (gv 0)) (gone (gnotV (g_isi kit_bool z_isinstance z_bool (by decide +kernel) (gv 0)))))))
theorem b_is_integer (fk : FnK K mg .none "is_integer" s_is_integer ["thing"] f_ fd_) : Binds K fd_ ["thing"] [] := fk.binds fun _ _ _ _ _ _ us hl => match us, hl with | [_], _ => rfl
set_option maxHeartbeats 4000000 in
theorem g_is_between (fk : FnK K mg .none "is_between" s_is_between ["thing", "least", "most"] f_ fd_) (sys : SysOk base) (f_is_integer : CalledG P w K mg base Γ 1 "is_integer" ["thing"] F_is_integer []) : FnG P w K mg base Γ 2 f_ fd_ ["thing", "least", "most"] F_is_between :=
  fnG_of (N := ["thing", "least", "most"]) (body := B_is_between) fk.ex sc_is_between sys fun cdv hcd A outer s H E A0 hr gx tk => (gs_one (gs_ret (gandV (gcallC [false] f_is_integer hr gx tk (gcons (gv 0) gnil)) (gone (gchain op_le op_le cmpI_ok cmpI_ok (gv 1) (gv 0) (gv 2))))))
theorem b_is_between (fk : FnK K mg .none "is_between" s_is_between ["thing", "least", "most"] f_ fd_) : Binds K fd_ ["thing", "least", "most"] [] := fk.binds fun _ _ _ _ _ _ us hl => match us, hl with | [_, _, _], _ => rfl
set_option maxHeartbeats 4000000 in
theorem g_is_symmetry (fk : FnK K mg .none "is_symmetry" s_is_symmetry ["thing"] f_ fd_) (sys : SysOk base) (z_all : mg "all" = none) (z_isinstance : mg "isinstance" = none) (z_len : mg "len" = none) (z_tuple : mg "tuple" = none) (k_KINDS : ConK K mg "KINDS" c_KINDS) (f_is_between : CalledG P w K mg base Γ 2 "is_between" ["thing", "least", "most"] F_is_between []) (f_is_integer : CalledG P w K mg base Γ 1 "is_integer" ["thing"] F_is_integer []) : FnG P w K mg base Γ 3 f_ fd_ ["thing"] F_is_symmetry :=
  fnG_of (N := ["thing", "one"]) (body := B_is_symmetry) fk.ex sc_is_symmetry sys fun cdv hcd A outer s H E A0 hr gx tk => (gs_cons (gs_if (PW.pt (gor (gnot (gtv (g_isi kit_tuple z_isinstance z_tuple (by decide +kernel) (gv 0)))) (gor (gtcmp (op_neU (hu64 hr)) neD_ok (g_len z_len (gcons (gv 0) gnil)) gint (nomark _)) (gor1 (gnot (gtv (g_all rfl z_all (gcons (glc [1] rfl rfl sc_is_symmetry.nd (gi_any (gv 0)) (blkOk_by (own := [("one", 1)]) (by kernel_rfl)) (fun s_ H_ C_ cl_ fp_ => (gg_name 1 sc_is_symmetry.nd)) (fun s_ H_ C_ cl_ fp_ => gts_nil) (fun s_ H_ C_ cl_ fp_ => have gx := gx_blk s_ H_ _ _ fp_ gx; have tk := takes_gx gx; (gcallC [false] f_is_integer hr gx tk (gcons (gv 1) gnil)))) gnil)))))))) (gs_one (gs_ret gbl)) gs_nil) (gs_one (gs_ret (gcallC [false, false, false] f_is_between hr gx tk (gcons (gix (hu1 hr) (gv 0) gint) (gcons gint (gcons (gsub (gcon k_KINDS) gint) gnil)))))))
theorem b_is_symmetry (fk : FnK K mg .none "is_symmetry" s_is_symmetry ["thing"] f_ fd_) : Binds K fd_ ["thing"] [] := fk.binds fun _ _ _ _ _ _ us hl => match us, hl with | [_], _ => rfl
set_option maxHeartbeats 4000000 in
theorem g_symmetry_in (fk : FnK K mg .none "symmetry_in" s_symmetry_in ["word"] f_ fd_) (sys : SysOk base) (z_len : mg "len" = none) (k_COLON : ConK K mg "COLON" c_COLON) (f_is_symmetry : CalledG P w K mg base Γ 3 "is_symmetry" ["thing"] F_is_symmetry []) (f_natural_in : CalledG P w K mg base Γ 1 "natural_in" ["word"] F_natural_in []) (f_square_in : CalledG P w K mg base Γ 3 "square_in" ["word"] F_square_in []) : FnG P w K mg base Γ 4 f_ fd_ ["word"] F_symmetry_in :=
  fnG_of (N := ["word", "parts", "kind", "square"]) (body := B_symmetry_in) fk.ex sc_symmetry_in sys fun cdv hcd A outer s H E A0 hr gx tk => (gs_cons (gs_set 1 sc_symmetry_in.nd (g_split (gv 0) (gcon k_COLON))) (gs_cons (gs_if (gtcmp (op_neU (hu64 hr)) neD_ok (g_len z_len (gcons (gv 1) gnil)) gint (nomark _)) (gs_one (gs_ret gnon)) gs_nil) (gs_cons (gs_par 2 3 rfl sc_symmetry_in.nd (gcallC [false] f_natural_in hr gx tk (gcons (gix (hu1 hr) (gv 1) gint) gnil)) (gcallC [false] f_square_in hr gx tk (gcons (gix (hu1 hr) (gv 1) gint) gnil))) (gs_cons (gs_if (PW.pt (gor (gtcmp (op_isN.or op_is_bl) isD_ok (gv 2) gnon (nomark _)) (gor1 (gtcmp (op_isN.or op_is_bl) isD_ok (gv 3) gnon (nomark _))))) (gs_one (gs_ret gnon)) gs_nil) (gs_one (gs_ret (gif (gtv (gcallC [false] f_is_symmetry hr gx tk (gcons (gadd (gtup (gcons (gv 2) gnil)) (gv 3)) gnil))) (gadd (gtup (gcons (gv 2) gnil)) (gv 3)) gnon)))))))
theorem b_symmetry_in (fk : FnK K mg .none "symmetry_in" s_symmetry_in ["word"] f_ fd_) : Binds K fd_ ["word"] [] := fk.binds fun _ _ _ _ _ _ us hl => match us, hl with | [_], _ => rfl
set_option maxHeartbeats 4000000 in
theorem g_parse_symmetry (fk : FnK K mg .none "parse_symmetry" s_parse_symmetry ["text"] f_ fd_) (sys : SysOk base) (z_isinstance : mg "isinstance" = none) (z_str : mg "str" = none) {C_ParseError : Addr} (x_ParseError : ExcK K mg "ParseError" C_ParseError "ValueError.__new__" [.type "ValueError", .type "Exception", .type "BaseException", .type "object"]) (f_symmetry_in : CalledG P w K mg base Γ 4 "symmetry_in" ["word"] F_symmetry_in []) : FnG P w K mg base Γ 5 f_ fd_ ["text"] F_parse_symmetry :=
  fnG_of (N := ["text", "found"]) (body := B_parse_symmetry) fk.ex sc_parse_symmetry sys fun cdv hcd A outer s H E A0 hr gx tk => (gs_cons (gs_set 1 sc_parse_symmetry.nd (gif (gtv (g_isi kit_str z_isinstance z_str (by decide +kernel) (gv 0))) (gcallC [false] f_symmetry_in hr gx tk (gcons (gv 0) gnil)) gnon)) (gs_cons (gs_if (gtcmp (op_isN.or op_is_bl) isD_ok (gv 1) gnon (nomark _)) (gs_one (gs_raise PySem.F.excBase_ValueError x_ParseError rfl tk)) gs_nil) (gs_one (gs_ret (gv 1)))))
theorem b_parse_symmetry (fk : FnK K mg .none "parse_symmetry" s_parse_symmetry ["text"] f_ fd_) : Binds K fd_ ["text"] [] := fk.binds fun _ _ _ _ _ _ us hl => match us, hl with | [_], _ => rfl
set_option maxHeartbeats 4000000 in
theorem g_is_generators (fk : FnK K mg .none "is_generators" s_is_generators ["thing"] f_ fd_) (sys : SysOk base) (z_all : mg "all" = none) (z_isinstance : mg "isinstance" = none) (z_len : mg "len" = none) (z_tuple : mg "tuple" = none) (k_MOST_GENERATORS : ConK K mg "MOST_GENERATORS" c_MOST_GENERATORS) (f_is_symmetry : CalledG P w K mg base Γ 3 "is_symmetry" ["thing"] F_is_symmetry []) : FnG P w K mg base Γ 4 f_ fd_ ["thing"] F_is_generators :=
  fnG_of (N := ["thing", "one"]) (body := B_is_generators) fk.ex sc_is_generators sys fun cdv hcd A outer s H E A0 hr gx tk => (gs_one (gs_ret (gandV (g_isi kit_tuple z_isinstance z_tuple (by decide +kernel) (gv 0)) (gandV (gle (g_len z_len (gcons (gv 0) gnil)) (gcon k_MOST_GENERATORS)) (gone (g_all rfl z_all (gcons (glc [1] rfl rfl sc_is_generators.nd (gi_any (gv 0)) (blkOk_by (own := [("one", 1)]) (by kernel_rfl)) (fun s_ H_ C_ cl_ fp_ => (gg_name 1 sc_is_generators.nd)) (fun s_ H_ C_ cl_ fp_ => gts_nil) (fun s_ H_ C_ cl_ fp_ => have gx := gx_blk s_ H_ _ _ fp_ gx; have tk := takes_gx gx; (gcallC [false] f_is_symmetry hr gx tk (gcons (gv 1) gnil)))) gnil)))))))
theorem b_is_generators (fk : FnK K mg .none "is_generators" s_is_generators ["thing"] f_ fd_) : Binds K fd_ ["thing"] [] := fk.binds fun _ _ _ _ _ _ us hl => match us, hl with | [_], _ => rfl
set_option maxHeartbeats 4000000 in
theorem g_generators_in (fk : FnK K mg .none "generators_in" s_generators_in ["text"] f_ fd_) (sys : SysOk base) (z_tuple : mg "tuple" = none) (k_NONE : ConK K mg "NONE" c_NONE) (f_is_generators : CalledG P w K mg base Γ 4 "is_generators" ["thing"] F_is_generators []) (f_symmetry_in : CalledG P w K mg base Γ 4 "symmetry_in" ["word"] F_symmetry_in []) : FnG P w K mg base Γ 5 f_ fd_ ["text"] F_generators_in :=
  fnG_of (N := ["text", "found", "word"]) (body := B_generators_in) fk.ex sc_generators_in sys fun cdv hcd A outer s H E A0 hr gx tk => (gs_cons (gs_if (gtcmp (op_eqU (hu64 hr)) eqD_ok (gv 0) (gcon k_NONE) (nomark _)) (gs_one (gs_ret (gtup gnil))) gs_nil) (gs_cons (gs_set 1 sc_generators_in.nd (g_tuple z_tuple (gcons (glc [2] rfl rfl sc_generators_in.nd (gi_any (g_split (gv 0) gstr)) (blkOk_by (own := [("word", 2)]) (by kernel_rfl)) (fun s_ H_ C_ cl_ fp_ => (gg_name 2 sc_generators_in.nd)) (fun s_ H_ C_ cl_ fp_ => gts_nil) (fun s_ H_ C_ cl_ fp_ => have gx := gx_blk s_ H_ _ _ fp_ gx; have tk := takes_gx gx; (gcallC [false] f_symmetry_in hr gx tk (gcons (gv 2) gnil)))) gnil))) (gs_one (gs_ret (gif (gtv (gcallC [false] f_is_generators hr gx tk (gcons (gv 1) gnil))) (gv 1) gnon)))))
theorem b_generators_in (fk : FnK K mg .none "generators_in" s_generators_in ["text"] f_ fd_) : Binds K fd_ ["text"] [] := fk.binds fun _ _ _ _ _ _ us hl => match us, hl with | [_], _ => rfl
set_option maxHeartbeats 4000000 in
theorem g_parse_generators (fk : FnK K mg .none "parse_generators" s_parse_generators ["text"] f_ fd_) (sys : SysOk base) (z_isinstance : mg "isinstance" = none) (z_str : mg "str" = none) {C_ParseError : Addr} (x_ParseError : ExcK K mg "ParseError" C_ParseError "ValueError.__new__" [.type "ValueError", .type "Exception", .type "BaseException", .type "object"]) (f_generators_in : CalledG P w K mg base Γ 5 "generators_in" ["text"] F_generators_in []) : FnG P w K mg base Γ 6 f_ fd_ ["text"] F_parse_generators :=
  fnG_of (N := ["text", "found"]) (body := B_parse_generators) fk.ex sc_parse_generators sys fun cdv hcd A outer s H E A0 hr gx tk => (gs_cons (gs_set 1 sc_parse_generators.nd (gif (gtv (g_isi kit_str z_isinstance z_str (by decide +kernel) (gv 0))) (gcallC [false] f_generators_in hr gx tk (gcons (gv 0) gnil)) gnon)) (gs_cons (gs_if (gtcmp (op_isN.or op_is_bl) isD_ok (gv 1) gnon (nomark _)) (gs_one (gs_raise PySem.F.excBase_ValueError x_ParseError rfl tk)) gs_nil) (gs_one (gs_ret (gv 1)))))
theorem b_parse_generators (fk : FnK K mg .none "parse_generators" s_parse_generators ["text"] f_ fd_) : Binds K fd_ ["text"] [] := fk.binds fun _ _ _ _ _ _ us hl => match us, hl with | [_], _ => rfl
set_option maxHeartbeats 4000000 in
theorem g_need_generators (fk : FnK K mg .none "need_generators" s_need_generators ["thing"] f_ fd_) (sys : SysOk base) {C_GeneratorsError : Addr} (x_GeneratorsError : ExcK K mg "GeneratorsError" C_GeneratorsError "ValueError.__new__" [.type "ValueError", .type "Exception", .type "BaseException", .type "object"]) (f_is_generators : CalledG P w K mg base Γ 4 "is_generators" ["thing"] F_is_generators []) : FnG P w K mg base Γ 5 f_ fd_ ["thing"] F_need_generators :=
  fnG_of (N := ["thing"]) (body := B_need_generators) fk.ex sc_need_generators sys fun cdv hcd A outer s H E A0 hr gx tk => (gs_one (gs_if (gnot (gtv (gcallC [false] f_is_generators hr gx tk (gcons (gv 0) gnil)))) (gs_one (gs_raise PySem.F.excBase_ValueError x_GeneratorsError rfl tk)) gs_nil))
theorem b_need_generators (fk : FnK K mg .none "need_generators" s_need_generators ["thing"] f_ fd_) : Binds K fd_ ["thing"] [] := fk.binds fun _ _ _ _ _ _ us hl => match us, hl with | [_], _ => rfl
set_option maxHeartbeats 4000000 in
theorem g_square_text (fk : FnK K mg .none "square_text" s_square_text ["square"] f_ fd_) (sys : SysOk base) (k_COMMA : ConK K mg "COMMA" c_COMMA) : FnG P w K mg base Γ 1 f_ fd_ ["square"] F_square_text :=
  fnG_of (N := ["square"]) (body := B_square_text) fk.ex sc_square_text sys fun cdv hcd A outer s H E A0 hr gx tk => (gs_one (gs_ret (g_fs (.cons (gix (hu1 hr) (gv 0) gint) (.cons (gcon k_COMMA) (.cons (gix (hu1 hr) (gv 0) gint) .nil))))))
theorem b_square_text (fk : FnK K mg .none "square_text" s_square_text ["square"] f_ fd_) : Binds K fd_ ["square"] [] := fk.binds fun _ _ _ _ _ _ us hl => match us, hl with | [_], _ => rfl
set_option maxHeartbeats 4000000 in
theorem g_symmetry_text (fk : FnK K mg .none "symmetry_text" s_symmetry_text ["symmetry"] f_ fd_) (sys : SysOk base) (k_COLON : ConK K mg "COLON" c_COLON) (f_square_text : CalledG P w K mg base Γ 1 "square_text" ["square"] F_square_text []) : FnG P w K mg base Γ 2 f_ fd_ ["symmetry"] F_symmetry_text :=
  fnG_of (N := ["symmetry"]) (body := B_symmetry_text) fk.ex sc_symmetry_text sys fun cdv hcd A outer s H E A0 hr gx tk => (gs_one (gs_ret (g_fs (.cons (gix (hu1 hr) (gv 0) gint) (.cons (gcon k_COLON) (.cons (gcallC [false] f_square_text hr gx tk (gcons (gslice (gv 0) (gps gint) gpn) gnil)) .nil))))))
theorem b_symmetry_text (fk : FnK K mg .none "symmetry_text" s_symmetry_text ["symmetry"] f_ fd_) : Binds K fd_ ["symmetry"] [] := fk.binds fun _ _ _ _ _ _ us hl => match us, hl with | [_], _ => rfl
set_option maxHeartbeats 4000000 in
theorem g_symmetries_text (fk : FnK K mg .none "symmetries_text" s_symmetries_text ["symmetries"] f_ fd_) (sys : SysOk base) (k_NONE : ConK K mg "NONE" c_NONE) (f_symmetry_text : CalledG P w K mg base Γ 2 "symmetry_text" ["symmetry"] F_symmetry_text []) : FnG P w K mg base Γ 3 f_ fd_ ["symmetries"] F_symmetries_text :=
  fnG_of (N := ["symmetries", "one"]) (body := B_symmetries_text) fk.ex sc_symmetries_text sys fun cdv hcd A outer s H E A0 hr gx tk => (gs_one (gs_ret (gif (gtcmp (op_neU (hu64 hr)) neD_ok (gv 0) (gtup gnil) (nomark _)) (g_join gstr (glc [1] rfl rfl sc_symmetries_text.nd (gi_any (gv 0)) (blkOk_by (own := [("one", 1)]) (by kernel_rfl)) (fun s_ H_ C_ cl_ fp_ => (gg_name 1 sc_symmetries_text.nd)) (fun s_ H_ C_ cl_ fp_ => gts_nil) (fun s_ H_ C_ cl_ fp_ => have gx := gx_blk s_ H_ _ _ fp_ gx; have tk := takes_gx gx; (gcallC [false] f_symmetry_text hr gx tk (gcons (gv 1) gnil))))) (gcon k_NONE))))
theorem b_symmetries_text (fk : FnK K mg .none "symmetries_text" s_symmetries_text ["symmetries"] f_ fd_) : Binds K fd_ ["symmetries"] [] := fk.binds fun _ _ _ _ _ _ us hl => match us, hl with | [_], _ => rfl
set_option maxHeartbeats 4000000 in
theorem g_format_generators (fk : FnK K mg .none "format_generators" s_format_generators ["generators"] f_ fd_) (sys : SysOk base) (f_need_generators : CalledG P w K mg base Γ 5 "need_generators" ["thing"] F_need_generators []) (f_symmetries_text : CalledG P w K mg base Γ 3 "symmetries_text" ["symmetries"] F_symmetries_text []) : FnG P w K mg base Γ 6 f_ fd_ ["generators"] F_format_generators :=
  fnG_of (N := ["generators"]) (body := B_format_generators) fk.ex sc_format_generators sys fun cdv hcd A outer s H E A0 hr gx tk => (gs_cons (gs_expr (gcallC [false] f_need_generators hr gx tk (gcons (gv 0) gnil))) (gs_one (gs_ret (gcallC [false] f_symmetries_text hr gx tk (gcons (gv 0) gnil)))))
theorem b_format_generators (fk : FnK K mg .none "format_generators" s_format_generators ["generators"] f_ fd_) : Binds K fd_ ["generators"] [] := fk.binds fun _ _ _ _ _ _ us hl => match us, hl with | [_], _ => rfl
set_option maxHeartbeats 4000000 in
theorem g_need_symmetry (fk : FnK K mg .none "need_symmetry" s_need_symmetry ["thing"] f_ fd_) (sys : SysOk base) {C_SymmetryError : Addr} (x_SymmetryError : ExcK K mg "SymmetryError" C_SymmetryError "ValueError.__new__" [.type "ValueError", .type "Exception", .type "BaseException", .type "object"]) (f_is_symmetry : CalledG P w K mg base Γ 3 "is_symmetry" ["thing"] F_is_symmetry []) : FnG P w K mg base Γ 4 f_ fd_ ["thing"] F_need_symmetry :=
  fnG_of (N := ["thing"]) (body := B_need_symmetry) fk.ex sc_need_symmetry sys fun cdv hcd A outer s H E A0 hr gx tk => (gs_one (gs_if (gnot (gtv (gcallC [false] f_is_symmetry hr gx tk (gcons (gv 0) gnil)))) (gs_one (gs_raise PySem.F.excBase_ValueError x_SymmetryError rfl tk)) gs_nil))
theorem b_need_symmetry (fk : FnK K mg .none "need_symmetry" s_need_symmetry ["thing"] f_ fd_) : Binds K fd_ ["thing"] [] := fk.binds fun _ _ _ _ _ _ us hl => match us, hl with | [_], _ => rfl
set_option maxHeartbeats 4000000 in
theorem g_format_symmetry (fk : FnK K mg .none "format_symmetry" s_format_symmetry ["symmetry"] f_ fd_) (sys : SysOk base) (f_need_symmetry : CalledG P w K mg base Γ 4 "need_symmetry" ["thing"] F_need_symmetry []) (f_symmetry_text : CalledG P w K mg base Γ 2 "symmetry_text" ["symmetry"] F_symmetry_text []) : FnG P w K mg base Γ 5 f_ fd_ ["symmetry"] F_format_symmetry :=
  fnG_of (N := ["symmetry"]) (body := B_format_symmetry) fk.ex sc_format_symmetry sys fun cdv hcd A outer s H E A0 hr gx tk => (gs_cons (gs_expr (gcallC [false] f_need_symmetry hr gx tk (gcons (gv 0) gnil))) (gs_one (gs_ret (gcallC [false] f_symmetry_text hr gx tk (gcons (gv 0) gnil)))))
theorem b_format_symmetry (fk : FnK K mg .none "format_symmetry" s_format_symmetry ["symmetry"] f_ fd_) : Binds K fd_ ["symmetry"] [] := fk.binds fun _ _ _ _ _ _ us hl => match us, hl with | [_], _ => rfl
set_option maxHeartbeats 4000000 in
theorem g__law_texts_are_right (fk : FnK K mg .none "_law_texts_are_right" s__law_texts_are_right ["_law_far"] f_ fd_) (sys : SysOk base) (z_str : mg "str" = none) (f_format_generators : CalledG P w K mg base Γ 6 "format_generators" ["generators"] F_format_generators []) (f_format_symmetry : CalledG P w K mg base Γ 5 "format_symmetry" ["symmetry"] F_format_symmetry []) (f_parse_generators : CalledG P w K mg base Γ 6 "parse_generators" ["text"] F_parse_generators []) (kf_format_generators : CalledK P w K mg base Γ 6 "format_generators" ["generators"] F_format_generators) (kf_format_symmetry : CalledK P w K mg base Γ 5 "format_symmetry" ["symmetry"] F_format_symmetry) (kf_parse_generators : CalledK P w K mg base Γ 6 "parse_generators" ["text"] F_parse_generators) (kf_parse_symmetry : CalledK P w K mg base Γ 5 "parse_symmetry" ["text"] F_parse_symmetry) : FnG P w K mg base Γ 7 f_ fd_ ["_law_far"] F__law_texts_are_right :=
  fnG_of (N := ["_law_far", "_law_rows"]) (body := B__law_texts_are_right) fk.ex sc__law_texts_are_right sys fun cdv hcd A outer s H E A0 hr gx tk => (gs_cons (gs_if (PW.pt (gor (gtcmp (op_neU (hu64 hr)) neD_ok (gcallK [false] kf_format_symmetry hr gx tk (gkcons (gtup (gcons gint (gcons (gv 0) (gcons (gnegD gint) gnil)))) gknil)) (gadd (gadd gstr (g_str z_str (gcons (gv 0) gnil))) gstr) (nomark _)) (gor1 (gtcmp (op_neU (hu64 hr)) neD_ok (gcallC [false] f_format_symmetry hr gx tk (gcons (gtup (gcons gint (gcons gint (gcons gint gnil)))) gnil)) gstr (nomark _))))) (gs_one (gs_ret gbl)) gs_nil) (gs_cons (gs_if (gtcmp (op_neU (hu64 hr)) neD_ok (gcallK [false] kf_parse_symmetry hr gx tk (gkcons (gadd (gadd gstr (g_str z_str (gcons (gadd (gv 0) gint) gnil))) gstr) gknil)) (gtup (gcons gint (gcons (gsub (gsub gint (gv 0)) gint) (gcons gint gnil)))) (nomark _)) (gs_one (gs_ret gbl)) gs_nil) (gs_cons (gs_if (PW.pt (gor (gtcmp (op_neU (hu64 hr)) neD_ok (gcallK [false] kf_format_generators hr gx tk (gkcons (gtup gnil) gknil)) gstr (nomark _)) (gor1 (gtcmp (op_neU (hu64 hr)) neD_ok (gcallC [false] f_parse_generators hr gx tk (gcons gstr gnil)) (gtup gnil) (nomark _))))) (gs_one (gs_ret gbl)) gs_nil) (gs_cons (gs_set 1 sc__law_texts_are_right.nd (gtup (gcons (gtup (gcons gint (gcons gint (gcons gint gnil)))) (gcons (gtup (gcons gint (gcons (gv 0) (gcons gint gnil)))) (gcons (gtup (gcons gint (gcons (gnegD gint) (gcons gint gnil)))) gnil))))) (gs_cons (gs_if (gtcmp (op_neU (hu64 hr)) neD_ok (gcallK [false] kf_parse_generators hr gx tk (gkcons gstr gknil)) (gtup (gcons (gtup (gcons gint (gcons gint (gcons gint gnil)))) gnil)) (nomark _)) (gs_one (gs_ret gbl)) gs_nil) (gs_one (gs_ret (geq (hu64 hr) (gcallC [false] f_format_generators hr gx tk (gcons (gv 1) gnil)) (gadd (gadd gstr (g_str z_str (gcons (gv 0) gnil))) gstr)))))))))
theorem b__law_texts_are_right (fk : FnK K mg .none "_law_texts_are_right" s__law_texts_are_right ["_law_far"] f_ fd_) : Binds K fd_ ["_law_far"] [] := fk.binds fun _ _ _ _ _ _ us hl => match us, hl with | [_], _ => rfl
set_option maxHeartbeats 4000000 in
theorem g__law_cell (fk : FnK K mg .none "_law_cell" s__law_cell ["_law_script", "_law_index"] f_ fd_) (sys : SysOk base) (z_len : mg "len" = none) : FnG P w K mg base Γ 1 f_ fd_ ["_law_script", "_law_index"] F__law_cell :=
  fnG_of (N := ["_law_script", "_law_index"]) (body := B__law_cell) fk.ex sc__law_cell sys fun cdv hcd A outer s H E A0 hr gx tk => (gs_cons (gs_if (gtcmp op_lt cmpI_ok (gv 1) (g_len z_len (gcons (gv 0) gnil)) (nomark _)) (gs_one (gs_ret (gix (hu1 hr) (gv 0) (gv 1)))) gs_nil) (gs_one (gs_ret gint)))
theorem b__law_cell (fk : FnK K mg .none "_law_cell" s__law_cell ["_law_script", "_law_index"] f_ fd_) : Binds K fd_ ["_law_script", "_law_index"] [] := fk.binds fun _ _ _ _ _ _ us hl => match us, hl with | [_, _], _ => rfl
set_option maxHeartbeats 4000000 in
theorem g_law (fk : FnK K mg .none "law" s_law ["_law_script"] f_ fd_) (sys : SysOk base) (z_all : mg "all" = none) (z_len : mg "len" = none) (z_max : mg "max" = none) (z_min : mg "min" = none) (z_range : mg "range" = none) (z_repr : mg "repr" = none) (mk_ : Maker K mg base Γ f_ (("law" : Str) ++ ".<locals>." ++ "<lambda>")) (sd_ : SaidDef P w K mg base Γ 3 "_law_said" H__law_said) (es_ : ∀ n ∈ said_ns, ∀ C, mg n = some (.ref C) → (n, C) ∈ Γ.es) (f__law_cell : CalledG P w K mg base Γ 1 "_law_cell" ["_law_script", "_law_index"] F__law_cell []) (f__law_texts_are_right : CalledG P w K mg base Γ 7 "_law_texts_are_right" ["_law_far"] F__law_texts_are_right []) (f_format_generators : CalledG P w K mg base Γ 6 "format_generators" ["generators"] F_format_generators []) (f_format_symmetry : CalledG P w K mg base Γ 5 "format_symmetry" ["symmetry"] F_format_symmetry []) (f_parse_generators : CalledG P w K mg base Γ 6 "parse_generators" ["text"] F_parse_generators []) (f_parse_symmetry : CalledG P w K mg base Γ 5 "parse_symmetry" ["text"] F_parse_symmetry []) : FnG P w K mg base Γ 9 f_ fd_ ["_law_script"] F_law_k87 :=
  fnG_of (N := ["_law_script", "_law_value", "_law_kept", "_law_values", "_law_k"]) (body := B_law_k87) fk.ex sc_law sys fun cdv hcd A outer s H E A0 hr gx tk => (gs_cons (gs_for (tv := [1]) (passes_of rfl) rfl (gi_any (glst (gcons gnon (gcons (gtup gnil) (gcons gint (gcons gstr (gcons (glst (gcons gint (gcons gint (gcons gint gnil)))) (gcons (gtup (gcons gint (gcons gint (gcons gint gnil)))) (gcons (gtup (gcons gint (gcons gint gnil))) (gcons (gtup (gcons gbl (gcons gint (gcons gint gnil)))) (gcons (gtup (gcons gint (gcons gint (gcons gint (gcons gint gnil))))) (gcons (gtup (gcons (gtup (gcons gint (gcons gint (gcons gint gnil)))) gnil)) (gcons gdic0 gnil))))))))))))) (gg_name 1 sc_law.nd) (gs_cons (gs_set 2 sc_law.nd (g_repr gx z_repr (gcons (gv 1) gnil))) (gs_one (gs_if (PW.pt (gor (gtcmp (op_neU (hu64 hr)) neD_ok (g_said said_ns (sd_.mono (by decide)) mk_ hcd hr gx es_ fun A_ o_ s_ H_ E_ f_ c_ hr gx tk => (gcallC [false] f_format_symmetry hr gx tk (gcons (gv 1) gnil))) gstr (nomark _)) (gor1 (gtcmp (op_neU (hu64 hr)) neD_ok (g_repr gx z_repr (gcons (gv 1) gnil)) (gv 2) (nomark _))))) (gs_one (gs_ret gbl)) gs_nil)))) (gs_cons (gs_set 3 sc_law.nd (glst (gcons gnon (gcons gint (gcons gstr (gcons (glst gnil) (gcons (gtup (gcons gint (gcons gint (gcons gint gnil)))) (gcons (gtup (gcons (gtup (gcons gint (gcons gint gnil))) gnil)) (gcons (gmulT (gtup (gcons (gtup (gcons gint (gcons gint (gcons gint gnil)))) gnil)) gint) (gcons (gtup (gcons (gtup (gcons gint (gcons gint (gcons gint gnil)))) (gcons gnon gnil))) (gcons (glst (gcons (gtup (gcons gint (gcons gint (gcons gint gnil)))) gnil)) (gcons gdic0 gnil)))))))))))) (gs_cons (gs_for (tv := [1]) (passes_of rfl) rfl (gi_any (gadd (gv 3) (glst (gcons (gtup (gcons (gtup (gcons gint (gcons gint (gcons gint gnil)))) gnil)) gnil)))) (gg_name 1 sc_law.nd) (gs_cons (gs_set 2 sc_law.nd (g_repr gx z_repr (gcons (gv 1) gnil))) (gs_one (gs_if (PW.pt (gor (gtcmp (op_neU (hu64 hr)) neD_ok (g_said said_ns (sd_.mono (by decide)) mk_ hcd hr gx es_ fun A_ o_ s_ H_ E_ f_ c_ hr gx tk => (gcallC [false] f_format_generators hr gx tk (gcons (gv 1) gnil))) gstr (nomark _)) (gor1 (gtcmp (op_neU (hu64 hr)) neD_ok (g_repr gx z_repr (gcons (gv 1) gnil)) (gv 2) (nomark _))))) (gs_one (gs_ret gbl)) gs_nil)))) (gs_cons (gs_for (tv := [1]) (passes_of rfl) rfl (gi_any (glst (gcons gnon (gcons gstr (gcons gstr (gcons gstr (gcons gstr (gcons gstr (gcons gint (gcons (gtup gnil) gnil)))))))))) (gg_name 1 sc_law.nd) (gs_one (gs_if (gtcmp (op_neU (hu64 hr)) neD_ok (g_said said_ns (sd_.mono (by decide)) mk_ hcd hr gx es_ fun A_ o_ s_ H_ E_ f_ c_ hr gx tk => (gcallC [false] f_parse_symmetry hr gx tk (gcons (gv 1) gnil))) gstr (nomark _)) (gs_one (gs_ret gbl)) gs_nil))) (gs_cons (gs_for (tv := [1]) (passes_of rfl) rfl (gi_any (glst (gcons gnon (gcons gstr (gcons gstr (gcons gstr (gcons gstr (gcons gstr (gcons gint (gcons (gtup gnil) gnil)))))))))) (gg_name 1 sc_law.nd) (gs_one (gs_if (gtcmp (op_neU (hu64 hr)) neD_ok (g_said said_ns (sd_.mono (by decide)) mk_ hcd hr gx es_ fun A_ o_ s_ H_ E_ f_ c_ hr gx tk => (gcallC [false] f_parse_generators hr gx tk (gcons (gv 1) gnil))) gstr (nomark _)) (gs_one (gs_ret gbl)) gs_nil))) (gs_one (gs_ret (g_all rfl z_all (gcons (glc [4] rfl rfl sc_law.nd (gi_range1 z_range (gcons (g_max2 rfl z_max (gcons gint (gcons (g_min2 rfl z_min (gcons (g_len z_len (gcons (gv 0) gnil)) (gcons gint gnil))) gnil))) gnil)) (blkOk_by (own := [("_law_k", 4)]) (by kernel_rfl)) (fun s_ H_ C_ cl_ fp_ => (gg_name 4 sc_law.nd)) (fun s_ H_ C_ cl_ fp_ => gts_nil) (fun s_ H_ C_ cl_ fp_ => have gx := gx_blk s_ H_ _ _ fp_ gx; have tk := takes_gx gx; (gcallC [false] f__law_texts_are_right hr gx tk (gcons (gmod (gcallC [false, false] f__law_cell hr gx tk (gcons (gv 0) (gcons (gv 4) gnil))) gint) gnil)))) gnil)))))))))
end
end L_k87
namespace M
open PySem PySem.Spec PyProof.Rows L2 G
local macro_rules
  | `(tactic| simp? [$ls,*]) => `(tactic| simp (maxSteps := 1000000) (disch := first | assumption | (simp (disch := decide +kernel) only [G.sl_nil, G.sl_cons, List.cons_append, List.nil_append, G.shN_str, G.shN_tup, G.shN_lst, G.shN_int, G.shN_bool, G.shN_none, G.shA_nil, G.shA_cons, G.b_ta, G.ky_i, G.ky_s]; done) | exact G.len_ok (by simp only [G.sl_nil, G.sl_cons]) | decide | decide +kernel | exact G.mulOk_l (by decide) | exact G.mulOk_r (by decide) | omega) only [G.rb_ok, G.rb_ex, G.rb_bad, G.rb_ite, G.lz, G.ls, G.sz, G.ss, G.r_seq, G.k_seq1, G.k_seq2, G.k_seq3, G.k_seq4, G.r_nx, G.r_bk, G.r_ct, G.r_retN, G.r_ret, G.k_ret, G.r_drop, G.k_drop, G.r_if, G.r_ife, G.k_if, G.r_asg, G.k_asg1, G.k_asg2, G.k_asg3, G.k_sl1, G.k_sl2, G.k_sh1, G.k_sh2, G.k_sh3, G.k_sh4, G.k_sh5, G.r_asgG, G.k_asgG, G.k_asgL, G.k_tg, G.r_nm, G.r_tup, G.r_tup1, G.r_tup3, G.r_tup4, G.r_nil, G.r_cons, G.r_V, G.k_V1, G.k_V2, G.k_V4, G.k_V3, G.r_C, G.p_val, G.p_fr, G.p_sl, G.pb_1, G.pb_2, G.pb_3, G.od_1, G.od_2, G.p_1, G.p_2, G.p_3, G.q_1, G.q_2, G.q_3, G.re_1, G.re_2, G.re_ite, G.st_1, G.st_2, G.st_3, G.r_op2, G.k_op2a, G.k_op2b, G.k_op2c, G.r_op1, G.k_op1, G.ob_some, G.r_said, G.k_said1, G.r_opN, G.k_opN, G.r_pk0, G.r_pk1, G.k_pk, G.r_anil, G.r_acons, G.k_acons, G.k_acons2, G.shs_v0, G.shs_v1, G.shs_v2, G.shs_v3, G.shs_v4, G.om_some, G.r_tupT, G.r_lstT, G.k_dt, G.k_dl, G.k_d1, G.k_d2, G.r_fB, G.k_fB, G.r_and, G.r_or, G.r_andV, G.r_orV, G.r_not, G.r_notV, G.k_not, G.k_notV, G.r_yes, G.r_ch, G.k_ch1, G.k_ch2, G.k_ch3, G.k_ch4, G.k_ch5, G.r_call, G.c1_nil, G.c1_t, G.c1_f, G.c1_s, G.c1_s1, G.c1_s2, G.k_ca, G.k_c1, G.k_c2, G.c2_nil, G.c2_v, G.c2_s, G.c2_s1, G.c2_s3, G.c2_s2, G.k_call, G.k_w1, G.k_w2, G.k_w3, G.k_wite, G.wb_nil, G.wb_none, G.wb_some, G.k_wb1, G.k_wb2, G.wbx_nil, G.wbx_none, G.ap_nil, G.ap_nil2, G.ap_cons, G.ma_nil, G.ma_cons, G.ds_nil, G.ds_none, G.ds_some, G.me_nil, G.me_none, G.me_some, G.ou_0, G.ou_s, G.ob_val, G.ob_own, G.ob_un, G.ob_exc, G.ob_prm, G.le_0, G.le_s, G.k_rf1, G.k_rf2, G.k_rf3, G.k_rf4, G.k_rs1, G.k_rs2, G.r_set, G.k_set1, G.k_set2, G.k_set3, G.k_set4, G.k_set5, G.k_set6, G.k_set7, G.k_set8, G.k_set9, G.r_mut, G.k_mu1, G.k_mu2, G.k_mu3, G.k_mu4, G.k_mu5, G.k_mu6, G.k_mu7, G.k_app, G.k_apps, G.r_par, G.k_par1, G.k_par2, G.k_par3, G.k_par4, G.k_par5, G.r_par3, G.k_p3a, G.k_p3b, G.r_parN, G.k_pn1, G.k_pn2, G.k_nx, G.ev_nil, G.ev_cons, G.k_ev1, G.k_ev2, G.rs_nil, G.rs_val, G.rs_fr, G.rs_sl, G.k_rsS1, G.k_rsS2, G.bn_nil, G.bn_val, G.bn_fr, G.r_rep, G.k_rp1, G.k_rp2, G.k_rp3, G.ixN_last, G.set_last, G.ix_last, G.r_for, G.k_for, G.fo_nil, G.fo_cons, G.k_fo0, G.k_fo1, G.k_fo2, G.k_fo3, G.k_fo4, G.r_turn, G.k_tu0, G.k_tu1, G.k_tu2, G.k_tu3, G.k_tu4, G.r_seqI, G.k_seqI, G.k_seqI1, G.k_seqI3, G.k_seqI5, G.k_seqI6, G.k_seqI4, G.k_seqI2, G.r_rng1, G.k_rng1, G.k_rng1b, G.r_rng2, G.k_rng2, G.k_rng2b, G.rgl_0, G.rgl_1, G.rgl_2, G.rgl_3, G.rgl_4, G.rgl_5, G.rgl_6, G.rgl_7, G.rgl_8, G.rgl_9, G.rgl_10, G.rgl_12, G.rgl_16, G.r1l_1, G.r1l_2, G.r1l_3, G.r1l_4, G.r1l_5, G.r1l_6, G.r1l_8, G.rpl_0, G.rpl_1, G.rpl_2, G.rpl_3, G.rpl_4, G.rpl_5, G.rpl_6, G.rpl_7, G.rpl_8, G.r_lc, G.k_lc, G.l_nil, G.l_cons, G.l_A, G.l_B, G.l_C, G.l_C2, G.l_C3, G.l_S1, G.l_S2, G.l_D, G.k_lc1, G.wi_nil, G.wi_cons, G.mulOk_l, G.mulOk_r, G.r_sl, G.k_sla, G.k_slb, G.k_slc, G.k_sld, G.pt_n, G.pt_s, G.k_pt, G.cu_t, G.cu_l, G.cu_1n, G.cu_2n, G.cu_n1, G.d_add, G.d_addT, G.d_addTs, G.d_addL, G.d_addLs, G.d_sub, G.d_mul, G.d_fdiv, G.d_mod, G.d_neg, G.d_cmp, G.d_ixT, G.d_ixL, G.at_0, G.at_1, G.at_2, G.at_3, G.d_lenL, G.d_lenT, G.d_tupL, G.d_tupT, G.d_all, G.k_all, G.d_any, G.k_any, G.bo_nil, G.bo_cons, G.al_nil, G.al_cons, G.al_map, G.an_nil, G.an_cons, G.an_map, G.id_b, G.bo_map, G.d_max, G.d_min, G.d_listL, G.d_listT, G.d_p18, G.d_p13, G.d_p12, G.d_is, G.d_abs, G.d_repr, G.d_eqS, G.d_neS, G.d_eqI, G.d_neI, G.d_isi, G.isy_int_none, G.isy_int_bool, G.isy_int_int, G.isy_int_str, G.isy_int_list, G.isy_int_tuple, G.isy_int_dict, G.isy_bool_none, G.isy_bool_bool, G.isy_bool_int, G.isy_bool_str, G.isy_bool_list, G.isy_bool_tuple, G.isy_bool_dict, G.isy_tuple_none, G.isy_tuple_bool, G.isy_tuple_int, G.isy_tuple_str, G.isy_tuple_list, G.isy_tuple_tuple, G.isy_tuple_dict, G.isy_list_none, G.isy_list_bool, G.isy_list_int, G.isy_list_str, G.isy_list_list, G.isy_list_tuple, G.isy_list_dict, G.isy_str_none, G.isy_str_bool, G.isy_str_int, G.isy_str_str, G.isy_str_list, G.isy_str_tuple, G.isy_str_dict, G.isy_dict_none, G.isy_dict_bool, G.isy_dict_int, G.isy_dict_str, G.isy_dict_list, G.isy_dict_tuple, G.isy_dict_dict, G.it_t, G.it_f, G.b_tt, G.b_ft, G.b_nt, G.b_nf, G.b_ta, G.b_fa, G.b_at, G.b_to, G.b_fo, G.lI_0, G.lI_1, G.lI_2, G.lI_3, G.lI_4, G.lI_5, G.lI_m, G.bs_f, G.es_f, G.bb_tt, G.bb_tf, G.bb_ft, G.bb_ff, G.bq_s, G.r_dic, G.k_dic1, G.k_dic2, G.k_dic3, G.k_dic4, G.k_kD1, G.k_kD2, G.k_fl0, G.k_fl1, G.k_pr0, G.k_pr1, G.k_pr2, G.r_dic0, G.d_ixDi, G.d_ixDs, G.d_inGT, G.d_inGL, G.d_ninGT, G.d_ninGL, G.d_inGi, G.d_ninGi, G.k_vals, G.k_items, G.d_setDi, G.dg_nil, G.dg_i, G.dg_s, G.mg_0, G.mg_s, G.dpk_n, G.ky_i, G.ky_s, G.d_eqX, G.d_neX, G.d_inT, G.d_inL, G.d_ninT, G.d_ninL, G.ev_ii, G.ev_bb, G.ev_ss, G.ev_nn, G.ev_tt, G.ev_ll, G.ev_0, G.ev_c, G.ev_c0, G.ev_0c, G.ev_none_bool, G.ev_none_int, G.ev_none_str, G.ev_none_list, G.ev_none_tuple, G.ev_bool_none, G.ev_bool_str, G.ev_bool_list, G.ev_bool_tuple, G.ev_int_none, G.ev_int_str, G.ev_int_list, G.ev_int_tuple, G.ev_str_none, G.ev_str_bool, G.ev_str_int, G.ev_str_list, G.ev_str_tuple, G.ev_list_none, G.ev_list_bool, G.ev_list_int, G.ev_list_str, G.ev_list_tuple, G.ev_tuple_none, G.ev_tuple_bool, G.ev_tuple_int, G.ev_tuple_str, G.ev_tuple_list, G.dec_t, G.not_dec, G.k_popA, G.k_popZ, G.k_pop1, G.r_ext, G.k_ext1, G.k_ext2, G.k_ext3, G.k_ext4, G.r_items, G.k_itemsJ, G.d_listD, G.d_intI, G.d_intB, G.d_strI, G.r_subG, G.k_sub1, G.k_sub2, G.k_sub3, G.k_sub4, G.k_sub5, G.k_sub6, G.k_sub7, G.r_tupL1, G.r_tupL2, G.r_tupL3, G.r_tupL4, G.d_isB, G.d_isnB, G.d_isnN, G.d_revL, G.d_revT, G.r_permA, G.k_perm1, G.k_perm2, G.k_perm3a, G.k_perm3b, G.k_perm3c, G.k_perm3d, G.k_perm3e, Int.reduceEq, Int.reduceLE, Int.reduceLT, Int.reduceAdd, Int.reduceSub, Int.reduceMul, Int.reduceNeg, Nat.reduceAdd, List.nil_append, not_true_eq_false, not_false_eq_true, and_true, true_and, and_false, false_and, or_true, true_or, or_false, false_or, decide_true, decide_false, eq_self, Bool.and_true, Bool.and_false, $ls,*])
  | `(tactic| simp? [$ls,*] at $h:ident) => `(tactic| simp (maxSteps := 1000000) (disch := first | assumption | (simp (disch := decide +kernel) only [G.sl_nil, G.sl_cons, List.cons_append, List.nil_append, G.shN_str, G.shN_tup, G.shN_lst, G.shN_int, G.shN_bool, G.shN_none, G.shA_nil, G.shA_cons, G.b_ta, G.ky_i, G.ky_s]; done) | exact G.len_ok (by simp only [G.sl_nil, G.sl_cons]) | decide | decide +kernel | exact G.mulOk_l (by decide) | exact G.mulOk_r (by decide) | omega) only [G.rb_ok, G.rb_ex, G.rb_bad, G.rb_ite, G.lz, G.ls, G.sz, G.ss, G.r_seq, G.k_seq1, G.k_seq2, G.k_seq3, G.k_seq4, G.r_nx, G.r_bk, G.r_ct, G.r_retN, G.r_ret, G.k_ret, G.r_drop, G.k_drop, G.r_if, G.r_ife, G.k_if, G.r_asg, G.k_asg1, G.k_asg2, G.k_asg3, G.k_sl1, G.k_sl2, G.k_sh1, G.k_sh2, G.k_sh3, G.k_sh4, G.k_sh5, G.r_asgG, G.k_asgG, G.k_asgL, G.k_tg, G.r_nm, G.r_tup, G.r_tup1, G.r_tup3, G.r_tup4, G.r_nil, G.r_cons, G.r_V, G.k_V1, G.k_V2, G.k_V4, G.k_V3, G.r_C, G.p_val, G.p_fr, G.p_sl, G.pb_1, G.pb_2, G.pb_3, G.od_1, G.od_2, G.p_1, G.p_2, G.p_3, G.q_1, G.q_2, G.q_3, G.re_1, G.re_2, G.re_ite, G.st_1, G.st_2, G.st_3, G.r_op2, G.k_op2a, G.k_op2b, G.k_op2c, G.r_op1, G.k_op1, G.ob_some, G.r_said, G.k_said1, G.r_opN, G.k_opN, G.r_pk0, G.r_pk1, G.k_pk, G.r_anil, G.r_acons, G.k_acons, G.k_acons2, G.shs_v0, G.shs_v1, G.shs_v2, G.shs_v3, G.shs_v4, G.om_some, G.r_tupT, G.r_lstT, G.k_dt, G.k_dl, G.k_d1, G.k_d2, G.r_fB, G.k_fB, G.r_and, G.r_or, G.r_andV, G.r_orV, G.r_not, G.r_notV, G.k_not, G.k_notV, G.r_yes, G.r_ch, G.k_ch1, G.k_ch2, G.k_ch3, G.k_ch4, G.k_ch5, G.r_call, G.c1_nil, G.c1_t, G.c1_f, G.c1_s, G.c1_s1, G.c1_s2, G.k_ca, G.k_c1, G.k_c2, G.c2_nil, G.c2_v, G.c2_s, G.c2_s1, G.c2_s3, G.c2_s2, G.k_call, G.k_w1, G.k_w2, G.k_w3, G.k_wite, G.wb_nil, G.wb_none, G.wb_some, G.k_wb1, G.k_wb2, G.wbx_nil, G.wbx_none, G.ap_nil, G.ap_nil2, G.ap_cons, G.ma_nil, G.ma_cons, G.ds_nil, G.ds_none, G.ds_some, G.me_nil, G.me_none, G.me_some, G.ou_0, G.ou_s, G.ob_val, G.ob_own, G.ob_un, G.ob_exc, G.ob_prm, G.le_0, G.le_s, G.k_rf1, G.k_rf2, G.k_rf3, G.k_rf4, G.k_rs1, G.k_rs2, G.r_set, G.k_set1, G.k_set2, G.k_set3, G.k_set4, G.k_set5, G.k_set6, G.k_set7, G.k_set8, G.k_set9, G.r_mut, G.k_mu1, G.k_mu2, G.k_mu3, G.k_mu4, G.k_mu5, G.k_mu6, G.k_mu7, G.k_app, G.k_apps, G.r_par, G.k_par1, G.k_par2, G.k_par3, G.k_par4, G.k_par5, G.r_par3, G.k_p3a, G.k_p3b, G.r_parN, G.k_pn1, G.k_pn2, G.k_nx, G.ev_nil, G.ev_cons, G.k_ev1, G.k_ev2, G.rs_nil, G.rs_val, G.rs_fr, G.rs_sl, G.k_rsS1, G.k_rsS2, G.bn_nil, G.bn_val, G.bn_fr, G.r_rep, G.k_rp1, G.k_rp2, G.k_rp3, G.ixN_last, G.set_last, G.ix_last, G.r_for, G.k_for, G.fo_nil, G.fo_cons, G.k_fo0, G.k_fo1, G.k_fo2, G.k_fo3, G.k_fo4, G.r_turn, G.k_tu0, G.k_tu1, G.k_tu2, G.k_tu3, G.k_tu4, G.r_seqI, G.k_seqI, G.k_seqI1, G.k_seqI3, G.k_seqI5, G.k_seqI6, G.k_seqI4, G.k_seqI2, G.r_rng1, G.k_rng1, G.k_rng1b, G.r_rng2, G.k_rng2, G.k_rng2b, G.rgl_0, G.rgl_1, G.rgl_2, G.rgl_3, G.rgl_4, G.rgl_5, G.rgl_6, G.rgl_7, G.rgl_8, G.rgl_9, G.rgl_10, G.rgl_12, G.rgl_16, G.r1l_1, G.r1l_2, G.r1l_3, G.r1l_4, G.r1l_5, G.r1l_6, G.r1l_8, G.rpl_0, G.rpl_1, G.rpl_2, G.rpl_3, G.rpl_4, G.rpl_5, G.rpl_6, G.rpl_7, G.rpl_8, G.r_lc, G.k_lc, G.l_nil, G.l_cons, G.l_A, G.l_B, G.l_C, G.l_C2, G.l_C3, G.l_S1, G.l_S2, G.l_D, G.k_lc1, G.wi_nil, G.wi_cons, G.mulOk_l, G.mulOk_r, G.r_sl, G.k_sla, G.k_slb, G.k_slc, G.k_sld, G.pt_n, G.pt_s, G.k_pt, G.cu_t, G.cu_l, G.cu_1n, G.cu_2n, G.cu_n1, G.d_add, G.d_addT, G.d_addTs, G.d_addL, G.d_addLs, G.d_sub, G.d_mul, G.d_fdiv, G.d_mod, G.d_neg, G.d_cmp, G.d_ixT, G.d_ixL, G.at_0, G.at_1, G.at_2, G.at_3, G.d_lenL, G.d_lenT, G.d_tupL, G.d_tupT, G.d_all, G.k_all, G.d_any, G.k_any, G.bo_nil, G.bo_cons, G.al_nil, G.al_cons, G.al_map, G.an_nil, G.an_cons, G.an_map, G.id_b, G.bo_map, G.d_max, G.d_min, G.d_listL, G.d_listT, G.d_p18, G.d_p13, G.d_p12, G.d_is, G.d_abs, G.d_repr, G.d_eqS, G.d_neS, G.d_eqI, G.d_neI, G.d_isi, G.isy_int_none, G.isy_int_bool, G.isy_int_int, G.isy_int_str, G.isy_int_list, G.isy_int_tuple, G.isy_int_dict, G.isy_bool_none, G.isy_bool_bool, G.isy_bool_int, G.isy_bool_str, G.isy_bool_list, G.isy_bool_tuple, G.isy_bool_dict, G.isy_tuple_none, G.isy_tuple_bool, G.isy_tuple_int, G.isy_tuple_str, G.isy_tuple_list, G.isy_tuple_tuple, G.isy_tuple_dict, G.isy_list_none, G.isy_list_bool, G.isy_list_int, G.isy_list_str, G.isy_list_list, G.isy_list_tuple, G.isy_list_dict, G.isy_str_none, G.isy_str_bool, G.isy_str_int, G.isy_str_str, G.isy_str_list, G.isy_str_tuple, G.isy_str_dict, G.isy_dict_none, G.isy_dict_bool, G.isy_dict_int, G.isy_dict_str, G.isy_dict_list, G.isy_dict_tuple, G.isy_dict_dict, G.it_t, G.it_f, G.b_tt, G.b_ft, G.b_nt, G.b_nf, G.b_ta, G.b_fa, G.b_at, G.b_to, G.b_fo, G.lI_0, G.lI_1, G.lI_2, G.lI_3, G.lI_4, G.lI_5, G.lI_m, G.bs_f, G.es_f, G.bb_tt, G.bb_tf, G.bb_ft, G.bb_ff, G.bq_s, G.r_dic, G.k_dic1, G.k_dic2, G.k_dic3, G.k_dic4, G.k_kD1, G.k_kD2, G.k_fl0, G.k_fl1, G.k_pr0, G.k_pr1, G.k_pr2, G.r_dic0, G.d_ixDi, G.d_ixDs, G.d_inGT, G.d_inGL, G.d_ninGT, G.d_ninGL, G.d_inGi, G.d_ninGi, G.k_vals, G.k_items, G.d_setDi, G.dg_nil, G.dg_i, G.dg_s, G.mg_0, G.mg_s, G.dpk_n, G.ky_i, G.ky_s, G.d_eqX, G.d_neX, G.d_inT, G.d_inL, G.d_ninT, G.d_ninL, G.ev_ii, G.ev_bb, G.ev_ss, G.ev_nn, G.ev_tt, G.ev_ll, G.ev_0, G.ev_c, G.ev_c0, G.ev_0c, G.ev_none_bool, G.ev_none_int, G.ev_none_str, G.ev_none_list, G.ev_none_tuple, G.ev_bool_none, G.ev_bool_str, G.ev_bool_list, G.ev_bool_tuple, G.ev_int_none, G.ev_int_str, G.ev_int_list, G.ev_int_tuple, G.ev_str_none, G.ev_str_bool, G.ev_str_int, G.ev_str_list, G.ev_str_tuple, G.ev_list_none, G.ev_list_bool, G.ev_list_int, G.ev_list_str, G.ev_list_tuple, G.ev_tuple_none, G.ev_tuple_bool, G.ev_tuple_int, G.ev_tuple_str, G.ev_tuple_list, G.dec_t, G.not_dec, G.k_popA, G.k_popZ, G.k_pop1, G.r_ext, G.k_ext1, G.k_ext2, G.k_ext3, G.k_ext4, G.r_items, G.k_itemsJ, G.d_listD, G.d_intI, G.d_intB, G.d_strI, G.r_subG, G.k_sub1, G.k_sub2, G.k_sub3, G.k_sub4, G.k_sub5, G.k_sub6, G.k_sub7, G.r_tupL1, G.r_tupL2, G.r_tupL3, G.r_tupL4, G.d_isB, G.d_isnB, G.d_isnN, G.d_revL, G.d_revT, G.r_permA, G.k_perm1, G.k_perm2, G.k_perm3a, G.k_perm3b, G.k_perm3c, G.k_perm3d, G.k_perm3e, Int.reduceEq, Int.reduceLE, Int.reduceLT, Int.reduceAdd, Int.reduceSub, Int.reduceMul, Int.reduceNeg, Nat.reduceAdd, List.nil_append, not_true_eq_false, not_false_eq_true, and_true, true_and, and_false, false_and, or_true, true_or, or_false, false_or, decide_true, decide_false, eq_self, Bool.and_true, Bool.and_false, $ls,*] at $h:ident)
/-! ### kinds, symmetries -/
inductive Kd where
  | k0 | k1 | k2 | k3 | k4 | k5 | k6 | k7
deriving DecidableEq
def Kd.n : Kd → Nat
  | k0 => 0 | k1 => 1 | k2 => 2 | k3 => 3 | k4 => 4 | k5 => 5 | k6 => 6 | k7 => 7
def Kd.i : Kd → Int
  | k0 => 0 | k1 => 1 | k2 => 2 | k3 => 3 | k4 => 4 | k5 => 5 | k6 => 6 | k7 => 7
def Kd.of : Nat → Kd
  | 0 => k0 | 1 => k1 | 2 => k2 | 3 => k3 | 4 => k4 | 5 => k5 | 6 => k6 | _ => k7
def Kd.u : Kd → Int → Int → Int
  | k0, a, _ => a | k1, _, b => -b | k2, a, _ => -a | k3, _, b => b | k4, a, _ => -a | k5, _, b => -b | k6, a, _ => a | k7, _, b => b
def Kd.v : Kd → Int → Int → Int
  | k0, _, b => b | k1, a, _ => a | k2, _, b => -b | k3, a, _ => -a | k4, _, b => b | k5, a, _ => -a | k6, _, b => -b | k7, a, _ => a
/-- first p, then q -/
def Kd.mul (p q : Kd) : Kd := .of (if q.n < 4 then (if p.n < 4 then (p.n + q.n) % 4 else 4 + (p.n + q.n) % 4) else (if p.n < 4 then 4 + (q.n + 4 - p.n) % 4 else (q.n + 8 - p.n) % 4))
def Kd.inv : Kd → Kd
  | k1 => k3 | k3 => k1 | k => k
theorem Kd.mul_u (p q : Kd) (a b : Int) : (p.mul q).u a b = q.u (p.u a b) (p.v a b) := by
  cases p <;> cases q <;> simp [Kd.mul, Kd.n, Kd.of, Kd.u, Kd.v]
theorem Kd.mul_v (p q : Kd) (a b : Int) : (p.mul q).v a b = q.v (p.u a b) (p.v a b) := by
  cases p <;> cases q <;> simp [Kd.mul, Kd.n, Kd.of, Kd.u, Kd.v]
theorem Kd.mul_assoc (p q r : Kd) : (p.mul q).mul r = p.mul (q.mul r) := by
  cases p <;> cases q <;> cases r <;> rfl
theorem Kd.mul_k0 (p : Kd) : p.mul .k0 = p := by cases p <;> rfl
theorem Kd.k0_mul (p : Kd) : Kd.mul .k0 p = p := by cases p <;> rfl
theorem Kd.mul_inv (p : Kd) : p.mul p.inv = .k0 := by cases p <;> rfl
theorem Kd.inv_mul (p : Kd) : p.inv.mul p = .k0 := by cases p <;> rfl
theorem Kd.u_add (p : Kd) (a b c d : Int) : p.u (a + c) (b + d) = p.u a b + p.u c d := by cases p <;> simp only [Kd.u] <;> omega
theorem Kd.v_add (p : Kd) (a b c d : Int) : p.v (a + c) (b + d) = p.v a b + p.v c d := by cases p <;> simp only [Kd.v] <;> omega
theorem Kd.u_neg (p : Kd) (a b : Int) : p.u (-a) (-b) = -p.u a b := by cases p <;> simp only [Kd.u] <;> omega
theorem Kd.v_neg (p : Kd) (a b : Int) : p.v (-a) (-b) = -p.v a b := by cases p <;> simp only [Kd.v] <;> omega
theorem Kd.i_n (p : Kd) : p.i = (p.n : Int) := by cases p <;> rfl
theorem Kd.i_nonneg (p : Kd) : 0 ≤ p.i := by cases p <;> decide
theorem Kd.i_le (p : Kd) : p.i ≤ 7 := by cases p <;> decide
theorem Kd.i_inj {p q : Kd} (h : p.i = q.i) : p = q := by revert h; cases p <;> cases q <;> decide
abbrev SQ (a b : Int) : PyData := .tuple [.int a, .int b]
abbrev SY (k : Kd) (x y : Int) : PyData := .tuple [.int k.i, .int x, .int y]
structure Sym where
  k : Kd
  x : Int
  y : Int
deriving DecidableEq
abbrev Sym.d (s : Sym) : PyData := .tuple [.int s.k.i, .int s.x, .int s.y]
def Sym.one : Sym := ⟨.k0, 0, 0⟩
/-- first s, then t -/
def Sym.mul (s t : Sym) : Sym := ⟨s.k.mul t.k, t.k.u s.x s.y + t.x, t.k.v s.x s.y + t.y⟩
def Sym.inv (s : Sym) : Sym := ⟨s.k.inv, -s.k.inv.u s.x s.y, -s.k.inv.v s.x s.y⟩
theorem Sym.ext' {s t : Sym} (hk : s.k = t.k) (hx : s.x = t.x) (hy : s.y = t.y) : s = t := by
  cases s; cases t; cases hk; cases hx; cases hy; rfl
theorem Sym.mul_assoc (s t r : Sym) : (s.mul t).mul r = s.mul (t.mul r) := by
  unfold Sym.mul
  refine Sym.ext' (Kd.mul_assoc ..) ?_ ?_
  · dsimp only; rw [Kd.mul_u, Kd.u_add, Int.add_assoc]
  · dsimp only; rw [Kd.mul_v, Kd.v_add, Int.add_assoc]
theorem Sym.mul_one (s : Sym) : s.mul .one = s := by
  unfold Sym.mul Sym.one
  exact Sym.ext' (Kd.mul_k0 _) (by simp [Kd.u]) (by simp [Kd.v])
theorem Sym.one_mul (s : Sym) : Sym.one.mul s = s := by
  unfold Sym.mul Sym.one
  refine Sym.ext' (Kd.k0_mul _) ?_ ?_
  · cases h : s.k <;> simp [Kd.u, h]
  · cases h : s.k <;> simp [Kd.v, h]
theorem Sym.mul_inv (s : Sym) : s.mul s.inv = .one := by
  unfold Sym.mul Sym.inv Sym.one
  exact Sym.ext' (Kd.mul_inv _) (by dsimp only; omega) (by dsimp only; omega)
theorem Sym.inv_mul (s : Sym) : s.inv.mul s = .one := by
  unfold Sym.mul Sym.inv Sym.one
  refine Sym.ext' (Kd.inv_mul _) ?_ ?_
  · dsimp only
    rw [Kd.u_neg, ← Kd.mul_u, Kd.inv_mul]
    simp only [Kd.u]
    omega
  · dsimp only
    rw [Kd.v_neg, ← Kd.mul_v, Kd.inv_mul]
    simp only [Kd.v]
    omega
theorem Sym.mul_left_inj {s t r : Sym} (h : r.mul s = r.mul t) : s = t := by
  have := congrArg r.inv.mul h
  rwa [← Sym.mul_assoc, ← Sym.mul_assoc, Sym.inv_mul, Sym.one_mul, Sym.one_mul] at this
theorem Sym.inv_inv (s : Sym) : s.inv.inv = s := by
  apply Sym.mul_left_inj (r := s.inv)
  rw [Sym.mul_inv, Sym.inv_mul]
theorem Sym.inv_of {s t : Sym} (h : s.mul t = .one) : t = s.inv := by
  apply Sym.mul_left_inj (r := s)
  rw [h, Sym.mul_inv]
theorem Sym.mul_inv_rev (s t : Sym) : (s.mul t).inv = t.inv.mul s.inv := by
  symm
  apply Sym.inv_of
  rw [Sym.mul_assoc, ← Sym.mul_assoc t, Sym.mul_inv, Sym.one_mul, Sym.mul_inv]
/-! ### numbers, squares, symmetries checked -/
theorem is_integer_ok {z : Int} : F_is_integer [.val (.int z)] = .ok (.val (.bool true), [.un]) := by kernel_rfl
theorem is_between_ok {z a b : Int} : F_is_between [.val (.int z), .val (.int a), .val (.int b)] = .ok (.val (.bool (decide (a ≤ z ∧ z ≤ b))), [.un, .un, .un]) := by
  rw [r_is_between]
  unfold B_is_between
  simp? [is_integer_ok]
  by_cases h : a ≤ z <;> simp [h]
theorem is_symmetry_ok {k : Kd} {x y : Int} : F_is_symmetry [.val (SY k x y)] = .ok (.val (.bool true), [.un]) := by
  rw [r_is_symmetry]
  unfold B_is_symmetry
  simp? [is_integer_ok, is_between_ok]
  simp [Kd.i_nonneg, Kd.i_le]
theorem need_symmetry_ok {k : Kd} {x y : Int} : F_need_symmetry [.val (SY k x y)] = .ok (.val .none, [.un]) := by
  rw [r_need_symmetry]
  unfold B_need_symmetry
  simp? [is_symmetry_ok]
/-! ### the linear part, images, products -/
theorem rngOk_nat {n : Nat} (h : n < 1000000) : rngOk (n : Int) = true := by
  unfold rngOk
  simp only [Bool.and_eq_true, decide_eq_true_eq]
  omega
/-! ### the laws' own images and products -/
/-! ### drawing -/
structure Src where
  a : Int
  b : Int
  c : Int
  h0 : 0 ≤ b
  h1 : b ≤ 2147483647
abbrev Src.d (s : Src) : PyData := .list [.int s.a, .int s.b, .int s.c]
def m1 (b c : Int) : Int := (b * 48271 + 1009 * (c + 1) + 7).fmod 2147483647
def m2 (b : Int) : Int := (b * b + 69621 * b + 11).fmod 2147483629
def m3 (x : Int) : Int := (x * x + 40014 * x).fmod 2147483587
theorem m1_nn (b c : Int) : 0 ≤ m1 b c := Int.fmod_nonneg_of_pos _ (by decide)
theorem m1_lt (b c : Int) : m1 b c < 2147483647 := Int.fmod_lt_of_pos _ (by decide)
/-- the next number below m -/
def Src.v (s : Src) (m : Int) : Int := if 0 < s.a then s.a.fmod m else ((m3 (m2 (m1 s.b s.c))).fdiv 16).fmod m
def Src.nx (s : Src) (m : Int) : Src := if 0 < s.a then ⟨s.a.fdiv m, s.b, s.c, s.h0, s.h1⟩ else ⟨s.a, m1 s.b s.c, s.c + 1, m1_nn _ _, by have := m1_lt s.b s.c; omega⟩
theorem cell_ok (ns : List Int) (k : Nat) : ∃ z : Int, F__law_cell [.val (.list (ns.map PyData.int)), .val (.int k)] = .ok (.val (.int z), [.un, .un]) := by
  rw [r__law_cell]
  unfold B__law_cell
  by_cases h : k < ns.length
  · have h2 : atI (ns.map PyData.int) (k : Int) = some (.int ns[k]) := atI_nat (by rw [List.getElem?_map, List.getElem?_eq_getElem h]; rfl)
    have h3 : (k : Int) < (ns.length : Int) := by omega
    exact ⟨ns[k], by simp? [h2, h3, if_pos]⟩
  · have h3 : ¬ (k : Int) < (ns.length : Int) := by omega
    exact ⟨0, by simp? [h3, if_neg]⟩
def Src.sq (s : Src) (far : Int) : Int × Int := (s.v (2 * far + 1) - far, (s.nx (2 * far + 1)).v (2 * far + 1) - far)
/-! ### repr -/
end M
namespace M
open PySem PySem.Spec PyProof.Rows L2 G
local macro_rules
  | `(tactic| simp? [$ls,*]) => `(tactic| simp (maxSteps := 1000000) (disch := first | assumption | (simp (disch := decide +kernel) only [G.sl_nil, G.sl_cons, List.cons_append, List.nil_append, G.shN_str, G.shN_tup, G.shN_lst, G.shN_int, G.shN_bool, G.shN_none, G.shA_nil, G.shA_cons, G.b_ta, G.ky_i, G.ky_s]; done) | exact G.len_ok (by simp only [G.sl_nil, G.sl_cons]) | decide | decide +kernel | exact G.mulOk_l (by decide) | exact G.mulOk_r (by decide) | omega) only [G.rb_ok, G.rb_ex, G.rb_bad, G.rb_ite, G.lz, G.ls, G.sz, G.ss, G.r_seq, G.k_seq1, G.k_seq2, G.k_seq3, G.k_seq4, G.r_nx, G.r_bk, G.r_ct, G.r_retN, G.r_ret, G.k_ret, G.r_drop, G.k_drop, G.r_if, G.r_ife, G.k_if, G.r_asg, G.k_asg1, G.k_asg2, G.k_asg3, G.k_sl1, G.k_sl2, G.k_sh1, G.k_sh2, G.k_sh3, G.k_sh4, G.k_sh5, G.r_asgG, G.k_asgG, G.k_asgL, G.k_tg, G.r_nm, G.r_tup, G.r_tup1, G.r_tup3, G.r_tup4, G.r_nil, G.r_cons, G.r_V, G.k_V1, G.k_V2, G.k_V4, G.k_V3, G.r_C, G.p_val, G.p_fr, G.p_sl, G.pb_1, G.pb_2, G.pb_3, G.od_1, G.od_2, G.p_1, G.p_2, G.p_3, G.q_1, G.q_2, G.q_3, G.re_1, G.re_2, G.re_ite, G.st_1, G.st_2, G.st_3, G.r_op2, G.k_op2a, G.k_op2b, G.k_op2c, G.r_op1, G.k_op1, G.ob_some, G.r_said, G.k_said1, G.r_opN, G.k_opN, G.r_pk0, G.r_pk1, G.k_pk, G.r_anil, G.r_acons, G.k_acons, G.k_acons2, G.shs_v0, G.shs_v1, G.shs_v2, G.shs_v3, G.shs_v4, G.om_some, G.r_tupT, G.r_lstT, G.k_dt, G.k_dl, G.k_d1, G.k_d2, G.r_fB, G.k_fB, G.r_and, G.r_or, G.r_andV, G.r_orV, G.r_not, G.r_notV, G.k_not, G.k_notV, G.r_yes, G.r_ch, G.k_ch1, G.k_ch2, G.k_ch3, G.k_ch4, G.k_ch5, G.r_call, G.c1_nil, G.c1_t, G.c1_f, G.c1_s, G.c1_s1, G.c1_s2, G.k_ca, G.k_c1, G.k_c2, G.c2_nil, G.c2_v, G.c2_s, G.c2_s1, G.c2_s3, G.c2_s2, G.k_call, G.k_w1, G.k_w2, G.k_w3, G.k_wite, G.wb_nil, G.wb_none, G.wb_some, G.k_wb1, G.k_wb2, G.wbx_nil, G.wbx_none, G.ap_nil, G.ap_nil2, G.ap_cons, G.ma_nil, G.ma_cons, G.ds_nil, G.ds_none, G.ds_some, G.me_nil, G.me_none, G.me_some, G.ou_0, G.ou_s, G.ob_val, G.ob_own, G.ob_un, G.ob_exc, G.ob_prm, G.le_0, G.le_s, G.k_rf1, G.k_rf2, G.k_rf3, G.k_rf4, G.k_rs1, G.k_rs2, G.r_set, G.k_set1, G.k_set2, G.k_set3, G.k_set4, G.k_set5, G.k_set6, G.k_set7, G.k_set8, G.k_set9, G.r_mut, G.k_mu1, G.k_mu2, G.k_mu3, G.k_mu4, G.k_mu5, G.k_mu6, G.k_mu7, G.k_app, G.k_apps, G.r_par, G.k_par1, G.k_par2, G.k_par3, G.k_par4, G.k_par5, G.r_par3, G.k_p3a, G.k_p3b, G.r_parN, G.k_pn1, G.k_pn2, G.k_nx, G.ev_nil, G.ev_cons, G.k_ev1, G.k_ev2, G.rs_nil, G.rs_val, G.rs_fr, G.rs_sl, G.k_rsS1, G.k_rsS2, G.bn_nil, G.bn_val, G.bn_fr, G.r_rep, G.k_rp1, G.k_rp2, G.k_rp3, G.ixN_last, G.set_last, G.ix_last, G.r_for, G.k_for, G.fo_nil, G.fo_cons, G.k_fo0, G.k_fo1, G.k_fo2, G.k_fo3, G.k_fo4, G.r_turn, G.k_tu0, G.k_tu1, G.k_tu2, G.k_tu3, G.k_tu4, G.r_seqI, G.k_seqI, G.k_seqI1, G.k_seqI3, G.k_seqI5, G.k_seqI6, G.k_seqI4, G.k_seqI2, G.r_rng1, G.k_rng1, G.k_rng1b, G.r_rng2, G.k_rng2, G.k_rng2b, G.rgl_0, G.rgl_1, G.rgl_2, G.rgl_3, G.rgl_4, G.rgl_5, G.rgl_6, G.rgl_7, G.rgl_8, G.rgl_9, G.rgl_10, G.rgl_12, G.rgl_16, G.r1l_1, G.r1l_2, G.r1l_3, G.r1l_4, G.r1l_5, G.r1l_6, G.r1l_8, G.rpl_0, G.rpl_1, G.rpl_2, G.rpl_3, G.rpl_4, G.rpl_5, G.rpl_6, G.rpl_7, G.rpl_8, G.r_lc, G.k_lc, G.l_nil, G.l_cons, G.l_A, G.l_B, G.l_C, G.l_C2, G.l_C3, G.l_S1, G.l_S2, G.l_D, G.k_lc1, G.wi_nil, G.wi_cons, G.mulOk_l, G.mulOk_r, G.r_sl, G.k_sla, G.k_slb, G.k_slc, G.k_sld, G.pt_n, G.pt_s, G.k_pt, G.cu_t, G.cu_l, G.cu_1n, G.cu_2n, G.cu_n1, G.d_add, G.d_addT, G.d_addTs, G.d_addL, G.d_addLs, G.d_sub, G.d_mul, G.d_fdiv, G.d_mod, G.d_neg, G.d_cmp, G.d_ixT, G.d_ixL, G.at_0, G.at_1, G.at_2, G.at_3, G.d_lenL, G.d_lenT, G.d_tupL, G.d_tupT, G.d_all, G.k_all, G.d_any, G.k_any, G.bo_nil, G.bo_cons, G.al_nil, G.al_cons, G.al_map, G.an_nil, G.an_cons, G.an_map, G.id_b, G.bo_map, G.d_max, G.d_min, G.d_listL, G.d_listT, G.d_p18, G.d_p13, G.d_p12, G.d_is, G.d_abs, G.d_repr, G.d_eqS, G.d_neS, G.d_eqI, G.d_neI, G.d_isi, G.isy_int_none, G.isy_int_bool, G.isy_int_int, G.isy_int_str, G.isy_int_list, G.isy_int_tuple, G.isy_int_dict, G.isy_bool_none, G.isy_bool_bool, G.isy_bool_int, G.isy_bool_str, G.isy_bool_list, G.isy_bool_tuple, G.isy_bool_dict, G.isy_tuple_none, G.isy_tuple_bool, G.isy_tuple_int, G.isy_tuple_str, G.isy_tuple_list, G.isy_tuple_tuple, G.isy_tuple_dict, G.isy_list_none, G.isy_list_bool, G.isy_list_int, G.isy_list_str, G.isy_list_list, G.isy_list_tuple, G.isy_list_dict, G.isy_str_none, G.isy_str_bool, G.isy_str_int, G.isy_str_str, G.isy_str_list, G.isy_str_tuple, G.isy_str_dict, G.isy_dict_none, G.isy_dict_bool, G.isy_dict_int, G.isy_dict_str, G.isy_dict_list, G.isy_dict_tuple, G.isy_dict_dict, G.it_t, G.it_f, G.b_tt, G.b_ft, G.b_nt, G.b_nf, G.b_ta, G.b_fa, G.b_at, G.b_to, G.b_fo, G.lI_0, G.lI_1, G.lI_2, G.lI_3, G.lI_4, G.lI_5, G.lI_m, G.bs_f, G.es_f, G.bb_tt, G.bb_tf, G.bb_ft, G.bb_ff, G.bq_s, G.r_dic, G.k_dic1, G.k_dic2, G.k_dic3, G.k_dic4, G.k_kD1, G.k_kD2, G.k_fl0, G.k_fl1, G.k_pr0, G.k_pr1, G.k_pr2, G.r_dic0, G.d_ixDi, G.d_ixDs, G.d_inGT, G.d_inGL, G.d_ninGT, G.d_ninGL, G.d_inGi, G.d_ninGi, G.k_vals, G.k_items, G.d_setDi, G.dg_nil, G.dg_i, G.dg_s, G.mg_0, G.mg_s, G.dpk_n, G.ky_i, G.ky_s, G.d_eqX, G.d_neX, G.d_inT, G.d_inL, G.d_ninT, G.d_ninL, G.ev_ii, G.ev_bb, G.ev_ss, G.ev_nn, G.ev_tt, G.ev_ll, G.ev_0, G.ev_c, G.ev_c0, G.ev_0c, G.ev_none_bool, G.ev_none_int, G.ev_none_str, G.ev_none_list, G.ev_none_tuple, G.ev_bool_none, G.ev_bool_str, G.ev_bool_list, G.ev_bool_tuple, G.ev_int_none, G.ev_int_str, G.ev_int_list, G.ev_int_tuple, G.ev_str_none, G.ev_str_bool, G.ev_str_int, G.ev_str_list, G.ev_str_tuple, G.ev_list_none, G.ev_list_bool, G.ev_list_int, G.ev_list_str, G.ev_list_tuple, G.ev_tuple_none, G.ev_tuple_bool, G.ev_tuple_int, G.ev_tuple_str, G.ev_tuple_list, G.dec_t, G.not_dec, G.k_popA, G.k_popZ, G.k_pop1, G.r_ext, G.k_ext1, G.k_ext2, G.k_ext3, G.k_ext4, G.r_items, G.k_itemsJ, G.d_listD, G.d_intI, G.d_intB, G.d_strI, G.r_subG, G.k_sub1, G.k_sub2, G.k_sub3, G.k_sub4, G.k_sub5, G.k_sub6, G.k_sub7, G.r_tupL1, G.r_tupL2, G.r_tupL3, G.r_tupL4, G.d_isB, G.d_isnB, G.d_isnN, G.d_revL, G.d_revT, G.r_permA, G.k_perm1, G.k_perm2, G.k_perm3a, G.k_perm3b, G.k_perm3c, G.k_perm3d, G.k_perm3e, Int.reduceEq, Int.reduceLE, Int.reduceLT, Int.reduceAdd, Int.reduceSub, Int.reduceMul, Int.reduceNeg, Nat.reduceAdd, List.nil_append, not_true_eq_false, not_false_eq_true, and_true, true_and, and_false, false_and, or_true, true_or, or_false, false_or, decide_true, decide_false, eq_self, Bool.and_true, Bool.and_false, $ls,*])
  | `(tactic| simp? [$ls,*] at $h:ident) => `(tactic| simp (maxSteps := 1000000) (disch := first | assumption | (simp (disch := decide +kernel) only [G.sl_nil, G.sl_cons, List.cons_append, List.nil_append, G.shN_str, G.shN_tup, G.shN_lst, G.shN_int, G.shN_bool, G.shN_none, G.shA_nil, G.shA_cons, G.b_ta, G.ky_i, G.ky_s]; done) | exact G.len_ok (by simp only [G.sl_nil, G.sl_cons]) | decide | decide +kernel | exact G.mulOk_l (by decide) | exact G.mulOk_r (by decide) | omega) only [G.rb_ok, G.rb_ex, G.rb_bad, G.rb_ite, G.lz, G.ls, G.sz, G.ss, G.r_seq, G.k_seq1, G.k_seq2, G.k_seq3, G.k_seq4, G.r_nx, G.r_bk, G.r_ct, G.r_retN, G.r_ret, G.k_ret, G.r_drop, G.k_drop, G.r_if, G.r_ife, G.k_if, G.r_asg, G.k_asg1, G.k_asg2, G.k_asg3, G.k_sl1, G.k_sl2, G.k_sh1, G.k_sh2, G.k_sh3, G.k_sh4, G.k_sh5, G.r_asgG, G.k_asgG, G.k_asgL, G.k_tg, G.r_nm, G.r_tup, G.r_tup1, G.r_tup3, G.r_tup4, G.r_nil, G.r_cons, G.r_V, G.k_V1, G.k_V2, G.k_V4, G.k_V3, G.r_C, G.p_val, G.p_fr, G.p_sl, G.pb_1, G.pb_2, G.pb_3, G.od_1, G.od_2, G.p_1, G.p_2, G.p_3, G.q_1, G.q_2, G.q_3, G.re_1, G.re_2, G.re_ite, G.st_1, G.st_2, G.st_3, G.r_op2, G.k_op2a, G.k_op2b, G.k_op2c, G.r_op1, G.k_op1, G.ob_some, G.r_said, G.k_said1, G.r_opN, G.k_opN, G.r_pk0, G.r_pk1, G.k_pk, G.r_anil, G.r_acons, G.k_acons, G.k_acons2, G.shs_v0, G.shs_v1, G.shs_v2, G.shs_v3, G.shs_v4, G.om_some, G.r_tupT, G.r_lstT, G.k_dt, G.k_dl, G.k_d1, G.k_d2, G.r_fB, G.k_fB, G.r_and, G.r_or, G.r_andV, G.r_orV, G.r_not, G.r_notV, G.k_not, G.k_notV, G.r_yes, G.r_ch, G.k_ch1, G.k_ch2, G.k_ch3, G.k_ch4, G.k_ch5, G.r_call, G.c1_nil, G.c1_t, G.c1_f, G.c1_s, G.c1_s1, G.c1_s2, G.k_ca, G.k_c1, G.k_c2, G.c2_nil, G.c2_v, G.c2_s, G.c2_s1, G.c2_s3, G.c2_s2, G.k_call, G.k_w1, G.k_w2, G.k_w3, G.k_wite, G.wb_nil, G.wb_none, G.wb_some, G.k_wb1, G.k_wb2, G.wbx_nil, G.wbx_none, G.ap_nil, G.ap_nil2, G.ap_cons, G.ma_nil, G.ma_cons, G.ds_nil, G.ds_none, G.ds_some, G.me_nil, G.me_none, G.me_some, G.ou_0, G.ou_s, G.ob_val, G.ob_own, G.ob_un, G.ob_exc, G.ob_prm, G.le_0, G.le_s, G.k_rf1, G.k_rf2, G.k_rf3, G.k_rf4, G.k_rs1, G.k_rs2, G.r_set, G.k_set1, G.k_set2, G.k_set3, G.k_set4, G.k_set5, G.k_set6, G.k_set7, G.k_set8, G.k_set9, G.r_mut, G.k_mu1, G.k_mu2, G.k_mu3, G.k_mu4, G.k_mu5, G.k_mu6, G.k_mu7, G.k_app, G.k_apps, G.r_par, G.k_par1, G.k_par2, G.k_par3, G.k_par4, G.k_par5, G.r_par3, G.k_p3a, G.k_p3b, G.r_parN, G.k_pn1, G.k_pn2, G.k_nx, G.ev_nil, G.ev_cons, G.k_ev1, G.k_ev2, G.rs_nil, G.rs_val, G.rs_fr, G.rs_sl, G.k_rsS1, G.k_rsS2, G.bn_nil, G.bn_val, G.bn_fr, G.r_rep, G.k_rp1, G.k_rp2, G.k_rp3, G.ixN_last, G.set_last, G.ix_last, G.r_for, G.k_for, G.fo_nil, G.fo_cons, G.k_fo0, G.k_fo1, G.k_fo2, G.k_fo3, G.k_fo4, G.r_turn, G.k_tu0, G.k_tu1, G.k_tu2, G.k_tu3, G.k_tu4, G.r_seqI, G.k_seqI, G.k_seqI1, G.k_seqI3, G.k_seqI5, G.k_seqI6, G.k_seqI4, G.k_seqI2, G.r_rng1, G.k_rng1, G.k_rng1b, G.r_rng2, G.k_rng2, G.k_rng2b, G.rgl_0, G.rgl_1, G.rgl_2, G.rgl_3, G.rgl_4, G.rgl_5, G.rgl_6, G.rgl_7, G.rgl_8, G.rgl_9, G.rgl_10, G.rgl_12, G.rgl_16, G.r1l_1, G.r1l_2, G.r1l_3, G.r1l_4, G.r1l_5, G.r1l_6, G.r1l_8, G.rpl_0, G.rpl_1, G.rpl_2, G.rpl_3, G.rpl_4, G.rpl_5, G.rpl_6, G.rpl_7, G.rpl_8, G.r_lc, G.k_lc, G.l_nil, G.l_cons, G.l_A, G.l_B, G.l_C, G.l_C2, G.l_C3, G.l_S1, G.l_S2, G.l_D, G.k_lc1, G.wi_nil, G.wi_cons, G.mulOk_l, G.mulOk_r, G.r_sl, G.k_sla, G.k_slb, G.k_slc, G.k_sld, G.pt_n, G.pt_s, G.k_pt, G.cu_t, G.cu_l, G.cu_1n, G.cu_2n, G.cu_n1, G.d_add, G.d_addT, G.d_addTs, G.d_addL, G.d_addLs, G.d_sub, G.d_mul, G.d_fdiv, G.d_mod, G.d_neg, G.d_cmp, G.d_ixT, G.d_ixL, G.at_0, G.at_1, G.at_2, G.at_3, G.d_lenL, G.d_lenT, G.d_tupL, G.d_tupT, G.d_all, G.k_all, G.d_any, G.k_any, G.bo_nil, G.bo_cons, G.al_nil, G.al_cons, G.al_map, G.an_nil, G.an_cons, G.an_map, G.id_b, G.bo_map, G.d_max, G.d_min, G.d_listL, G.d_listT, G.d_p18, G.d_p13, G.d_p12, G.d_is, G.d_abs, G.d_repr, G.d_eqS, G.d_neS, G.d_eqI, G.d_neI, G.d_isi, G.isy_int_none, G.isy_int_bool, G.isy_int_int, G.isy_int_str, G.isy_int_list, G.isy_int_tuple, G.isy_int_dict, G.isy_bool_none, G.isy_bool_bool, G.isy_bool_int, G.isy_bool_str, G.isy_bool_list, G.isy_bool_tuple, G.isy_bool_dict, G.isy_tuple_none, G.isy_tuple_bool, G.isy_tuple_int, G.isy_tuple_str, G.isy_tuple_list, G.isy_tuple_tuple, G.isy_tuple_dict, G.isy_list_none, G.isy_list_bool, G.isy_list_int, G.isy_list_str, G.isy_list_list, G.isy_list_tuple, G.isy_list_dict, G.isy_str_none, G.isy_str_bool, G.isy_str_int, G.isy_str_str, G.isy_str_list, G.isy_str_tuple, G.isy_str_dict, G.isy_dict_none, G.isy_dict_bool, G.isy_dict_int, G.isy_dict_str, G.isy_dict_list, G.isy_dict_tuple, G.isy_dict_dict, G.it_t, G.it_f, G.b_tt, G.b_ft, G.b_nt, G.b_nf, G.b_ta, G.b_fa, G.b_at, G.b_to, G.b_fo, G.lI_0, G.lI_1, G.lI_2, G.lI_3, G.lI_4, G.lI_5, G.lI_m, G.bs_f, G.es_f, G.bb_tt, G.bb_tf, G.bb_ft, G.bb_ff, G.bq_s, G.r_dic, G.k_dic1, G.k_dic2, G.k_dic3, G.k_dic4, G.k_kD1, G.k_kD2, G.k_fl0, G.k_fl1, G.k_pr0, G.k_pr1, G.k_pr2, G.r_dic0, G.d_ixDi, G.d_ixDs, G.d_inGT, G.d_inGL, G.d_ninGT, G.d_ninGL, G.d_inGi, G.d_ninGi, G.k_vals, G.k_items, G.d_setDi, G.dg_nil, G.dg_i, G.dg_s, G.mg_0, G.mg_s, G.dpk_n, G.ky_i, G.ky_s, G.d_eqX, G.d_neX, G.d_inT, G.d_inL, G.d_ninT, G.d_ninL, G.ev_ii, G.ev_bb, G.ev_ss, G.ev_nn, G.ev_tt, G.ev_ll, G.ev_0, G.ev_c, G.ev_c0, G.ev_0c, G.ev_none_bool, G.ev_none_int, G.ev_none_str, G.ev_none_list, G.ev_none_tuple, G.ev_bool_none, G.ev_bool_str, G.ev_bool_list, G.ev_bool_tuple, G.ev_int_none, G.ev_int_str, G.ev_int_list, G.ev_int_tuple, G.ev_str_none, G.ev_str_bool, G.ev_str_int, G.ev_str_list, G.ev_str_tuple, G.ev_list_none, G.ev_list_bool, G.ev_list_int, G.ev_list_str, G.ev_list_tuple, G.ev_tuple_none, G.ev_tuple_bool, G.ev_tuple_int, G.ev_tuple_str, G.ev_tuple_list, G.dec_t, G.not_dec, G.k_popA, G.k_popZ, G.k_pop1, G.r_ext, G.k_ext1, G.k_ext2, G.k_ext3, G.k_ext4, G.r_items, G.k_itemsJ, G.d_listD, G.d_intI, G.d_intB, G.d_strI, G.r_subG, G.k_sub1, G.k_sub2, G.k_sub3, G.k_sub4, G.k_sub5, G.k_sub6, G.k_sub7, G.r_tupL1, G.r_tupL2, G.r_tupL3, G.r_tupL4, G.d_isB, G.d_isnB, G.d_isnN, G.d_revL, G.d_revT, G.r_permA, G.k_perm1, G.k_perm2, G.k_perm3a, G.k_perm3b, G.k_perm3c, G.k_perm3d, G.k_perm3e, Int.reduceEq, Int.reduceLE, Int.reduceLT, Int.reduceAdd, Int.reduceSub, Int.reduceMul, Int.reduceNeg, Nat.reduceAdd, List.nil_append, not_true_eq_false, not_false_eq_true, and_true, true_and, and_false, false_and, or_true, true_or, or_false, false_or, decide_true, decide_false, eq_self, Bool.and_true, Bool.and_false, $ls,*] at $h:ident)
/-! ### the frame of a law -/
def outerI (most : Int) : SI := rng1I (aCons (opN max2D (aCons (fC (.int 1)) (aCons (opN min2D (aCons (opN lenD (aCons (fV 0) aNil)) (aCons (fC (.int most)) aNil))) aNil))) aNil)
theorem outerI_ok {ns : List Int} {bs : List B} (most : Nat) (h1 : 1 ≤ most) (h2 : most ≤ 100) : ∃ m : Nat, m ≤ most ∧ outerI most (.val (.list (ns.map PyData.int)) :: bs) = .ok ((List.range m).map fun i : Nat => PyData.int (0 + i), .val (.list (ns.map PyData.int)) :: bs) := by
  have key : ∃ m : Nat, m ≤ most ∧ (if (if (most : Int) < (ns.length : Int) then (most : Int) else (ns.length : Int)) > 1 then (if (most : Int) < (ns.length : Int) then (most : Int) else (ns.length : Int)) else 1) = (m : Int) := by
    by_cases h : (most : Int) < (ns.length : Int)
    · by_cases h2 : (most : Int) > 1
      · exact ⟨most, Nat.le_refl _, by rw [if_pos h, if_pos h2]⟩
      · exact ⟨1, h1, by rw [if_pos h, if_neg h2]; rfl⟩
    · by_cases h2 : (ns.length : Int) > 1
      · exact ⟨ns.length, by omega, by rw [if_neg h, if_pos h2]⟩
      · exact ⟨1, h1, by rw [if_neg h, if_neg h2]; rfl⟩
  obtain ⟨m, hm, em⟩ := key
  refine ⟨m, hm, ?_⟩
  have hr : rngOk (m : Int) = true := rngOk_nat (by omega)
  unfold outerI
  simp? [em, Int.toNat_natCast]
/-! ### repr -/
theorem rep_cons {x : PyData} {xs : List PyData} : PyData.showableAll (x :: xs) = (PyData.showable x && PyData.showableAll xs) := rfl
theorem rep_int {i : Int} (h : i.natAbs < 2 ^ 64) : PyData.showable (.int i) = true := by
  have l1 : ∀ n : Nat, n < 2 ^ 64 → n.log2 < 64 := fun n h => by
    by_cases h0 : n = 0
    · subst h0; decide
    · exact (Nat.log2_lt h0).mpr h
  have := l1 _ h
  unfold PyData.showable
  exact decide_eq_true (by omega)
end M
namespace M
open PySem PySem.Spec PyProof.Rows L2 G
local macro_rules
  | `(tactic| simp? [$ls,*]) => `(tactic| simp (maxSteps := 1000000) (disch := first | assumption | (simp (disch := decide +kernel) only [G.sl_nil, G.sl_cons, List.cons_append, List.nil_append, G.shN_str, G.shN_tup, G.shN_lst, G.shN_int, G.shN_bool, G.shN_none, G.shA_nil, G.shA_cons, G.b_ta, G.ky_i, G.ky_s]; done) | exact G.len_ok (by simp only [G.sl_nil, G.sl_cons]) | decide | decide +kernel | exact G.mulOk_l (by decide) | exact G.mulOk_r (by decide) | omega) only [G.rb_ok, G.rb_ex, G.rb_bad, G.rb_ite, G.lz, G.ls, G.sz, G.ss, G.r_seq, G.k_seq1, G.k_seq2, G.k_seq3, G.k_seq4, G.r_nx, G.r_bk, G.r_ct, G.r_retN, G.r_ret, G.k_ret, G.r_drop, G.k_drop, G.r_if, G.r_ife, G.k_if, G.r_asg, G.k_asg1, G.k_asg2, G.k_asg3, G.k_sl1, G.k_sl2, G.k_sh1, G.k_sh2, G.k_sh3, G.k_sh4, G.k_sh5, G.r_asgG, G.k_asgG, G.k_asgL, G.k_tg, G.r_nm, G.r_tup, G.r_tup1, G.r_tup3, G.r_tup4, G.r_nil, G.r_cons, G.r_V, G.k_V1, G.k_V2, G.k_V4, G.k_V3, G.r_C, G.p_val, G.p_fr, G.p_sl, G.pb_1, G.pb_2, G.pb_3, G.od_1, G.od_2, G.p_1, G.p_2, G.p_3, G.q_1, G.q_2, G.q_3, G.re_1, G.re_2, G.re_ite, G.st_1, G.st_2, G.st_3, G.r_op2, G.k_op2a, G.k_op2b, G.k_op2c, G.r_op1, G.k_op1, G.ob_some, G.r_said, G.k_said1, G.r_opN, G.k_opN, G.r_pk0, G.r_pk1, G.k_pk, G.r_anil, G.r_acons, G.k_acons, G.k_acons2, G.shs_v0, G.shs_v1, G.shs_v2, G.shs_v3, G.shs_v4, G.om_some, G.r_tupT, G.r_lstT, G.k_dt, G.k_dl, G.k_d1, G.k_d2, G.r_fB, G.k_fB, G.r_and, G.r_or, G.r_andV, G.r_orV, G.r_not, G.r_notV, G.k_not, G.k_notV, G.r_yes, G.r_ch, G.k_ch1, G.k_ch2, G.k_ch3, G.k_ch4, G.k_ch5, G.r_call, G.c1_nil, G.c1_t, G.c1_f, G.c1_s, G.c1_s1, G.c1_s2, G.k_ca, G.k_c1, G.k_c2, G.c2_nil, G.c2_v, G.c2_s, G.c2_s1, G.c2_s3, G.c2_s2, G.k_call, G.k_w1, G.k_w2, G.k_w3, G.k_wite, G.wb_nil, G.wb_none, G.wb_some, G.k_wb1, G.k_wb2, G.wbx_nil, G.wbx_none, G.ap_nil, G.ap_nil2, G.ap_cons, G.ma_nil, G.ma_cons, G.ds_nil, G.ds_none, G.ds_some, G.me_nil, G.me_none, G.me_some, G.ou_0, G.ou_s, G.ob_val, G.ob_own, G.ob_un, G.ob_exc, G.ob_prm, G.le_0, G.le_s, G.k_rf1, G.k_rf2, G.k_rf3, G.k_rf4, G.k_rs1, G.k_rs2, G.r_set, G.k_set1, G.k_set2, G.k_set3, G.k_set4, G.k_set5, G.k_set6, G.k_set7, G.k_set8, G.k_set9, G.r_mut, G.k_mu1, G.k_mu2, G.k_mu3, G.k_mu4, G.k_mu5, G.k_mu6, G.k_mu7, G.k_app, G.k_apps, G.r_par, G.k_par1, G.k_par2, G.k_par3, G.k_par4, G.k_par5, G.r_par3, G.k_p3a, G.k_p3b, G.r_parN, G.k_pn1, G.k_pn2, G.k_nx, G.ev_nil, G.ev_cons, G.k_ev1, G.k_ev2, G.rs_nil, G.rs_val, G.rs_fr, G.rs_sl, G.k_rsS1, G.k_rsS2, G.bn_nil, G.bn_val, G.bn_fr, G.r_rep, G.k_rp1, G.k_rp2, G.k_rp3, G.ixN_last, G.set_last, G.ix_last, G.r_for, G.k_for, G.fo_nil, G.fo_cons, G.k_fo0, G.k_fo1, G.k_fo2, G.k_fo3, G.k_fo4, G.r_turn, G.k_tu0, G.k_tu1, G.k_tu2, G.k_tu3, G.k_tu4, G.r_seqI, G.k_seqI, G.k_seqI1, G.k_seqI3, G.k_seqI5, G.k_seqI6, G.k_seqI4, G.k_seqI2, G.r_rng1, G.k_rng1, G.k_rng1b, G.r_rng2, G.k_rng2, G.k_rng2b, G.rgl_0, G.rgl_1, G.rgl_2, G.rgl_3, G.rgl_4, G.rgl_5, G.rgl_6, G.rgl_7, G.rgl_8, G.rgl_9, G.rgl_10, G.rgl_12, G.rgl_16, G.r1l_1, G.r1l_2, G.r1l_3, G.r1l_4, G.r1l_5, G.r1l_6, G.r1l_8, G.rpl_0, G.rpl_1, G.rpl_2, G.rpl_3, G.rpl_4, G.rpl_5, G.rpl_6, G.rpl_7, G.rpl_8, G.r_lc, G.k_lc, G.l_nil, G.l_cons, G.l_A, G.l_B, G.l_C, G.l_C2, G.l_C3, G.l_S1, G.l_S2, G.l_D, G.k_lc1, G.wi_nil, G.wi_cons, G.mulOk_l, G.mulOk_r, G.r_sl, G.k_sla, G.k_slb, G.k_slc, G.k_sld, G.pt_n, G.pt_s, G.k_pt, G.cu_t, G.cu_l, G.cu_1n, G.cu_2n, G.cu_n1, G.d_add, G.d_addT, G.d_addTs, G.d_addL, G.d_addLs, G.d_sub, G.d_mul, G.d_fdiv, G.d_mod, G.d_neg, G.d_cmp, G.d_ixT, G.d_ixL, G.at_0, G.at_1, G.at_2, G.at_3, G.d_lenL, G.d_lenT, G.d_tupL, G.d_tupT, G.d_all, G.k_all, G.d_any, G.k_any, G.bo_nil, G.bo_cons, G.al_nil, G.al_cons, G.al_map, G.an_nil, G.an_cons, G.an_map, G.id_b, G.bo_map, G.d_max, G.d_min, G.d_listL, G.d_listT, G.d_p18, G.d_p13, G.d_p12, G.d_is, G.d_abs, G.d_repr, G.d_eqS, G.d_neS, G.d_eqI, G.d_neI, G.d_isi, G.isy_int_none, G.isy_int_bool, G.isy_int_int, G.isy_int_str, G.isy_int_list, G.isy_int_tuple, G.isy_int_dict, G.isy_bool_none, G.isy_bool_bool, G.isy_bool_int, G.isy_bool_str, G.isy_bool_list, G.isy_bool_tuple, G.isy_bool_dict, G.isy_tuple_none, G.isy_tuple_bool, G.isy_tuple_int, G.isy_tuple_str, G.isy_tuple_list, G.isy_tuple_tuple, G.isy_tuple_dict, G.isy_list_none, G.isy_list_bool, G.isy_list_int, G.isy_list_str, G.isy_list_list, G.isy_list_tuple, G.isy_list_dict, G.isy_str_none, G.isy_str_bool, G.isy_str_int, G.isy_str_str, G.isy_str_list, G.isy_str_tuple, G.isy_str_dict, G.isy_dict_none, G.isy_dict_bool, G.isy_dict_int, G.isy_dict_str, G.isy_dict_list, G.isy_dict_tuple, G.isy_dict_dict, G.it_t, G.it_f, G.b_tt, G.b_ft, G.b_nt, G.b_nf, G.b_ta, G.b_fa, G.b_at, G.b_to, G.b_fo, G.lI_0, G.lI_1, G.lI_2, G.lI_3, G.lI_4, G.lI_5, G.lI_m, G.bs_f, G.es_f, G.bb_tt, G.bb_tf, G.bb_ft, G.bb_ff, G.bq_s, G.r_dic, G.k_dic1, G.k_dic2, G.k_dic3, G.k_dic4, G.k_kD1, G.k_kD2, G.k_fl0, G.k_fl1, G.k_pr0, G.k_pr1, G.k_pr2, G.r_dic0, G.d_ixDi, G.d_ixDs, G.d_inGT, G.d_inGL, G.d_ninGT, G.d_ninGL, G.d_inGi, G.d_ninGi, G.k_vals, G.k_items, G.d_setDi, G.dg_nil, G.dg_i, G.dg_s, G.mg_0, G.mg_s, G.dpk_n, G.ky_i, G.ky_s, G.d_eqX, G.d_neX, G.d_inT, G.d_inL, G.d_ninT, G.d_ninL, G.ev_ii, G.ev_bb, G.ev_ss, G.ev_nn, G.ev_tt, G.ev_ll, G.ev_0, G.ev_c, G.ev_c0, G.ev_0c, G.ev_none_bool, G.ev_none_int, G.ev_none_str, G.ev_none_list, G.ev_none_tuple, G.ev_bool_none, G.ev_bool_str, G.ev_bool_list, G.ev_bool_tuple, G.ev_int_none, G.ev_int_str, G.ev_int_list, G.ev_int_tuple, G.ev_str_none, G.ev_str_bool, G.ev_str_int, G.ev_str_list, G.ev_str_tuple, G.ev_list_none, G.ev_list_bool, G.ev_list_int, G.ev_list_str, G.ev_list_tuple, G.ev_tuple_none, G.ev_tuple_bool, G.ev_tuple_int, G.ev_tuple_str, G.ev_tuple_list, G.dec_t, G.not_dec, G.k_popA, G.k_popZ, G.k_pop1, G.r_ext, G.k_ext1, G.k_ext2, G.k_ext3, G.k_ext4, G.r_items, G.k_itemsJ, G.d_listD, G.d_intI, G.d_intB, G.d_strI, G.r_subG, G.k_sub1, G.k_sub2, G.k_sub3, G.k_sub4, G.k_sub5, G.k_sub6, G.k_sub7, G.r_tupL1, G.r_tupL2, G.r_tupL3, G.r_tupL4, G.d_isB, G.d_isnB, G.d_isnN, G.d_revL, G.d_revT, G.r_permA, G.k_perm1, G.k_perm2, G.k_perm3a, G.k_perm3b, G.k_perm3c, G.k_perm3d, G.k_perm3e, Int.reduceEq, Int.reduceLE, Int.reduceLT, Int.reduceAdd, Int.reduceSub, Int.reduceMul, Int.reduceNeg, Nat.reduceAdd, List.nil_append, not_true_eq_false, not_false_eq_true, and_true, true_and, and_false, false_and, or_true, true_or, or_false, false_or, decide_true, decide_false, eq_self, Bool.and_true, Bool.and_false, $ls,*])
  | `(tactic| simp? [$ls,*] at $h:ident) => `(tactic| simp (maxSteps := 1000000) (disch := first | assumption | (simp (disch := decide +kernel) only [G.sl_nil, G.sl_cons, List.cons_append, List.nil_append, G.shN_str, G.shN_tup, G.shN_lst, G.shN_int, G.shN_bool, G.shN_none, G.shA_nil, G.shA_cons, G.b_ta, G.ky_i, G.ky_s]; done) | exact G.len_ok (by simp only [G.sl_nil, G.sl_cons]) | decide | decide +kernel | exact G.mulOk_l (by decide) | exact G.mulOk_r (by decide) | omega) only [G.rb_ok, G.rb_ex, G.rb_bad, G.rb_ite, G.lz, G.ls, G.sz, G.ss, G.r_seq, G.k_seq1, G.k_seq2, G.k_seq3, G.k_seq4, G.r_nx, G.r_bk, G.r_ct, G.r_retN, G.r_ret, G.k_ret, G.r_drop, G.k_drop, G.r_if, G.r_ife, G.k_if, G.r_asg, G.k_asg1, G.k_asg2, G.k_asg3, G.k_sl1, G.k_sl2, G.k_sh1, G.k_sh2, G.k_sh3, G.k_sh4, G.k_sh5, G.r_asgG, G.k_asgG, G.k_asgL, G.k_tg, G.r_nm, G.r_tup, G.r_tup1, G.r_tup3, G.r_tup4, G.r_nil, G.r_cons, G.r_V, G.k_V1, G.k_V2, G.k_V4, G.k_V3, G.r_C, G.p_val, G.p_fr, G.p_sl, G.pb_1, G.pb_2, G.pb_3, G.od_1, G.od_2, G.p_1, G.p_2, G.p_3, G.q_1, G.q_2, G.q_3, G.re_1, G.re_2, G.re_ite, G.st_1, G.st_2, G.st_3, G.r_op2, G.k_op2a, G.k_op2b, G.k_op2c, G.r_op1, G.k_op1, G.ob_some, G.r_said, G.k_said1, G.r_opN, G.k_opN, G.r_pk0, G.r_pk1, G.k_pk, G.r_anil, G.r_acons, G.k_acons, G.k_acons2, G.shs_v0, G.shs_v1, G.shs_v2, G.shs_v3, G.shs_v4, G.om_some, G.r_tupT, G.r_lstT, G.k_dt, G.k_dl, G.k_d1, G.k_d2, G.r_fB, G.k_fB, G.r_and, G.r_or, G.r_andV, G.r_orV, G.r_not, G.r_notV, G.k_not, G.k_notV, G.r_yes, G.r_ch, G.k_ch1, G.k_ch2, G.k_ch3, G.k_ch4, G.k_ch5, G.r_call, G.c1_nil, G.c1_t, G.c1_f, G.c1_s, G.c1_s1, G.c1_s2, G.k_ca, G.k_c1, G.k_c2, G.c2_nil, G.c2_v, G.c2_s, G.c2_s1, G.c2_s3, G.c2_s2, G.k_call, G.k_w1, G.k_w2, G.k_w3, G.k_wite, G.wb_nil, G.wb_none, G.wb_some, G.k_wb1, G.k_wb2, G.wbx_nil, G.wbx_none, G.ap_nil, G.ap_nil2, G.ap_cons, G.ma_nil, G.ma_cons, G.ds_nil, G.ds_none, G.ds_some, G.me_nil, G.me_none, G.me_some, G.ou_0, G.ou_s, G.ob_val, G.ob_own, G.ob_un, G.ob_exc, G.ob_prm, G.le_0, G.le_s, G.k_rf1, G.k_rf2, G.k_rf3, G.k_rf4, G.k_rs1, G.k_rs2, G.r_set, G.k_set1, G.k_set2, G.k_set3, G.k_set4, G.k_set5, G.k_set6, G.k_set7, G.k_set8, G.k_set9, G.r_mut, G.k_mu1, G.k_mu2, G.k_mu3, G.k_mu4, G.k_mu5, G.k_mu6, G.k_mu7, G.k_app, G.k_apps, G.r_par, G.k_par1, G.k_par2, G.k_par3, G.k_par4, G.k_par5, G.r_par3, G.k_p3a, G.k_p3b, G.r_parN, G.k_pn1, G.k_pn2, G.k_nx, G.ev_nil, G.ev_cons, G.k_ev1, G.k_ev2, G.rs_nil, G.rs_val, G.rs_fr, G.rs_sl, G.k_rsS1, G.k_rsS2, G.bn_nil, G.bn_val, G.bn_fr, G.r_rep, G.k_rp1, G.k_rp2, G.k_rp3, G.ixN_last, G.set_last, G.ix_last, G.r_for, G.k_for, G.fo_nil, G.fo_cons, G.k_fo0, G.k_fo1, G.k_fo2, G.k_fo3, G.k_fo4, G.r_turn, G.k_tu0, G.k_tu1, G.k_tu2, G.k_tu3, G.k_tu4, G.r_seqI, G.k_seqI, G.k_seqI1, G.k_seqI3, G.k_seqI5, G.k_seqI6, G.k_seqI4, G.k_seqI2, G.r_rng1, G.k_rng1, G.k_rng1b, G.r_rng2, G.k_rng2, G.k_rng2b, G.rgl_0, G.rgl_1, G.rgl_2, G.rgl_3, G.rgl_4, G.rgl_5, G.rgl_6, G.rgl_7, G.rgl_8, G.rgl_9, G.rgl_10, G.rgl_12, G.rgl_16, G.r1l_1, G.r1l_2, G.r1l_3, G.r1l_4, G.r1l_5, G.r1l_6, G.r1l_8, G.rpl_0, G.rpl_1, G.rpl_2, G.rpl_3, G.rpl_4, G.rpl_5, G.rpl_6, G.rpl_7, G.rpl_8, G.r_lc, G.k_lc, G.l_nil, G.l_cons, G.l_A, G.l_B, G.l_C, G.l_C2, G.l_C3, G.l_S1, G.l_S2, G.l_D, G.k_lc1, G.wi_nil, G.wi_cons, G.mulOk_l, G.mulOk_r, G.r_sl, G.k_sla, G.k_slb, G.k_slc, G.k_sld, G.pt_n, G.pt_s, G.k_pt, G.cu_t, G.cu_l, G.cu_1n, G.cu_2n, G.cu_n1, G.d_add, G.d_addT, G.d_addTs, G.d_addL, G.d_addLs, G.d_sub, G.d_mul, G.d_fdiv, G.d_mod, G.d_neg, G.d_cmp, G.d_ixT, G.d_ixL, G.at_0, G.at_1, G.at_2, G.at_3, G.d_lenL, G.d_lenT, G.d_tupL, G.d_tupT, G.d_all, G.k_all, G.d_any, G.k_any, G.bo_nil, G.bo_cons, G.al_nil, G.al_cons, G.al_map, G.an_nil, G.an_cons, G.an_map, G.id_b, G.bo_map, G.d_max, G.d_min, G.d_listL, G.d_listT, G.d_p18, G.d_p13, G.d_p12, G.d_is, G.d_abs, G.d_repr, G.d_eqS, G.d_neS, G.d_eqI, G.d_neI, G.d_isi, G.isy_int_none, G.isy_int_bool, G.isy_int_int, G.isy_int_str, G.isy_int_list, G.isy_int_tuple, G.isy_int_dict, G.isy_bool_none, G.isy_bool_bool, G.isy_bool_int, G.isy_bool_str, G.isy_bool_list, G.isy_bool_tuple, G.isy_bool_dict, G.isy_tuple_none, G.isy_tuple_bool, G.isy_tuple_int, G.isy_tuple_str, G.isy_tuple_list, G.isy_tuple_tuple, G.isy_tuple_dict, G.isy_list_none, G.isy_list_bool, G.isy_list_int, G.isy_list_str, G.isy_list_list, G.isy_list_tuple, G.isy_list_dict, G.isy_str_none, G.isy_str_bool, G.isy_str_int, G.isy_str_str, G.isy_str_list, G.isy_str_tuple, G.isy_str_dict, G.isy_dict_none, G.isy_dict_bool, G.isy_dict_int, G.isy_dict_str, G.isy_dict_list, G.isy_dict_tuple, G.isy_dict_dict, G.it_t, G.it_f, G.b_tt, G.b_ft, G.b_nt, G.b_nf, G.b_ta, G.b_fa, G.b_at, G.b_to, G.b_fo, G.lI_0, G.lI_1, G.lI_2, G.lI_3, G.lI_4, G.lI_5, G.lI_m, G.bs_f, G.es_f, G.bb_tt, G.bb_tf, G.bb_ft, G.bb_ff, G.bq_s, G.r_dic, G.k_dic1, G.k_dic2, G.k_dic3, G.k_dic4, G.k_kD1, G.k_kD2, G.k_fl0, G.k_fl1, G.k_pr0, G.k_pr1, G.k_pr2, G.r_dic0, G.d_ixDi, G.d_ixDs, G.d_inGT, G.d_inGL, G.d_ninGT, G.d_ninGL, G.d_inGi, G.d_ninGi, G.k_vals, G.k_items, G.d_setDi, G.dg_nil, G.dg_i, G.dg_s, G.mg_0, G.mg_s, G.dpk_n, G.ky_i, G.ky_s, G.d_eqX, G.d_neX, G.d_inT, G.d_inL, G.d_ninT, G.d_ninL, G.ev_ii, G.ev_bb, G.ev_ss, G.ev_nn, G.ev_tt, G.ev_ll, G.ev_0, G.ev_c, G.ev_c0, G.ev_0c, G.ev_none_bool, G.ev_none_int, G.ev_none_str, G.ev_none_list, G.ev_none_tuple, G.ev_bool_none, G.ev_bool_str, G.ev_bool_list, G.ev_bool_tuple, G.ev_int_none, G.ev_int_str, G.ev_int_list, G.ev_int_tuple, G.ev_str_none, G.ev_str_bool, G.ev_str_int, G.ev_str_list, G.ev_str_tuple, G.ev_list_none, G.ev_list_bool, G.ev_list_int, G.ev_list_str, G.ev_list_tuple, G.ev_tuple_none, G.ev_tuple_bool, G.ev_tuple_int, G.ev_tuple_str, G.ev_tuple_list, G.dec_t, G.not_dec, G.k_popA, G.k_popZ, G.k_pop1, G.r_ext, G.k_ext1, G.k_ext2, G.k_ext3, G.k_ext4, G.r_items, G.k_itemsJ, G.d_listD, G.d_intI, G.d_intB, G.d_strI, G.r_subG, G.k_sub1, G.k_sub2, G.k_sub3, G.k_sub4, G.k_sub5, G.k_sub6, G.k_sub7, G.r_tupL1, G.r_tupL2, G.r_tupL3, G.r_tupL4, G.d_isB, G.d_isnB, G.d_isnN, G.d_revL, G.d_revT, G.r_permA, G.k_perm1, G.k_perm2, G.k_perm3a, G.k_perm3b, G.k_perm3c, G.k_perm3d, G.k_perm3e, Int.reduceEq, Int.reduceLE, Int.reduceLT, Int.reduceAdd, Int.reduceSub, Int.reduceMul, Int.reduceNeg, Nat.reduceAdd, List.nil_append, not_true_eq_false, not_false_eq_true, and_true, true_and, and_false, false_and, or_true, true_or, or_false, false_or, decide_true, decide_false, eq_self, Bool.and_true, Bool.and_false, $ls,*] at $h:ident)
/-! ### lists drawn by turns -/
/-! ### generators drawn -/
def Sym.Far (far : Int) (s : Sym) : Prop := s.x.natAbs ≤ far.natAbs ∧ s.y.natAbs ≤ far.natAbs
/-! ### generators checked, carried -/
theorem is_generators_ok {gens : List Sym} (hl : gens.length ≤ 6) : F_is_generators [.val (.tuple (gens.map Sym.d))] = .ok (.val (.bool true), [.un]) := by
  have lc : ∀ b0 : B, lcL (nmG 1) yesB (callF [false] F_is_symmetry [] (aCons (fV 1) aNil)) [1] 0 (gens.map Sym.d) [b0, .un] = some (gens.map fun _ => PyData.bool true, [b0, .un]) := fun b0 => lc_map (fun _ => PyData.bool true) (fun g hg => by simp? [is_symmetry_ok]) (Nat.le_of_lt (lt_line (by omega)))
  have hb : (gens.all fun _ => true) = true := by simp
  have hl' : (gens.length : Int) ≤ 6 := by omega
  rw [r_is_generators]
  unfold B_is_generators
  simp? [lc, hl', hb]
theorem need_generators_ok {gens : List Sym} (hl : gens.length ≤ 6) : F_need_generators [.val (.tuple (gens.map Sym.d))] = .ok (.val .none, [.un]) := by
  rw [r_need_generators]
  unfold B_need_generators
  simp? [is_generators_ok hl]
end M
namespace M
open PySem PySem.Spec PyProof.Rows L2 G
/-! ### data that repr shows -/
structure RP (n z : Nat) (d : PyData) : Prop where
  sh : d.showable = true
  dp : d.depth ≤ n
  sz : szD d ≤ z
theorem RP.mono {n z n' z' : Nat} {d : PyData} (h : RP n z d) (hn : n ≤ n') (hz : z ≤ z') : RP n' z' d := ⟨h.sh, Nat.le_trans h.dp hn, Nat.le_trans h.sz hz⟩
theorem RP.int {i : Int} (h : i.natAbs < 2 ^ 64) : RP 0 1921 (.int i) := ⟨rep_int h, by simp [PyData.depth], by simp [szD]⟩
theorem RP.bool {b : Bool} : RP 0 1921 (.bool b) := ⟨rfl, by simp [PyData.depth], by simp [szD]⟩
theorem RP.none : RP 0 1921 .none := ⟨rfl, by simp [PyData.depth], by simp [szD]⟩
theorem RP.all {n z : Nat} : ∀ {xs : List PyData}, (∀ x ∈ xs, RP n z x) → PyData.showableAll xs = true ∧ PyData.depthAll xs ≤ n ∧ szAll xs ≤ xs.length * (z + 2)
  | [], _ => ⟨rfl, by simp [PyData.depthAll], by simp [szAll]⟩
  | x :: xs, h => by
    obtain ⟨a, b, c⟩ := h x (List.mem_cons_self ..)
    obtain ⟨a', b', c'⟩ := RP.all (xs := xs) fun y hy => h y (List.mem_cons_of_mem _ hy)
    refine ⟨by rw [rep_cons, a, a']; rfl, ?_, ?_⟩
    · rw [show PyData.depthAll (x :: xs) = max x.depth (PyData.depthAll xs) by simp [PyData.depthAll]]
      omega
    · rw [show szAll (x :: xs) = szD x + 2 + szAll xs by simp [szAll], List.length_cons, Nat.succ_mul]
      omega
theorem RP.tup {n z : Nat} {xs : List PyData} (h : ∀ x ∈ xs, RP n z x) : RP (n + 1) (xs.length * (z + 2) + 4) (.tuple xs) := by
  obtain ⟨a, b, c⟩ := RP.all h
  refine ⟨a, ?_, ?_⟩
  · rw [show PyData.depth (.tuple xs) = PyData.depthAll xs + 1 by simp [PyData.depth]]; omega
  · rw [show szD (.tuple xs) = szAll xs + 4 by simp [szD]]; omega
theorem RP.lst {n z : Nat} {xs : List PyData} (h : ∀ x ∈ xs, RP n z x) : RP (n + 1) (xs.length * (z + 2) + 4) (.list xs) := by
  obtain ⟨a, b, c⟩ := RP.all h
  refine ⟨a, ?_, ?_⟩
  · rw [show PyData.depth (.list xs) = PyData.depthAll xs + 1 by simp [PyData.depth]]; omega
  · rw [show szD (.list xs) = szAll xs + 4 by simp [szD]]; omega
theorem RP.ok {n z : Nat} {d : PyData} (h : RP n z d) (hn : n ≤ 64) (hz : z ≤ 16000000) : reprOk d = true := by
  unfold reprOk
  rw [h.sh, decide_eq_true (Nat.le_trans h.sz hz), decide_eq_true (Nat.le_trans h.dp hn)]
  rfl
theorem mem2 {P : PyData → Prop} {a b : PyData} (ha : P a) (hb : P b) : ∀ x ∈ [a, b], P x := by
  intro x hx
  simp only [List.mem_cons, List.not_mem_nil, or_false] at hx
  rcases hx with rfl | rfl <;> assumption
theorem RP.sq {x y : Int} (hx : x.natAbs < 2 ^ 64) (hy : y.natAbs < 2 ^ 64) : RP 1 6000 (SQ x y) := (RP.tup (mem2 (RP.int hx) (RP.int hy))).mono (by decide) (by simp)
theorem Sym.Far.lt {far : Int} {s : Sym} (h : s.Far far) (hf : far.natAbs < 2 ^ 40) : s.x.natAbs < 2 ^ 64 ∧ s.y.natAbs < 2 ^ 64 := by
  obtain ⟨a, b⟩ := h
  omega
theorem Sym.Far.sum {far : Int} {s : Sym} (h : s.Far far) : s.x.natAbs + s.y.natAbs ≤ 2 * far.natAbs := by
  obtain ⟨a, b⟩ := h
  omega
end M
namespace M
open PySem PySem.Spec PyProof.Rows L2 G
local macro_rules
  | `(tactic| simp? [$ls,*]) => `(tactic| simp (maxSteps := 1000000) (disch := first | assumption | (simp (disch := decide +kernel) only [G.sl_nil, G.sl_cons, List.cons_append, List.nil_append, G.shN_str, G.shN_tup, G.shN_lst, G.shN_int, G.shN_bool, G.shN_none, G.shA_nil, G.shA_cons, G.b_ta, G.ky_i, G.ky_s]; done) | exact G.len_ok (by simp only [G.sl_nil, G.sl_cons]) | decide | decide +kernel | exact G.mulOk_l (by decide) | exact G.mulOk_r (by decide) | omega) only [G.rb_ok, G.rb_ex, G.rb_bad, G.rb_ite, G.lz, G.ls, G.sz, G.ss, G.r_seq, G.k_seq1, G.k_seq2, G.k_seq3, G.k_seq4, G.r_nx, G.r_bk, G.r_ct, G.r_retN, G.r_ret, G.k_ret, G.r_drop, G.k_drop, G.r_if, G.r_ife, G.k_if, G.r_asg, G.k_asg1, G.k_asg2, G.k_asg3, G.k_sl1, G.k_sl2, G.k_sh1, G.k_sh2, G.k_sh3, G.k_sh4, G.k_sh5, G.r_asgG, G.k_asgG, G.k_asgL, G.k_tg, G.r_nm, G.r_tup, G.r_tup1, G.r_tup3, G.r_tup4, G.r_nil, G.r_cons, G.r_V, G.k_V1, G.k_V2, G.k_V4, G.k_V3, G.r_C, G.p_val, G.p_fr, G.p_sl, G.pb_1, G.pb_2, G.pb_3, G.od_1, G.od_2, G.p_1, G.p_2, G.p_3, G.q_1, G.q_2, G.q_3, G.re_1, G.re_2, G.re_ite, G.st_1, G.st_2, G.st_3, G.r_op2, G.k_op2a, G.k_op2b, G.k_op2c, G.r_op1, G.k_op1, G.ob_some, G.r_said, G.k_said1, G.r_opN, G.k_opN, G.r_pk0, G.r_pk1, G.k_pk, G.r_anil, G.r_acons, G.k_acons, G.k_acons2, G.shs_v0, G.shs_v1, G.shs_v2, G.shs_v3, G.shs_v4, G.om_some, G.r_tupT, G.r_lstT, G.k_dt, G.k_dl, G.k_d1, G.k_d2, G.r_fB, G.k_fB, G.r_and, G.r_or, G.r_andV, G.r_orV, G.r_not, G.r_notV, G.k_not, G.k_notV, G.r_yes, G.r_ch, G.k_ch1, G.k_ch2, G.k_ch3, G.k_ch4, G.k_ch5, G.r_call, G.c1_nil, G.c1_t, G.c1_f, G.c1_s, G.c1_s1, G.c1_s2, G.k_ca, G.k_c1, G.k_c2, G.c2_nil, G.c2_v, G.c2_s, G.c2_s1, G.c2_s3, G.c2_s2, G.k_call, G.k_w1, G.k_w2, G.k_w3, G.k_wite, G.wb_nil, G.wb_none, G.wb_some, G.k_wb1, G.k_wb2, G.wbx_nil, G.wbx_none, G.ap_nil, G.ap_nil2, G.ap_cons, G.ma_nil, G.ma_cons, G.ds_nil, G.ds_none, G.ds_some, G.me_nil, G.me_none, G.me_some, G.ou_0, G.ou_s, G.ob_val, G.ob_own, G.ob_un, G.ob_exc, G.ob_prm, G.le_0, G.le_s, G.k_rf1, G.k_rf2, G.k_rf3, G.k_rf4, G.k_rs1, G.k_rs2, G.r_set, G.k_set1, G.k_set2, G.k_set3, G.k_set4, G.k_set5, G.k_set6, G.k_set7, G.k_set8, G.k_set9, G.r_mut, G.k_mu1, G.k_mu2, G.k_mu3, G.k_mu4, G.k_mu5, G.k_mu6, G.k_mu7, G.k_app, G.k_apps, G.r_par, G.k_par1, G.k_par2, G.k_par3, G.k_par4, G.k_par5, G.r_par3, G.k_p3a, G.k_p3b, G.r_parN, G.k_pn1, G.k_pn2, G.k_nx, G.ev_nil, G.ev_cons, G.k_ev1, G.k_ev2, G.rs_nil, G.rs_val, G.rs_fr, G.rs_sl, G.k_rsS1, G.k_rsS2, G.bn_nil, G.bn_val, G.bn_fr, G.r_rep, G.k_rp1, G.k_rp2, G.k_rp3, G.ixN_last, G.set_last, G.ix_last, G.r_for, G.k_for, G.fo_nil, G.fo_cons, G.k_fo0, G.k_fo1, G.k_fo2, G.k_fo3, G.k_fo4, G.r_turn, G.k_tu0, G.k_tu1, G.k_tu2, G.k_tu3, G.k_tu4, G.r_seqI, G.k_seqI, G.k_seqI1, G.k_seqI3, G.k_seqI5, G.k_seqI6, G.k_seqI4, G.k_seqI2, G.r_rng1, G.k_rng1, G.k_rng1b, G.r_rng2, G.k_rng2, G.k_rng2b, G.rgl_0, G.rgl_1, G.rgl_2, G.rgl_3, G.rgl_4, G.rgl_5, G.rgl_6, G.rgl_7, G.rgl_8, G.rgl_9, G.rgl_10, G.rgl_12, G.rgl_16, G.r1l_1, G.r1l_2, G.r1l_3, G.r1l_4, G.r1l_5, G.r1l_6, G.r1l_8, G.rpl_0, G.rpl_1, G.rpl_2, G.rpl_3, G.rpl_4, G.rpl_5, G.rpl_6, G.rpl_7, G.rpl_8, G.r_lc, G.k_lc, G.l_nil, G.l_cons, G.l_A, G.l_B, G.l_C, G.l_C2, G.l_C3, G.l_S1, G.l_S2, G.l_D, G.k_lc1, G.wi_nil, G.wi_cons, G.mulOk_l, G.mulOk_r, G.r_sl, G.k_sla, G.k_slb, G.k_slc, G.k_sld, G.pt_n, G.pt_s, G.k_pt, G.cu_t, G.cu_l, G.cu_1n, G.cu_2n, G.cu_n1, G.d_add, G.d_addT, G.d_addTs, G.d_addL, G.d_addLs, G.d_sub, G.d_mul, G.d_fdiv, G.d_mod, G.d_neg, G.d_cmp, G.d_ixT, G.d_ixL, G.at_0, G.at_1, G.at_2, G.at_3, G.d_lenL, G.d_lenT, G.d_tupL, G.d_tupT, G.d_all, G.k_all, G.d_any, G.k_any, G.bo_nil, G.bo_cons, G.al_nil, G.al_cons, G.al_map, G.an_nil, G.an_cons, G.an_map, G.id_b, G.bo_map, G.d_max, G.d_min, G.d_listL, G.d_listT, G.d_p18, G.d_p13, G.d_p12, G.d_is, G.d_abs, G.d_repr, G.d_eqS, G.d_neS, G.d_eqI, G.d_neI, G.d_isi, G.isy_int_none, G.isy_int_bool, G.isy_int_int, G.isy_int_str, G.isy_int_list, G.isy_int_tuple, G.isy_int_dict, G.isy_bool_none, G.isy_bool_bool, G.isy_bool_int, G.isy_bool_str, G.isy_bool_list, G.isy_bool_tuple, G.isy_bool_dict, G.isy_tuple_none, G.isy_tuple_bool, G.isy_tuple_int, G.isy_tuple_str, G.isy_tuple_list, G.isy_tuple_tuple, G.isy_tuple_dict, G.isy_list_none, G.isy_list_bool, G.isy_list_int, G.isy_list_str, G.isy_list_list, G.isy_list_tuple, G.isy_list_dict, G.isy_str_none, G.isy_str_bool, G.isy_str_int, G.isy_str_str, G.isy_str_list, G.isy_str_tuple, G.isy_str_dict, G.isy_dict_none, G.isy_dict_bool, G.isy_dict_int, G.isy_dict_str, G.isy_dict_list, G.isy_dict_tuple, G.isy_dict_dict, G.it_t, G.it_f, G.b_tt, G.b_ft, G.b_nt, G.b_nf, G.b_ta, G.b_fa, G.b_at, G.b_to, G.b_fo, G.lI_0, G.lI_1, G.lI_2, G.lI_3, G.lI_4, G.lI_5, G.lI_m, G.bs_f, G.es_f, G.bb_tt, G.bb_tf, G.bb_ft, G.bb_ff, G.bq_s, G.r_dic, G.k_dic1, G.k_dic2, G.k_dic3, G.k_dic4, G.k_kD1, G.k_kD2, G.k_fl0, G.k_fl1, G.k_pr0, G.k_pr1, G.k_pr2, G.r_dic0, G.d_ixDi, G.d_ixDs, G.d_inGT, G.d_inGL, G.d_ninGT, G.d_ninGL, G.d_inGi, G.d_ninGi, G.k_vals, G.k_items, G.d_setDi, G.dg_nil, G.dg_i, G.dg_s, G.mg_0, G.mg_s, G.dpk_n, G.ky_i, G.ky_s, G.d_eqX, G.d_neX, G.d_inT, G.d_inL, G.d_ninT, G.d_ninL, G.ev_ii, G.ev_bb, G.ev_ss, G.ev_nn, G.ev_tt, G.ev_ll, G.ev_0, G.ev_c, G.ev_c0, G.ev_0c, G.ev_none_bool, G.ev_none_int, G.ev_none_str, G.ev_none_list, G.ev_none_tuple, G.ev_bool_none, G.ev_bool_str, G.ev_bool_list, G.ev_bool_tuple, G.ev_int_none, G.ev_int_str, G.ev_int_list, G.ev_int_tuple, G.ev_str_none, G.ev_str_bool, G.ev_str_int, G.ev_str_list, G.ev_str_tuple, G.ev_list_none, G.ev_list_bool, G.ev_list_int, G.ev_list_str, G.ev_list_tuple, G.ev_tuple_none, G.ev_tuple_bool, G.ev_tuple_int, G.ev_tuple_str, G.ev_tuple_list, G.dec_t, G.not_dec, G.k_popA, G.k_popZ, G.k_pop1, G.r_ext, G.k_ext1, G.k_ext2, G.k_ext3, G.k_ext4, G.r_items, G.k_itemsJ, G.d_listD, G.d_intI, G.d_intB, G.d_strI, G.r_subG, G.k_sub1, G.k_sub2, G.k_sub3, G.k_sub4, G.k_sub5, G.k_sub6, G.k_sub7, G.r_tupL1, G.r_tupL2, G.r_tupL3, G.r_tupL4, G.d_isB, G.d_isnB, G.d_isnN, G.d_revL, G.d_revT, G.r_permA, G.k_perm1, G.k_perm2, G.k_perm3a, G.k_perm3b, G.k_perm3c, G.k_perm3d, G.k_perm3e, Int.reduceEq, Int.reduceLE, Int.reduceLT, Int.reduceAdd, Int.reduceSub, Int.reduceMul, Int.reduceNeg, Nat.reduceAdd, List.nil_append, not_true_eq_false, not_false_eq_true, and_true, true_and, and_false, false_and, or_true, true_or, or_false, false_or, decide_true, decide_false, eq_self, Bool.and_true, Bool.and_false, $ls,*])
  | `(tactic| simp? [$ls,*] at $h:ident) => `(tactic| simp (maxSteps := 1000000) (disch := first | assumption | (simp (disch := decide +kernel) only [G.sl_nil, G.sl_cons, List.cons_append, List.nil_append, G.shN_str, G.shN_tup, G.shN_lst, G.shN_int, G.shN_bool, G.shN_none, G.shA_nil, G.shA_cons, G.b_ta, G.ky_i, G.ky_s]; done) | exact G.len_ok (by simp only [G.sl_nil, G.sl_cons]) | decide | decide +kernel | exact G.mulOk_l (by decide) | exact G.mulOk_r (by decide) | omega) only [G.rb_ok, G.rb_ex, G.rb_bad, G.rb_ite, G.lz, G.ls, G.sz, G.ss, G.r_seq, G.k_seq1, G.k_seq2, G.k_seq3, G.k_seq4, G.r_nx, G.r_bk, G.r_ct, G.r_retN, G.r_ret, G.k_ret, G.r_drop, G.k_drop, G.r_if, G.r_ife, G.k_if, G.r_asg, G.k_asg1, G.k_asg2, G.k_asg3, G.k_sl1, G.k_sl2, G.k_sh1, G.k_sh2, G.k_sh3, G.k_sh4, G.k_sh5, G.r_asgG, G.k_asgG, G.k_asgL, G.k_tg, G.r_nm, G.r_tup, G.r_tup1, G.r_tup3, G.r_tup4, G.r_nil, G.r_cons, G.r_V, G.k_V1, G.k_V2, G.k_V4, G.k_V3, G.r_C, G.p_val, G.p_fr, G.p_sl, G.pb_1, G.pb_2, G.pb_3, G.od_1, G.od_2, G.p_1, G.p_2, G.p_3, G.q_1, G.q_2, G.q_3, G.re_1, G.re_2, G.re_ite, G.st_1, G.st_2, G.st_3, G.r_op2, G.k_op2a, G.k_op2b, G.k_op2c, G.r_op1, G.k_op1, G.ob_some, G.r_said, G.k_said1, G.r_opN, G.k_opN, G.r_pk0, G.r_pk1, G.k_pk, G.r_anil, G.r_acons, G.k_acons, G.k_acons2, G.shs_v0, G.shs_v1, G.shs_v2, G.shs_v3, G.shs_v4, G.om_some, G.r_tupT, G.r_lstT, G.k_dt, G.k_dl, G.k_d1, G.k_d2, G.r_fB, G.k_fB, G.r_and, G.r_or, G.r_andV, G.r_orV, G.r_not, G.r_notV, G.k_not, G.k_notV, G.r_yes, G.r_ch, G.k_ch1, G.k_ch2, G.k_ch3, G.k_ch4, G.k_ch5, G.r_call, G.c1_nil, G.c1_t, G.c1_f, G.c1_s, G.c1_s1, G.c1_s2, G.k_ca, G.k_c1, G.k_c2, G.c2_nil, G.c2_v, G.c2_s, G.c2_s1, G.c2_s3, G.c2_s2, G.k_call, G.k_w1, G.k_w2, G.k_w3, G.k_wite, G.wb_nil, G.wb_none, G.wb_some, G.k_wb1, G.k_wb2, G.wbx_nil, G.wbx_none, G.ap_nil, G.ap_nil2, G.ap_cons, G.ma_nil, G.ma_cons, G.ds_nil, G.ds_none, G.ds_some, G.me_nil, G.me_none, G.me_some, G.ou_0, G.ou_s, G.ob_val, G.ob_own, G.ob_un, G.ob_exc, G.ob_prm, G.le_0, G.le_s, G.k_rf1, G.k_rf2, G.k_rf3, G.k_rf4, G.k_rs1, G.k_rs2, G.r_set, G.k_set1, G.k_set2, G.k_set3, G.k_set4, G.k_set5, G.k_set6, G.k_set7, G.k_set8, G.k_set9, G.r_mut, G.k_mu1, G.k_mu2, G.k_mu3, G.k_mu4, G.k_mu5, G.k_mu6, G.k_mu7, G.k_app, G.k_apps, G.r_par, G.k_par1, G.k_par2, G.k_par3, G.k_par4, G.k_par5, G.r_par3, G.k_p3a, G.k_p3b, G.r_parN, G.k_pn1, G.k_pn2, G.k_nx, G.ev_nil, G.ev_cons, G.k_ev1, G.k_ev2, G.rs_nil, G.rs_val, G.rs_fr, G.rs_sl, G.k_rsS1, G.k_rsS2, G.bn_nil, G.bn_val, G.bn_fr, G.r_rep, G.k_rp1, G.k_rp2, G.k_rp3, G.ixN_last, G.set_last, G.ix_last, G.r_for, G.k_for, G.fo_nil, G.fo_cons, G.k_fo0, G.k_fo1, G.k_fo2, G.k_fo3, G.k_fo4, G.r_turn, G.k_tu0, G.k_tu1, G.k_tu2, G.k_tu3, G.k_tu4, G.r_seqI, G.k_seqI, G.k_seqI1, G.k_seqI3, G.k_seqI5, G.k_seqI6, G.k_seqI4, G.k_seqI2, G.r_rng1, G.k_rng1, G.k_rng1b, G.r_rng2, G.k_rng2, G.k_rng2b, G.rgl_0, G.rgl_1, G.rgl_2, G.rgl_3, G.rgl_4, G.rgl_5, G.rgl_6, G.rgl_7, G.rgl_8, G.rgl_9, G.rgl_10, G.rgl_12, G.rgl_16, G.r1l_1, G.r1l_2, G.r1l_3, G.r1l_4, G.r1l_5, G.r1l_6, G.r1l_8, G.rpl_0, G.rpl_1, G.rpl_2, G.rpl_3, G.rpl_4, G.rpl_5, G.rpl_6, G.rpl_7, G.rpl_8, G.r_lc, G.k_lc, G.l_nil, G.l_cons, G.l_A, G.l_B, G.l_C, G.l_C2, G.l_C3, G.l_S1, G.l_S2, G.l_D, G.k_lc1, G.wi_nil, G.wi_cons, G.mulOk_l, G.mulOk_r, G.r_sl, G.k_sla, G.k_slb, G.k_slc, G.k_sld, G.pt_n, G.pt_s, G.k_pt, G.cu_t, G.cu_l, G.cu_1n, G.cu_2n, G.cu_n1, G.d_add, G.d_addT, G.d_addTs, G.d_addL, G.d_addLs, G.d_sub, G.d_mul, G.d_fdiv, G.d_mod, G.d_neg, G.d_cmp, G.d_ixT, G.d_ixL, G.at_0, G.at_1, G.at_2, G.at_3, G.d_lenL, G.d_lenT, G.d_tupL, G.d_tupT, G.d_all, G.k_all, G.d_any, G.k_any, G.bo_nil, G.bo_cons, G.al_nil, G.al_cons, G.al_map, G.an_nil, G.an_cons, G.an_map, G.id_b, G.bo_map, G.d_max, G.d_min, G.d_listL, G.d_listT, G.d_p18, G.d_p13, G.d_p12, G.d_is, G.d_abs, G.d_repr, G.d_eqS, G.d_neS, G.d_eqI, G.d_neI, G.d_isi, G.isy_int_none, G.isy_int_bool, G.isy_int_int, G.isy_int_str, G.isy_int_list, G.isy_int_tuple, G.isy_int_dict, G.isy_bool_none, G.isy_bool_bool, G.isy_bool_int, G.isy_bool_str, G.isy_bool_list, G.isy_bool_tuple, G.isy_bool_dict, G.isy_tuple_none, G.isy_tuple_bool, G.isy_tuple_int, G.isy_tuple_str, G.isy_tuple_list, G.isy_tuple_tuple, G.isy_tuple_dict, G.isy_list_none, G.isy_list_bool, G.isy_list_int, G.isy_list_str, G.isy_list_list, G.isy_list_tuple, G.isy_list_dict, G.isy_str_none, G.isy_str_bool, G.isy_str_int, G.isy_str_str, G.isy_str_list, G.isy_str_tuple, G.isy_str_dict, G.isy_dict_none, G.isy_dict_bool, G.isy_dict_int, G.isy_dict_str, G.isy_dict_list, G.isy_dict_tuple, G.isy_dict_dict, G.it_t, G.it_f, G.b_tt, G.b_ft, G.b_nt, G.b_nf, G.b_ta, G.b_fa, G.b_at, G.b_to, G.b_fo, G.lI_0, G.lI_1, G.lI_2, G.lI_3, G.lI_4, G.lI_5, G.lI_m, G.bs_f, G.es_f, G.bb_tt, G.bb_tf, G.bb_ft, G.bb_ff, G.bq_s, G.r_dic, G.k_dic1, G.k_dic2, G.k_dic3, G.k_dic4, G.k_kD1, G.k_kD2, G.k_fl0, G.k_fl1, G.k_pr0, G.k_pr1, G.k_pr2, G.r_dic0, G.d_ixDi, G.d_ixDs, G.d_inGT, G.d_inGL, G.d_ninGT, G.d_ninGL, G.d_inGi, G.d_ninGi, G.k_vals, G.k_items, G.d_setDi, G.dg_nil, G.dg_i, G.dg_s, G.mg_0, G.mg_s, G.dpk_n, G.ky_i, G.ky_s, G.d_eqX, G.d_neX, G.d_inT, G.d_inL, G.d_ninT, G.d_ninL, G.ev_ii, G.ev_bb, G.ev_ss, G.ev_nn, G.ev_tt, G.ev_ll, G.ev_0, G.ev_c, G.ev_c0, G.ev_0c, G.ev_none_bool, G.ev_none_int, G.ev_none_str, G.ev_none_list, G.ev_none_tuple, G.ev_bool_none, G.ev_bool_str, G.ev_bool_list, G.ev_bool_tuple, G.ev_int_none, G.ev_int_str, G.ev_int_list, G.ev_int_tuple, G.ev_str_none, G.ev_str_bool, G.ev_str_int, G.ev_str_list, G.ev_str_tuple, G.ev_list_none, G.ev_list_bool, G.ev_list_int, G.ev_list_str, G.ev_list_tuple, G.ev_tuple_none, G.ev_tuple_bool, G.ev_tuple_int, G.ev_tuple_str, G.ev_tuple_list, G.dec_t, G.not_dec, G.k_popA, G.k_popZ, G.k_pop1, G.r_ext, G.k_ext1, G.k_ext2, G.k_ext3, G.k_ext4, G.r_items, G.k_itemsJ, G.d_listD, G.d_intI, G.d_intB, G.d_strI, G.r_subG, G.k_sub1, G.k_sub2, G.k_sub3, G.k_sub4, G.k_sub5, G.k_sub6, G.k_sub7, G.r_tupL1, G.r_tupL2, G.r_tupL3, G.r_tupL4, G.d_isB, G.d_isnB, G.d_isnN, G.d_revL, G.d_revT, G.r_permA, G.k_perm1, G.k_perm2, G.k_perm3a, G.k_perm3b, G.k_perm3c, G.k_perm3d, G.k_perm3e, Int.reduceEq, Int.reduceLE, Int.reduceLT, Int.reduceAdd, Int.reduceSub, Int.reduceMul, Int.reduceNeg, Nat.reduceAdd, List.nil_append, not_true_eq_false, not_false_eq_true, and_true, true_and, and_false, false_and, or_true, true_or, or_false, false_or, decide_true, decide_false, eq_self, Bool.and_true, Bool.and_false, $ls,*] at $h:ident)
/-! ### values of any sort: fewer than n levels, ints up to B -/
/-! ### sizes -/
/-! ### a value of another sort -/
end M
namespace M
open PySem PySem.Spec PyProof.Rows L2 G
local macro_rules
  | `(tactic| simp? [$ls,*]) => `(tactic| simp (maxSteps := 1000000) (disch := first | assumption | (simp (disch := decide +kernel) only [G.sl_nil, G.sl_cons, List.cons_append, List.nil_append, G.shN_str, G.shN_tup, G.shN_lst, G.shN_int, G.shN_bool, G.shN_none, G.shA_nil, G.shA_cons, G.b_ta, G.ky_i, G.ky_s]; done) | exact G.len_ok (by simp only [G.sl_nil, G.sl_cons]) | decide | decide +kernel | exact G.mulOk_l (by decide) | exact G.mulOk_r (by decide) | omega) only [G.rb_ok, G.rb_ex, G.rb_bad, G.rb_ite, G.lz, G.ls, G.sz, G.ss, G.r_seq, G.k_seq1, G.k_seq2, G.k_seq3, G.k_seq4, G.r_nx, G.r_bk, G.r_ct, G.r_retN, G.r_ret, G.k_ret, G.r_drop, G.k_drop, G.r_if, G.r_ife, G.k_if, G.r_asg, G.k_asg1, G.k_asg2, G.k_asg3, G.k_sl1, G.k_sl2, G.k_sh1, G.k_sh2, G.k_sh3, G.k_sh4, G.k_sh5, G.r_asgG, G.k_asgG, G.k_asgL, G.k_tg, G.r_nm, G.r_tup, G.r_tup1, G.r_tup3, G.r_tup4, G.r_nil, G.r_cons, G.r_V, G.k_V1, G.k_V2, G.k_V4, G.k_V3, G.r_C, G.p_val, G.p_fr, G.p_sl, G.pb_1, G.pb_2, G.pb_3, G.od_1, G.od_2, G.p_1, G.p_2, G.p_3, G.q_1, G.q_2, G.q_3, G.re_1, G.re_2, G.re_ite, G.st_1, G.st_2, G.st_3, G.r_op2, G.k_op2a, G.k_op2b, G.k_op2c, G.r_op1, G.k_op1, G.ob_some, G.r_said, G.k_said1, G.r_opN, G.k_opN, G.r_pk0, G.r_pk1, G.k_pk, G.r_anil, G.r_acons, G.k_acons, G.k_acons2, G.shs_v0, G.shs_v1, G.shs_v2, G.shs_v3, G.shs_v4, G.om_some, G.r_tupT, G.r_lstT, G.k_dt, G.k_dl, G.k_d1, G.k_d2, G.r_fB, G.k_fB, G.r_and, G.r_or, G.r_andV, G.r_orV, G.r_not, G.r_notV, G.k_not, G.k_notV, G.r_yes, G.r_ch, G.k_ch1, G.k_ch2, G.k_ch3, G.k_ch4, G.k_ch5, G.r_call, G.c1_nil, G.c1_t, G.c1_f, G.c1_s, G.c1_s1, G.c1_s2, G.k_ca, G.k_c1, G.k_c2, G.c2_nil, G.c2_v, G.c2_s, G.c2_s1, G.c2_s3, G.c2_s2, G.k_call, G.k_w1, G.k_w2, G.k_w3, G.k_wite, G.wb_nil, G.wb_none, G.wb_some, G.k_wb1, G.k_wb2, G.wbx_nil, G.wbx_none, G.ap_nil, G.ap_nil2, G.ap_cons, G.ma_nil, G.ma_cons, G.ds_nil, G.ds_none, G.ds_some, G.me_nil, G.me_none, G.me_some, G.ou_0, G.ou_s, G.ob_val, G.ob_own, G.ob_un, G.ob_exc, G.ob_prm, G.le_0, G.le_s, G.k_rf1, G.k_rf2, G.k_rf3, G.k_rf4, G.k_rs1, G.k_rs2, G.r_set, G.k_set1, G.k_set2, G.k_set3, G.k_set4, G.k_set5, G.k_set6, G.k_set7, G.k_set8, G.k_set9, G.r_mut, G.k_mu1, G.k_mu2, G.k_mu3, G.k_mu4, G.k_mu5, G.k_mu6, G.k_mu7, G.k_app, G.k_apps, G.r_par, G.k_par1, G.k_par2, G.k_par3, G.k_par4, G.k_par5, G.r_par3, G.k_p3a, G.k_p3b, G.r_parN, G.k_pn1, G.k_pn2, G.k_nx, G.ev_nil, G.ev_cons, G.k_ev1, G.k_ev2, G.rs_nil, G.rs_val, G.rs_fr, G.rs_sl, G.k_rsS1, G.k_rsS2, G.bn_nil, G.bn_val, G.bn_fr, G.r_rep, G.k_rp1, G.k_rp2, G.k_rp3, G.ixN_last, G.set_last, G.ix_last, G.r_for, G.k_for, G.fo_nil, G.fo_cons, G.k_fo0, G.k_fo1, G.k_fo2, G.k_fo3, G.k_fo4, G.r_turn, G.k_tu0, G.k_tu1, G.k_tu2, G.k_tu3, G.k_tu4, G.r_seqI, G.k_seqI, G.k_seqI1, G.k_seqI3, G.k_seqI5, G.k_seqI6, G.k_seqI4, G.k_seqI2, G.r_rng1, G.k_rng1, G.k_rng1b, G.r_rng2, G.k_rng2, G.k_rng2b, G.rgl_0, G.rgl_1, G.rgl_2, G.rgl_3, G.rgl_4, G.rgl_5, G.rgl_6, G.rgl_7, G.rgl_8, G.rgl_9, G.rgl_10, G.rgl_12, G.rgl_16, G.r1l_1, G.r1l_2, G.r1l_3, G.r1l_4, G.r1l_5, G.r1l_6, G.r1l_8, G.rpl_0, G.rpl_1, G.rpl_2, G.rpl_3, G.rpl_4, G.rpl_5, G.rpl_6, G.rpl_7, G.rpl_8, G.r_lc, G.k_lc, G.l_nil, G.l_cons, G.l_A, G.l_B, G.l_C, G.l_C2, G.l_C3, G.l_S1, G.l_S2, G.l_D, G.k_lc1, G.wi_nil, G.wi_cons, G.mulOk_l, G.mulOk_r, G.r_sl, G.k_sla, G.k_slb, G.k_slc, G.k_sld, G.pt_n, G.pt_s, G.k_pt, G.cu_t, G.cu_l, G.cu_1n, G.cu_2n, G.cu_n1, G.d_add, G.d_addT, G.d_addTs, G.d_addL, G.d_addLs, G.d_sub, G.d_mul, G.d_fdiv, G.d_mod, G.d_neg, G.d_cmp, G.d_ixT, G.d_ixL, G.at_0, G.at_1, G.at_2, G.at_3, G.d_lenL, G.d_lenT, G.d_tupL, G.d_tupT, G.d_all, G.k_all, G.d_any, G.k_any, G.bo_nil, G.bo_cons, G.al_nil, G.al_cons, G.al_map, G.an_nil, G.an_cons, G.an_map, G.id_b, G.bo_map, G.d_max, G.d_min, G.d_listL, G.d_listT, G.d_p18, G.d_p13, G.d_p12, G.d_is, G.d_abs, G.d_repr, G.d_eqS, G.d_neS, G.d_eqI, G.d_neI, G.d_isi, G.isy_int_none, G.isy_int_bool, G.isy_int_int, G.isy_int_str, G.isy_int_list, G.isy_int_tuple, G.isy_int_dict, G.isy_bool_none, G.isy_bool_bool, G.isy_bool_int, G.isy_bool_str, G.isy_bool_list, G.isy_bool_tuple, G.isy_bool_dict, G.isy_tuple_none, G.isy_tuple_bool, G.isy_tuple_int, G.isy_tuple_str, G.isy_tuple_list, G.isy_tuple_tuple, G.isy_tuple_dict, G.isy_list_none, G.isy_list_bool, G.isy_list_int, G.isy_list_str, G.isy_list_list, G.isy_list_tuple, G.isy_list_dict, G.isy_str_none, G.isy_str_bool, G.isy_str_int, G.isy_str_str, G.isy_str_list, G.isy_str_tuple, G.isy_str_dict, G.isy_dict_none, G.isy_dict_bool, G.isy_dict_int, G.isy_dict_str, G.isy_dict_list, G.isy_dict_tuple, G.isy_dict_dict, G.it_t, G.it_f, G.b_tt, G.b_ft, G.b_nt, G.b_nf, G.b_ta, G.b_fa, G.b_at, G.b_to, G.b_fo, G.lI_0, G.lI_1, G.lI_2, G.lI_3, G.lI_4, G.lI_5, G.lI_m, G.bs_f, G.es_f, G.bb_tt, G.bb_tf, G.bb_ft, G.bb_ff, G.bq_s, G.r_dic, G.k_dic1, G.k_dic2, G.k_dic3, G.k_dic4, G.k_kD1, G.k_kD2, G.k_fl0, G.k_fl1, G.k_pr0, G.k_pr1, G.k_pr2, G.r_dic0, G.d_ixDi, G.d_ixDs, G.d_inGT, G.d_inGL, G.d_ninGT, G.d_ninGL, G.d_inGi, G.d_ninGi, G.k_vals, G.k_items, G.d_setDi, G.dg_nil, G.dg_i, G.dg_s, G.mg_0, G.mg_s, G.dpk_n, G.ky_i, G.ky_s, G.d_eqX, G.d_neX, G.d_inT, G.d_inL, G.d_ninT, G.d_ninL, G.ev_ii, G.ev_bb, G.ev_ss, G.ev_nn, G.ev_tt, G.ev_ll, G.ev_0, G.ev_c, G.ev_c0, G.ev_0c, G.ev_none_bool, G.ev_none_int, G.ev_none_str, G.ev_none_list, G.ev_none_tuple, G.ev_bool_none, G.ev_bool_str, G.ev_bool_list, G.ev_bool_tuple, G.ev_int_none, G.ev_int_str, G.ev_int_list, G.ev_int_tuple, G.ev_str_none, G.ev_str_bool, G.ev_str_int, G.ev_str_list, G.ev_str_tuple, G.ev_list_none, G.ev_list_bool, G.ev_list_int, G.ev_list_str, G.ev_list_tuple, G.ev_tuple_none, G.ev_tuple_bool, G.ev_tuple_int, G.ev_tuple_str, G.ev_tuple_list, G.dec_t, G.not_dec, G.k_popA, G.k_popZ, G.k_pop1, G.r_ext, G.k_ext1, G.k_ext2, G.k_ext3, G.k_ext4, G.r_items, G.k_itemsJ, G.d_listD, G.d_intI, G.d_intB, G.d_strI, G.r_subG, G.k_sub1, G.k_sub2, G.k_sub3, G.k_sub4, G.k_sub5, G.k_sub6, G.k_sub7, G.r_tupL1, G.r_tupL2, G.r_tupL3, G.r_tupL4, G.d_isB, G.d_isnB, G.d_isnN, G.d_revL, G.d_revT, G.r_permA, G.k_perm1, G.k_perm2, G.k_perm3a, G.k_perm3b, G.k_perm3c, G.k_perm3d, G.k_perm3e, Int.reduceEq, Int.reduceLE, Int.reduceLT, Int.reduceAdd, Int.reduceSub, Int.reduceMul, Int.reduceNeg, Nat.reduceAdd, List.nil_append, not_true_eq_false, not_false_eq_true, and_true, true_and, and_false, false_and, or_true, true_or, or_false, false_or, decide_true, decide_false, eq_self, Bool.and_true, Bool.and_false, $ls,*])
  | `(tactic| simp? [$ls,*] at $h:ident) => `(tactic| simp (maxSteps := 1000000) (disch := first | assumption | (simp (disch := decide +kernel) only [G.sl_nil, G.sl_cons, List.cons_append, List.nil_append, G.shN_str, G.shN_tup, G.shN_lst, G.shN_int, G.shN_bool, G.shN_none, G.shA_nil, G.shA_cons, G.b_ta, G.ky_i, G.ky_s]; done) | exact G.len_ok (by simp only [G.sl_nil, G.sl_cons]) | decide | decide +kernel | exact G.mulOk_l (by decide) | exact G.mulOk_r (by decide) | omega) only [G.rb_ok, G.rb_ex, G.rb_bad, G.rb_ite, G.lz, G.ls, G.sz, G.ss, G.r_seq, G.k_seq1, G.k_seq2, G.k_seq3, G.k_seq4, G.r_nx, G.r_bk, G.r_ct, G.r_retN, G.r_ret, G.k_ret, G.r_drop, G.k_drop, G.r_if, G.r_ife, G.k_if, G.r_asg, G.k_asg1, G.k_asg2, G.k_asg3, G.k_sl1, G.k_sl2, G.k_sh1, G.k_sh2, G.k_sh3, G.k_sh4, G.k_sh5, G.r_asgG, G.k_asgG, G.k_asgL, G.k_tg, G.r_nm, G.r_tup, G.r_tup1, G.r_tup3, G.r_tup4, G.r_nil, G.r_cons, G.r_V, G.k_V1, G.k_V2, G.k_V4, G.k_V3, G.r_C, G.p_val, G.p_fr, G.p_sl, G.pb_1, G.pb_2, G.pb_3, G.od_1, G.od_2, G.p_1, G.p_2, G.p_3, G.q_1, G.q_2, G.q_3, G.re_1, G.re_2, G.re_ite, G.st_1, G.st_2, G.st_3, G.r_op2, G.k_op2a, G.k_op2b, G.k_op2c, G.r_op1, G.k_op1, G.ob_some, G.r_said, G.k_said1, G.r_opN, G.k_opN, G.r_pk0, G.r_pk1, G.k_pk, G.r_anil, G.r_acons, G.k_acons, G.k_acons2, G.shs_v0, G.shs_v1, G.shs_v2, G.shs_v3, G.shs_v4, G.om_some, G.r_tupT, G.r_lstT, G.k_dt, G.k_dl, G.k_d1, G.k_d2, G.r_fB, G.k_fB, G.r_and, G.r_or, G.r_andV, G.r_orV, G.r_not, G.r_notV, G.k_not, G.k_notV, G.r_yes, G.r_ch, G.k_ch1, G.k_ch2, G.k_ch3, G.k_ch4, G.k_ch5, G.r_call, G.c1_nil, G.c1_t, G.c1_f, G.c1_s, G.c1_s1, G.c1_s2, G.k_ca, G.k_c1, G.k_c2, G.c2_nil, G.c2_v, G.c2_s, G.c2_s1, G.c2_s3, G.c2_s2, G.k_call, G.k_w1, G.k_w2, G.k_w3, G.k_wite, G.wb_nil, G.wb_none, G.wb_some, G.k_wb1, G.k_wb2, G.wbx_nil, G.wbx_none, G.ap_nil, G.ap_nil2, G.ap_cons, G.ma_nil, G.ma_cons, G.ds_nil, G.ds_none, G.ds_some, G.me_nil, G.me_none, G.me_some, G.ou_0, G.ou_s, G.ob_val, G.ob_own, G.ob_un, G.ob_exc, G.ob_prm, G.le_0, G.le_s, G.k_rf1, G.k_rf2, G.k_rf3, G.k_rf4, G.k_rs1, G.k_rs2, G.r_set, G.k_set1, G.k_set2, G.k_set3, G.k_set4, G.k_set5, G.k_set6, G.k_set7, G.k_set8, G.k_set9, G.r_mut, G.k_mu1, G.k_mu2, G.k_mu3, G.k_mu4, G.k_mu5, G.k_mu6, G.k_mu7, G.k_app, G.k_apps, G.r_par, G.k_par1, G.k_par2, G.k_par3, G.k_par4, G.k_par5, G.r_par3, G.k_p3a, G.k_p3b, G.r_parN, G.k_pn1, G.k_pn2, G.k_nx, G.ev_nil, G.ev_cons, G.k_ev1, G.k_ev2, G.rs_nil, G.rs_val, G.rs_fr, G.rs_sl, G.k_rsS1, G.k_rsS2, G.bn_nil, G.bn_val, G.bn_fr, G.r_rep, G.k_rp1, G.k_rp2, G.k_rp3, G.ixN_last, G.set_last, G.ix_last, G.r_for, G.k_for, G.fo_nil, G.fo_cons, G.k_fo0, G.k_fo1, G.k_fo2, G.k_fo3, G.k_fo4, G.r_turn, G.k_tu0, G.k_tu1, G.k_tu2, G.k_tu3, G.k_tu4, G.r_seqI, G.k_seqI, G.k_seqI1, G.k_seqI3, G.k_seqI5, G.k_seqI6, G.k_seqI4, G.k_seqI2, G.r_rng1, G.k_rng1, G.k_rng1b, G.r_rng2, G.k_rng2, G.k_rng2b, G.rgl_0, G.rgl_1, G.rgl_2, G.rgl_3, G.rgl_4, G.rgl_5, G.rgl_6, G.rgl_7, G.rgl_8, G.rgl_9, G.rgl_10, G.rgl_12, G.rgl_16, G.r1l_1, G.r1l_2, G.r1l_3, G.r1l_4, G.r1l_5, G.r1l_6, G.r1l_8, G.rpl_0, G.rpl_1, G.rpl_2, G.rpl_3, G.rpl_4, G.rpl_5, G.rpl_6, G.rpl_7, G.rpl_8, G.r_lc, G.k_lc, G.l_nil, G.l_cons, G.l_A, G.l_B, G.l_C, G.l_C2, G.l_C3, G.l_S1, G.l_S2, G.l_D, G.k_lc1, G.wi_nil, G.wi_cons, G.mulOk_l, G.mulOk_r, G.r_sl, G.k_sla, G.k_slb, G.k_slc, G.k_sld, G.pt_n, G.pt_s, G.k_pt, G.cu_t, G.cu_l, G.cu_1n, G.cu_2n, G.cu_n1, G.d_add, G.d_addT, G.d_addTs, G.d_addL, G.d_addLs, G.d_sub, G.d_mul, G.d_fdiv, G.d_mod, G.d_neg, G.d_cmp, G.d_ixT, G.d_ixL, G.at_0, G.at_1, G.at_2, G.at_3, G.d_lenL, G.d_lenT, G.d_tupL, G.d_tupT, G.d_all, G.k_all, G.d_any, G.k_any, G.bo_nil, G.bo_cons, G.al_nil, G.al_cons, G.al_map, G.an_nil, G.an_cons, G.an_map, G.id_b, G.bo_map, G.d_max, G.d_min, G.d_listL, G.d_listT, G.d_p18, G.d_p13, G.d_p12, G.d_is, G.d_abs, G.d_repr, G.d_eqS, G.d_neS, G.d_eqI, G.d_neI, G.d_isi, G.isy_int_none, G.isy_int_bool, G.isy_int_int, G.isy_int_str, G.isy_int_list, G.isy_int_tuple, G.isy_int_dict, G.isy_bool_none, G.isy_bool_bool, G.isy_bool_int, G.isy_bool_str, G.isy_bool_list, G.isy_bool_tuple, G.isy_bool_dict, G.isy_tuple_none, G.isy_tuple_bool, G.isy_tuple_int, G.isy_tuple_str, G.isy_tuple_list, G.isy_tuple_tuple, G.isy_tuple_dict, G.isy_list_none, G.isy_list_bool, G.isy_list_int, G.isy_list_str, G.isy_list_list, G.isy_list_tuple, G.isy_list_dict, G.isy_str_none, G.isy_str_bool, G.isy_str_int, G.isy_str_str, G.isy_str_list, G.isy_str_tuple, G.isy_str_dict, G.isy_dict_none, G.isy_dict_bool, G.isy_dict_int, G.isy_dict_str, G.isy_dict_list, G.isy_dict_tuple, G.isy_dict_dict, G.it_t, G.it_f, G.b_tt, G.b_ft, G.b_nt, G.b_nf, G.b_ta, G.b_fa, G.b_at, G.b_to, G.b_fo, G.lI_0, G.lI_1, G.lI_2, G.lI_3, G.lI_4, G.lI_5, G.lI_m, G.bs_f, G.es_f, G.bb_tt, G.bb_tf, G.bb_ft, G.bb_ff, G.bq_s, G.r_dic, G.k_dic1, G.k_dic2, G.k_dic3, G.k_dic4, G.k_kD1, G.k_kD2, G.k_fl0, G.k_fl1, G.k_pr0, G.k_pr1, G.k_pr2, G.r_dic0, G.d_ixDi, G.d_ixDs, G.d_inGT, G.d_inGL, G.d_ninGT, G.d_ninGL, G.d_inGi, G.d_ninGi, G.k_vals, G.k_items, G.d_setDi, G.dg_nil, G.dg_i, G.dg_s, G.mg_0, G.mg_s, G.dpk_n, G.ky_i, G.ky_s, G.d_eqX, G.d_neX, G.d_inT, G.d_inL, G.d_ninT, G.d_ninL, G.ev_ii, G.ev_bb, G.ev_ss, G.ev_nn, G.ev_tt, G.ev_ll, G.ev_0, G.ev_c, G.ev_c0, G.ev_0c, G.ev_none_bool, G.ev_none_int, G.ev_none_str, G.ev_none_list, G.ev_none_tuple, G.ev_bool_none, G.ev_bool_str, G.ev_bool_list, G.ev_bool_tuple, G.ev_int_none, G.ev_int_str, G.ev_int_list, G.ev_int_tuple, G.ev_str_none, G.ev_str_bool, G.ev_str_int, G.ev_str_list, G.ev_str_tuple, G.ev_list_none, G.ev_list_bool, G.ev_list_int, G.ev_list_str, G.ev_list_tuple, G.ev_tuple_none, G.ev_tuple_bool, G.ev_tuple_int, G.ev_tuple_str, G.ev_tuple_list, G.dec_t, G.not_dec, G.k_popA, G.k_popZ, G.k_pop1, G.r_ext, G.k_ext1, G.k_ext2, G.k_ext3, G.k_ext4, G.r_items, G.k_itemsJ, G.d_listD, G.d_intI, G.d_intB, G.d_strI, G.r_subG, G.k_sub1, G.k_sub2, G.k_sub3, G.k_sub4, G.k_sub5, G.k_sub6, G.k_sub7, G.r_tupL1, G.r_tupL2, G.r_tupL3, G.r_tupL4, G.d_isB, G.d_isnB, G.d_isnN, G.d_revL, G.d_revT, G.r_permA, G.k_perm1, G.k_perm2, G.k_perm3a, G.k_perm3b, G.k_perm3c, G.k_perm3d, G.k_perm3e, Int.reduceEq, Int.reduceLE, Int.reduceLT, Int.reduceAdd, Int.reduceSub, Int.reduceMul, Int.reduceNeg, Nat.reduceAdd, List.nil_append, not_true_eq_false, not_false_eq_true, and_true, true_and, and_false, false_and, or_true, true_or, or_false, false_or, decide_true, decide_false, eq_self, Bool.and_true, Bool.and_false, $ls,*] at $h:ident)
/-! ### squares and symmetries: what is none; what a caught exception is told as -/
end M
namespace M
/-! ### what vectors span -/
inductive Sp (vs : List (Int × Int)) : Int → Int → Prop where
  | zero : Sp vs 0 0
  | add {a b x y : Int} : (a, b) ∈ vs → Sp vs x y → Sp vs (x + a) (y + b)
  | sub {a b x y : Int} : (a, b) ∈ vs → Sp vs x y → Sp vs (x - a) (y - b)
theorem Sp.of {vs : List (Int × Int)} {a b : Int} (h : (a, b) ∈ vs) : Sp vs a b := by
  have := Sp.add h Sp.zero
  rwa [Int.zero_add, Int.zero_add] at this
theorem Sp.plus {vs : List (Int × Int)} {x y z w : Int} (h : Sp vs x y) (h' : Sp vs z w) : Sp vs (x + z) (y + w) := by
  induction h' with
  | zero => simpa using h
  | add m _ ih => rw [← Int.add_assoc, ← Int.add_assoc]; exact .add m ih
  | sub m _ ih => rw [← Int.add_sub_assoc, ← Int.add_sub_assoc]; exact .sub m ih
theorem Sp.neg {vs : List (Int × Int)} {x y : Int} (h : Sp vs x y) : Sp vs (-x) (-y) := by
  induction h with
  | zero => simpa using Sp.zero
  | @add a b x y m _ ih => rw [show -(x + a) = -x - a by omega, show -(y + b) = -y - b by omega]; exact .sub m ih
  | @sub a b x y m _ ih => rw [show -(x - a) = -x + a by omega, show -(y - b) = -y + b by omega]; exact .add m ih
theorem Sp.minus {vs : List (Int × Int)} {x y z w : Int} (h : Sp vs x y) (h' : Sp vs z w) : Sp vs (x - z) (y - w) := by
  rw [Int.sub_eq_add_neg, Int.sub_eq_add_neg]; exact h.plus h'.neg
theorem Sp.nmul {vs : List (Int × Int)} {x y : Int} (h : Sp vs x y) : ∀ n : Nat, Sp vs ((n : Int) * x) ((n : Int) * y)
  | 0 => by simpa using Sp.zero
  | n + 1 => by
    rw [show ((n + 1 : Nat) : Int) * x = n * x + x by rw [Int.natCast_add, Int.add_mul]; simp, show ((n + 1 : Nat) : Int) * y = n * y + y by rw [Int.natCast_add, Int.add_mul]; simp]
    exact (Sp.nmul h n).plus h
theorem Sp.mul {vs : List (Int × Int)} {x y : Int} (h : Sp vs x y) (k : Int) : Sp vs (k * x) (k * y) := by
  rcases Int.eq_nat_or_neg k with ⟨n, rfl | rfl⟩
  · exact h.nmul n
  · rw [Int.neg_mul, Int.neg_mul]; exact (h.nmul n).neg
theorem Sp.sub_of {vs ws : List (Int × Int)} (h : ∀ v ∈ vs, Sp ws v.1 v.2) {x y : Int} (q : Sp vs x y) : Sp ws x y := by
  induction q with
  | zero => exact .zero
  | add m _ ih => exact ih.plus (h _ m)
  | sub m _ ih => exact ih.minus (h _ m)
theorem Sp.mono {vs ws : List (Int × Int)} (h : ∀ v ∈ vs, v ∈ ws) {x y : Int} (q : Sp vs x y) : Sp ws x y := q.sub_of fun v hv => .of (h v hv)
/-- two lists span the same -/
def SpEq (vs ws : List (Int × Int)) : Prop := ∀ x y, Sp vs x y ↔ Sp ws x y
theorem SpEq.of {vs ws : List (Int × Int)} (h1 : ∀ v ∈ vs, Sp ws v.1 v.2) (h2 : ∀ v ∈ ws, Sp vs v.1 v.2) : SpEq vs ws := fun _ _ => ⟨Sp.sub_of h1, Sp.sub_of h2⟩
theorem SpEq.symm {vs ws : List (Int × Int)} (h : SpEq vs ws) : SpEq ws vs := fun x y => (h x y).symm
theorem SpEq.trans {vs ws us : List (Int × Int)} (h : SpEq vs ws) (h' : SpEq ws us) : SpEq vs us := fun x y => (h x y).trans (h' x y)
/-! ### bases -/
inductive Bs where
  | b0 | b1 (a b : Int) | b2 (a b d : Int)
deriving DecidableEq
def Bs.ok : Bs → Prop
  | .b0 => True
  | .b1 a b => 0 < a ∨ (a = 0 ∧ 0 < b)
  | .b2 a b d => 0 < a ∧ 0 ≤ b ∧ b < d
def Bs.vs : Bs → List (Int × Int)
  | .b0 => []
  | .b1 a b => [(a, b)]
  | .b2 a b d => [(a, b), (0, d)]
def Bs.has : Bs → Int → Int → Prop
  | .b0, x, y => x = 0 ∧ y = 0
  | .b1 a b, x, y => ∃ k, x = k * a ∧ y = k * b
  | .b2 a b d, x, y => ∃ k l, x = k * a ∧ y = k * b + l * d
theorem Bs.has_iff (B : Bs) (x y : Int) : B.has x y ↔ Sp B.vs x y := by
  cases B with
  | b0 =>
    constructor
    · rintro ⟨rfl, rfl⟩; exact .zero
    · intro h; cases h with
      | zero => exact ⟨rfl, rfl⟩
      | add m _ => cases m
      | sub m _ => cases m
  | b1 a b =>
    constructor
    · rintro ⟨k, rfl, rfl⟩; exact (Sp.of (List.mem_cons_self ..)).mul k
    · intro h
      induction h with
      | zero => exact ⟨0, by simp, by simp⟩
      | add m _ ih =>
        obtain ⟨k, rfl, rfl⟩ := ih
        simp only [Bs.vs, List.mem_singleton, Prod.mk.injEq] at m
        obtain ⟨rfl, rfl⟩ := m
        exact ⟨k + 1, by rw [Int.add_mul, Int.one_mul], by rw [Int.add_mul, Int.one_mul]⟩
      | sub m _ ih =>
        obtain ⟨k, rfl, rfl⟩ := ih
        simp only [Bs.vs, List.mem_singleton, Prod.mk.injEq] at m
        obtain ⟨rfl, rfl⟩ := m
        exact ⟨k - 1, by rw [Int.sub_mul, Int.one_mul], by rw [Int.sub_mul, Int.one_mul]⟩
  | b2 a b d =>
    constructor
    · rintro ⟨k, l, rfl, rfl⟩
      have h1 : Sp (Bs.b2 a b d).vs a b := .of (List.mem_cons_self ..)
      have h2 : Sp (Bs.b2 a b d).vs 0 d := .of (List.mem_cons_of_mem _ (List.mem_cons_self ..))
      have := (h1.mul k).plus (h2.mul l)
      rwa [Int.mul_zero, Int.add_zero] at this
    · intro h
      induction h with
      | zero => exact ⟨0, 0, by simp, by simp⟩
      | add m _ ih =>
        obtain ⟨k, l, rfl, rfl⟩ := ih
        simp only [Bs.vs, List.mem_cons, List.not_mem_nil, or_false, Prod.mk.injEq] at m
        rcases m with ⟨rfl, rfl⟩ | ⟨rfl, rfl⟩
        · exact ⟨k + 1, l, by rw [Int.add_mul, Int.one_mul], by rw [Int.add_mul, Int.one_mul]; omega⟩
        · exact ⟨k, l + 1, by omega, by rw [Int.add_mul, Int.one_mul]; omega⟩
      | sub m _ ih =>
        obtain ⟨k, l, rfl, rfl⟩ := ih
        simp only [Bs.vs, List.mem_cons, List.not_mem_nil, or_false, Prod.mk.injEq] at m
        rcases m with ⟨rfl, rfl⟩ | ⟨rfl, rfl⟩
        · exact ⟨k - 1, l, by rw [Int.sub_mul, Int.one_mul], by rw [Int.sub_mul, Int.one_mul]; omega⟩
        · exact ⟨k, l - 1, by omega, by rw [Int.sub_mul, Int.one_mul]; omega⟩
theorem Bs.has_plus {B : Bs} {x y z w : Int} (h : B.has x y) (h' : B.has z w) : B.has (x + z) (y + w) := (B.has_iff _ _).mpr (((B.has_iff _ _).mp h).plus ((B.has_iff _ _).mp h'))
theorem Bs.has_minus {B : Bs} {x y z w : Int} (h : B.has x y) (h' : B.has z w) : B.has (x - z) (y - w) := (B.has_iff _ _).mpr (((B.has_iff _ _).mp h).minus ((B.has_iff _ _).mp h'))
theorem Bs.has_neg {B : Bs} {x y : Int} (h : B.has x y) : B.has (-x) (-y) := (B.has_iff _ _).mpr ((B.has_iff _ _).mp h).neg
theorem Bs.has_neg' {B : Bs} {x y z w : Int} (h : B.has (x - y) (z - w)) : B.has (y - x) (w - z) := by
  have := Bs.has_neg h
  rwa [Int.neg_sub, Int.neg_sub] at this
/-! ### vectors reduced -/
def Bs.red : Bs → Int × Int → Int × Int
  | .b0, v => v
  | .b1 a b, v => if a ≠ 0 then (v.1 - v.1.fdiv a * a, v.2 - v.1.fdiv a * b) else (v.1 - v.2.fdiv b * a, v.2 - v.2.fdiv b * b)
  | .b2 a b d, v => (v.1 - v.1.fdiv a * a, v.2 - v.1.fdiv a * b - (v.2 - v.1.fdiv a * b).fdiv d * d)
def Bs.Rd : Bs → Int × Int → Prop
  | .b0, _ => True
  | .b1 a b, v => if a ≠ 0 then 0 ≤ v.1 ∧ v.1 < a else 0 ≤ v.2 ∧ v.2 < b
  | .b2 a _ d, v => (0 ≤ v.1 ∧ v.1 < a) ∧ (0 ≤ v.2 ∧ v.2 < d)
theorem fmod_bd (x : Int) {a : Int} (h : 0 < a) : 0 ≤ x - x.fdiv a * a ∧ x - x.fdiv a * a < a := by
  have e := Int.mul_fdiv_add_fmod x a
  have h1 := Int.fmod_nonneg_of_pos x h
  have h2 := Int.fmod_lt_of_pos x h
  rw [Int.mul_comm] at e
  omega
theorem Bs.red_rd {B : Bs} (h : B.ok) (v : Int × Int) : B.Rd (B.red v) := by
  cases B with
  | b0 => trivial
  | b1 a b =>
    simp only [Bs.ok] at h
    simp only [Bs.Rd, Bs.red]
    by_cases ha : a ≠ 0
    · rw [if_pos ha, if_pos ha]
      exact fmod_bd _ (by omega)
    · rw [if_neg ha, if_neg ha]
      exact fmod_bd _ (by omega)
  | b2 a b d => exact ⟨fmod_bd _ h.1, fmod_bd _ (by have := h.2; omega)⟩
theorem Bs.red_has {B : Bs} (v : Int × Int) : B.has (v.1 - (B.red v).1) (v.2 - (B.red v).2) := by
  cases B with
  | b0 => simp only [Bs.has, Bs.red]; omega
  | b1 a b =>
    simp only [Bs.has, Bs.red]
    by_cases ha : a ≠ 0
    · rw [if_pos ha]; exact ⟨v.1.fdiv a, by dsimp only; omega, by dsimp only; omega⟩
    · rw [if_neg ha]; exact ⟨v.2.fdiv b, by dsimp only; omega, by dsimp only; omega⟩
  | b2 a b d => exact ⟨v.1.fdiv a, (v.2 - v.1.fdiv a * b).fdiv d, by simp only [Bs.red]; omega, by simp only [Bs.red]; omega⟩
theorem small_mul {k a z w : Int} (ha : 0 < a) (hz : 0 ≤ z ∧ z < a) (hw : 0 ≤ w ∧ w < a) (h : z - w = k * a) : k = 0 := by
  rcases Int.lt_trichotomy k 0 with q | q | q
  · have : k * a ≤ -1 * a := Int.mul_le_mul_of_nonneg_right (by omega) (by omega)
    omega
  · exact q
  · have : 1 * a ≤ k * a := Int.mul_le_mul_of_nonneg_right (by omega) (by omega)
    omega
theorem Bs.rd_uniq {B : Bs} (h : B.ok) {v w : Int × Int} (hv : B.Rd v) (hw : B.Rd w) (e : B.has (v.1 - w.1) (v.2 - w.2)) : v = w := by
  obtain ⟨x, y⟩ := v
  obtain ⟨z, t⟩ := w
  cases B with
  | b0 => obtain ⟨e1, e2⟩ := e; dsimp only at e1 e2; exact Prod.ext (by dsimp only; omega) (by dsimp only; omega)
  | b1 a b =>
    obtain ⟨k, e1, e2⟩ := e
    simp only [Bs.ok] at h
    simp only [Bs.Rd] at hv hw e1 e2
    by_cases ha : a ≠ 0
    · rw [if_pos ha] at hv hw
      have := small_mul (by omega) hv hw e1
      subst this
      exact Prod.ext (by dsimp only; omega) (by dsimp only; omega)
    · rw [if_neg ha] at hv hw
      have := small_mul (by omega) hv hw e2
      subst this
      exact Prod.ext (by dsimp only; omega) (by dsimp only; omega)
  | b2 a b d =>
    obtain ⟨k, l, e1, e2⟩ := e
    obtain ⟨h1, h2, h3⟩ := h
    simp only [Bs.Rd] at e1 e2 hv hw
    have := small_mul h1 hv.1 hw.1 e1
    subst this
    have := small_mul (show 0 < d by omega) hv.2 hw.2 (k := l) (by omega)
    subst this
    exact Prod.ext (by dsimp only; omega) (by dsimp only; omega)
theorem Bs.red_iff {B : Bs} (h : B.ok) (v w : Int × Int) : B.red v = B.red w ↔ B.has (v.1 - w.1) (v.2 - w.2) := by
  have a := B.red_has v
  have b := B.red_has w
  constructor
  · intro e
    rw [e] at a
    have := Bs.has_minus a b
    rwa [show v.1 - (B.red w).1 - (w.1 - (B.red w).1) = v.1 - w.1 by omega, show v.2 - (B.red w).2 - (w.2 - (B.red w).2) = v.2 - w.2 by omega] at this
  · intro e
    refine Bs.rd_uniq h (Bs.red_rd h v) (Bs.red_rd h w) ?_
    have := Bs.has_plus (Bs.has_minus e a) b
    rwa [show v.1 - w.1 - (v.1 - (B.red v).1) + (w.1 - (B.red w).1) = (B.red v).1 - (B.red w).1 by omega, show v.2 - w.2 - (v.2 - (B.red v).2) + (w.2 - (B.red w).2) = (B.red v).2 - (B.red w).2 by omega] at this
theorem Bs.red_of_rd {B : Bs} (h : B.ok) {v : Int × Int} (hv : B.Rd v) : B.red v = v := by
  refine Bs.rd_uniq h (Bs.red_rd h v) hv ?_
  exact Bs.has_neg' (Bs.red_has v)
end M
namespace M
/-! ### groups generated -/
inductive Gn (gs : List Sym) : Sym → Prop where
  | one : Gn gs .one
  | mul {s g : Sym} : Gn gs s → g ∈ gs → Gn gs (s.mul g)
  | div {s g : Sym} : Gn gs s → g ∈ gs → Gn gs (s.mul g.inv)
theorem Gn.of {gs : List Sym} {g : Sym} (h : g ∈ gs) : Gn gs g := by
  have := Gn.mul .one h
  rwa [Sym.one_mul] at this
theorem Gn.prod {gs : List Sym} {s t : Sym} (h : Gn gs s) (h' : Gn gs t) : Gn gs (s.mul t) := by
  induction h' with
  | one => rwa [Sym.mul_one]
  | mul _ m ih => rw [← Sym.mul_assoc]; exact .mul ih m
  | div _ m ih => rw [← Sym.mul_assoc]; exact .div ih m
theorem Gn.invG {gs : List Sym} {g : Sym} (h : g ∈ gs) : Gn gs g.inv := by
  have := Gn.div .one h
  rwa [Sym.one_mul] at this
theorem Gn.inv {gs : List Sym} {s : Sym} (h : Gn gs s) : Gn gs s.inv := by
  induction h with
  | one => rw [show Sym.one.inv = .one from rfl]; exact .one
  | mul _ m ih => rw [Sym.mul_inv_rev]; exact (Gn.invG m).prod ih
  | div _ m ih => rw [Sym.mul_inv_rev, Sym.inv_inv]; exact (Gn.of m).prod ih
theorem Gn.sub {gs hs : List Sym} (h : ∀ g ∈ gs, Gn hs g) {s : Sym} (q : Gn gs s) : Gn hs s := by
  induction q with
  | one => exact .one
  | mul _ m ih => exact ih.prod (h _ m)
  | div _ m ih => exact ih.prod (h _ m).inv
theorem Gn.mono {gs hs : List Sym} (h : ∀ g ∈ gs, g ∈ hs) {s : Sym} (q : Gn gs s) : Gn hs s := q.sub fun g hg => .of (h g hg)
abbrev sh (a b : Int) : Sym := ⟨.k0, a, b⟩
/-! ### descriptions -/
structure Ds where
  b : Bs
  ms : List Sym
def HasT (B : Bs) (ts : List Sym) (s : Sym) : Prop := ∃ t ∈ ts, t.k = s.k ∧ B.has (s.x - t.x) (s.y - t.y)
abbrev Ds.has (D : Ds) (s : Sym) : Prop := HasT D.b D.ms s
/-- by kinds, each once -/
def KSort (ts : List Sym) : Prop := ts.Pairwise fun s t => s.k.i < t.k.i
structure Ds.ok (D : Ds) : Prop where
  b : D.b.ok
  srt : KSort D.ms
  rd : ∀ m ∈ D.ms, D.b.Rd (m.x, m.y)
  one : Sym.one ∈ D.ms
theorem KSort.ext : ∀ {ts us : List Sym}, KSort ts → KSort us → (∀ s, s ∈ ts ↔ s ∈ us) → ts = us
  | [], [], _, _, _ => rfl
  | [], b :: us, _, _, h => by cases (h b).mpr (List.mem_cons_self ..)
  | a :: ts, [], _, _, h => by cases (h a).mp (List.mem_cons_self ..)
  | a :: ts, b :: us, ha, hb, h => by
    obtain ⟨a1, a2⟩ := List.pairwise_cons.mp ha
    obtain ⟨b1, b2⟩ := List.pairwise_cons.mp hb
    have e : a = b := by
      rcases List.mem_cons.mp ((h a).mp (List.mem_cons_self ..)) with e | m
      · exact e
      · rcases List.mem_cons.mp ((h b).mpr (List.mem_cons_self ..)) with e | m2
        · exact e.symm
        · have := b1 a m
          have := a1 b m2
          omega
    subst e
    rw [KSort.ext a2 b2 fun s => ⟨fun hs => ?_, fun hs => ?_⟩]
    · rcases List.mem_cons.mp ((h s).mp (List.mem_cons_of_mem _ hs)) with e | m
      · subst e
        have := a1 s hs
        omega
      · exact m
    · rcases List.mem_cons.mp ((h s).mpr (List.mem_cons_of_mem _ hs)) with e | m
      · subst e
        have := b1 s hs
        omega
      · exact m
/-! ### kinds -/
theorem Kd.inv3 (p q : Kd) : ((p.mul q).mul q).mul q = p.mul q.inv := by cases p <;> cases q <;> rfl
/-- the samples' kinds are closed -/
def KCl (gs ts : List Sym) : Prop := ∀ t ∈ ts, ∀ g ∈ gs, ∃ t' ∈ ts, t'.k = t.k.mul g.k
theorem KCl.inv {gs ts : List Sym} (h : KCl gs ts) {t g : Sym} (ht : t ∈ ts) (hg : g ∈ gs) : ∃ t' ∈ ts, t'.k.mul g.k = t.k := by
  obtain ⟨t1, m1, e1⟩ := h t ht g hg
  obtain ⟨t2, m2, e2⟩ := h t1 m1 g hg
  obtain ⟨t3, m3, e3⟩ := h t2 m2 g hg
  refine ⟨t3, m3, ?_⟩
  rw [e3, e2, e1, Kd.inv3, Kd.mul_assoc, Kd.mul_inv, Kd.mul_k0]
end M
namespace M
open PySem PySem.Spec PyProof.Rows L2 G
local macro_rules
  | `(tactic| simp? [$ls,*]) => `(tactic| simp (maxSteps := 1000000) (disch := first | assumption | (simp (disch := decide +kernel) only [G.sl_nil, G.sl_cons, List.cons_append, List.nil_append, G.shN_str, G.shN_tup, G.shN_lst, G.shN_int, G.shN_bool, G.shN_none, G.shA_nil, G.shA_cons, G.b_ta, G.ky_i, G.ky_s]; done) | exact G.len_ok (by simp only [G.sl_nil, G.sl_cons]) | decide | decide +kernel | exact G.mulOk_l (by decide) | exact G.mulOk_r (by decide) | omega) only [G.rb_ok, G.rb_ex, G.rb_bad, G.rb_ite, G.lz, G.ls, G.sz, G.ss, G.r_seq, G.k_seq1, G.k_seq2, G.k_seq3, G.k_seq4, G.r_nx, G.r_bk, G.r_ct, G.r_retN, G.r_ret, G.k_ret, G.r_drop, G.k_drop, G.r_if, G.r_ife, G.k_if, G.r_asg, G.k_asg1, G.k_asg2, G.k_asg3, G.k_sl1, G.k_sl2, G.k_sh1, G.k_sh2, G.k_sh3, G.k_sh4, G.k_sh5, G.r_asgG, G.k_asgG, G.k_asgL, G.k_tg, G.r_nm, G.r_tup, G.r_tup1, G.r_tup3, G.r_tup4, G.r_nil, G.r_cons, G.r_V, G.k_V1, G.k_V2, G.k_V4, G.k_V3, G.r_C, G.p_val, G.p_fr, G.p_sl, G.pb_1, G.pb_2, G.pb_3, G.od_1, G.od_2, G.p_1, G.p_2, G.p_3, G.q_1, G.q_2, G.q_3, G.re_1, G.re_2, G.re_ite, G.st_1, G.st_2, G.st_3, G.r_op2, G.k_op2a, G.k_op2b, G.k_op2c, G.r_op1, G.k_op1, G.ob_some, G.r_said, G.k_said1, G.r_opN, G.k_opN, G.r_pk0, G.r_pk1, G.k_pk, G.r_anil, G.r_acons, G.k_acons, G.k_acons2, G.shs_v0, G.shs_v1, G.shs_v2, G.shs_v3, G.shs_v4, G.om_some, G.r_tupT, G.r_lstT, G.k_dt, G.k_dl, G.k_d1, G.k_d2, G.r_fB, G.k_fB, G.r_and, G.r_or, G.r_andV, G.r_orV, G.r_not, G.r_notV, G.k_not, G.k_notV, G.r_yes, G.r_ch, G.k_ch1, G.k_ch2, G.k_ch3, G.k_ch4, G.k_ch5, G.r_call, G.c1_nil, G.c1_t, G.c1_f, G.c1_s, G.c1_s1, G.c1_s2, G.k_ca, G.k_c1, G.k_c2, G.c2_nil, G.c2_v, G.c2_s, G.c2_s1, G.c2_s3, G.c2_s2, G.k_call, G.k_w1, G.k_w2, G.k_w3, G.k_wite, G.wb_nil, G.wb_none, G.wb_some, G.k_wb1, G.k_wb2, G.wbx_nil, G.wbx_none, G.ap_nil, G.ap_nil2, G.ap_cons, G.ma_nil, G.ma_cons, G.ds_nil, G.ds_none, G.ds_some, G.me_nil, G.me_none, G.me_some, G.ou_0, G.ou_s, G.ob_val, G.ob_own, G.ob_un, G.ob_exc, G.ob_prm, G.le_0, G.le_s, G.k_rf1, G.k_rf2, G.k_rf3, G.k_rf4, G.k_rs1, G.k_rs2, G.r_set, G.k_set1, G.k_set2, G.k_set3, G.k_set4, G.k_set5, G.k_set6, G.k_set7, G.k_set8, G.k_set9, G.r_mut, G.k_mu1, G.k_mu2, G.k_mu3, G.k_mu4, G.k_mu5, G.k_mu6, G.k_mu7, G.k_app, G.k_apps, G.r_par, G.k_par1, G.k_par2, G.k_par3, G.k_par4, G.k_par5, G.r_par3, G.k_p3a, G.k_p3b, G.r_parN, G.k_pn1, G.k_pn2, G.k_nx, G.ev_nil, G.ev_cons, G.k_ev1, G.k_ev2, G.rs_nil, G.rs_val, G.rs_fr, G.rs_sl, G.k_rsS1, G.k_rsS2, G.bn_nil, G.bn_val, G.bn_fr, G.r_rep, G.k_rp1, G.k_rp2, G.k_rp3, G.ixN_last, G.set_last, G.ix_last, G.r_for, G.k_for, G.fo_nil, G.fo_cons, G.k_fo0, G.k_fo1, G.k_fo2, G.k_fo3, G.k_fo4, G.r_turn, G.k_tu0, G.k_tu1, G.k_tu2, G.k_tu3, G.k_tu4, G.r_seqI, G.k_seqI, G.k_seqI1, G.k_seqI3, G.k_seqI5, G.k_seqI6, G.k_seqI4, G.k_seqI2, G.r_rng1, G.k_rng1, G.k_rng1b, G.r_rng2, G.k_rng2, G.k_rng2b, G.rgl_0, G.rgl_1, G.rgl_2, G.rgl_3, G.rgl_4, G.rgl_5, G.rgl_6, G.rgl_7, G.rgl_8, G.rgl_9, G.rgl_10, G.rgl_12, G.rgl_16, G.r1l_1, G.r1l_2, G.r1l_3, G.r1l_4, G.r1l_5, G.r1l_6, G.r1l_8, G.rpl_0, G.rpl_1, G.rpl_2, G.rpl_3, G.rpl_4, G.rpl_5, G.rpl_6, G.rpl_7, G.rpl_8, G.r_lc, G.k_lc, G.l_nil, G.l_cons, G.l_A, G.l_B, G.l_C, G.l_C2, G.l_C3, G.l_S1, G.l_S2, G.l_D, G.k_lc1, G.wi_nil, G.wi_cons, G.mulOk_l, G.mulOk_r, G.r_sl, G.k_sla, G.k_slb, G.k_slc, G.k_sld, G.pt_n, G.pt_s, G.k_pt, G.cu_t, G.cu_l, G.cu_1n, G.cu_2n, G.cu_n1, G.d_add, G.d_addT, G.d_addTs, G.d_addL, G.d_addLs, G.d_sub, G.d_mul, G.d_fdiv, G.d_mod, G.d_neg, G.d_cmp, G.d_ixT, G.d_ixL, G.at_0, G.at_1, G.at_2, G.at_3, G.d_lenL, G.d_lenT, G.d_tupL, G.d_tupT, G.d_all, G.k_all, G.d_any, G.k_any, G.bo_nil, G.bo_cons, G.al_nil, G.al_cons, G.al_map, G.an_nil, G.an_cons, G.an_map, G.id_b, G.bo_map, G.d_max, G.d_min, G.d_listL, G.d_listT, G.d_p18, G.d_p13, G.d_p12, G.d_is, G.d_abs, G.d_repr, G.d_eqS, G.d_neS, G.d_eqI, G.d_neI, G.d_isi, G.isy_int_none, G.isy_int_bool, G.isy_int_int, G.isy_int_str, G.isy_int_list, G.isy_int_tuple, G.isy_int_dict, G.isy_bool_none, G.isy_bool_bool, G.isy_bool_int, G.isy_bool_str, G.isy_bool_list, G.isy_bool_tuple, G.isy_bool_dict, G.isy_tuple_none, G.isy_tuple_bool, G.isy_tuple_int, G.isy_tuple_str, G.isy_tuple_list, G.isy_tuple_tuple, G.isy_tuple_dict, G.isy_list_none, G.isy_list_bool, G.isy_list_int, G.isy_list_str, G.isy_list_list, G.isy_list_tuple, G.isy_list_dict, G.isy_str_none, G.isy_str_bool, G.isy_str_int, G.isy_str_str, G.isy_str_list, G.isy_str_tuple, G.isy_str_dict, G.isy_dict_none, G.isy_dict_bool, G.isy_dict_int, G.isy_dict_str, G.isy_dict_list, G.isy_dict_tuple, G.isy_dict_dict, G.it_t, G.it_f, G.b_tt, G.b_ft, G.b_nt, G.b_nf, G.b_ta, G.b_fa, G.b_at, G.b_to, G.b_fo, G.lI_0, G.lI_1, G.lI_2, G.lI_3, G.lI_4, G.lI_5, G.lI_m, G.bs_f, G.es_f, G.bb_tt, G.bb_tf, G.bb_ft, G.bb_ff, G.bq_s, G.r_dic, G.k_dic1, G.k_dic2, G.k_dic3, G.k_dic4, G.k_kD1, G.k_kD2, G.k_fl0, G.k_fl1, G.k_pr0, G.k_pr1, G.k_pr2, G.r_dic0, G.d_ixDi, G.d_ixDs, G.d_inGT, G.d_inGL, G.d_ninGT, G.d_ninGL, G.d_inGi, G.d_ninGi, G.k_vals, G.k_items, G.d_setDi, G.dg_nil, G.dg_i, G.dg_s, G.mg_0, G.mg_s, G.dpk_n, G.ky_i, G.ky_s, G.d_eqX, G.d_neX, G.d_inT, G.d_inL, G.d_ninT, G.d_ninL, G.ev_ii, G.ev_bb, G.ev_ss, G.ev_nn, G.ev_tt, G.ev_ll, G.ev_0, G.ev_c, G.ev_c0, G.ev_0c, G.ev_none_bool, G.ev_none_int, G.ev_none_str, G.ev_none_list, G.ev_none_tuple, G.ev_bool_none, G.ev_bool_str, G.ev_bool_list, G.ev_bool_tuple, G.ev_int_none, G.ev_int_str, G.ev_int_list, G.ev_int_tuple, G.ev_str_none, G.ev_str_bool, G.ev_str_int, G.ev_str_list, G.ev_str_tuple, G.ev_list_none, G.ev_list_bool, G.ev_list_int, G.ev_list_str, G.ev_list_tuple, G.ev_tuple_none, G.ev_tuple_bool, G.ev_tuple_int, G.ev_tuple_str, G.ev_tuple_list, G.dec_t, G.not_dec, G.k_popA, G.k_popZ, G.k_pop1, G.r_ext, G.k_ext1, G.k_ext2, G.k_ext3, G.k_ext4, G.r_items, G.k_itemsJ, G.d_listD, G.d_intI, G.d_intB, G.d_strI, G.r_subG, G.k_sub1, G.k_sub2, G.k_sub3, G.k_sub4, G.k_sub5, G.k_sub6, G.k_sub7, G.r_tupL1, G.r_tupL2, G.r_tupL3, G.r_tupL4, G.d_isB, G.d_isnB, G.d_isnN, G.d_revL, G.d_revT, G.r_permA, G.k_perm1, G.k_perm2, G.k_perm3a, G.k_perm3b, G.k_perm3c, G.k_perm3d, G.k_perm3e, Int.reduceEq, Int.reduceLE, Int.reduceLT, Int.reduceAdd, Int.reduceSub, Int.reduceMul, Int.reduceNeg, Nat.reduceAdd, List.nil_append, not_true_eq_false, not_false_eq_true, and_true, true_and, and_false, false_and, or_true, true_or, or_false, false_or, decide_true, decide_false, eq_self, Bool.and_true, Bool.and_false, $ls,*])
  | `(tactic| simp? [$ls,*] at $h:ident) => `(tactic| simp (maxSteps := 1000000) (disch := first | assumption | (simp (disch := decide +kernel) only [G.sl_nil, G.sl_cons, List.cons_append, List.nil_append, G.shN_str, G.shN_tup, G.shN_lst, G.shN_int, G.shN_bool, G.shN_none, G.shA_nil, G.shA_cons, G.b_ta, G.ky_i, G.ky_s]; done) | exact G.len_ok (by simp only [G.sl_nil, G.sl_cons]) | decide | decide +kernel | exact G.mulOk_l (by decide) | exact G.mulOk_r (by decide) | omega) only [G.rb_ok, G.rb_ex, G.rb_bad, G.rb_ite, G.lz, G.ls, G.sz, G.ss, G.r_seq, G.k_seq1, G.k_seq2, G.k_seq3, G.k_seq4, G.r_nx, G.r_bk, G.r_ct, G.r_retN, G.r_ret, G.k_ret, G.r_drop, G.k_drop, G.r_if, G.r_ife, G.k_if, G.r_asg, G.k_asg1, G.k_asg2, G.k_asg3, G.k_sl1, G.k_sl2, G.k_sh1, G.k_sh2, G.k_sh3, G.k_sh4, G.k_sh5, G.r_asgG, G.k_asgG, G.k_asgL, G.k_tg, G.r_nm, G.r_tup, G.r_tup1, G.r_tup3, G.r_tup4, G.r_nil, G.r_cons, G.r_V, G.k_V1, G.k_V2, G.k_V4, G.k_V3, G.r_C, G.p_val, G.p_fr, G.p_sl, G.pb_1, G.pb_2, G.pb_3, G.od_1, G.od_2, G.p_1, G.p_2, G.p_3, G.q_1, G.q_2, G.q_3, G.re_1, G.re_2, G.re_ite, G.st_1, G.st_2, G.st_3, G.r_op2, G.k_op2a, G.k_op2b, G.k_op2c, G.r_op1, G.k_op1, G.ob_some, G.r_said, G.k_said1, G.r_opN, G.k_opN, G.r_pk0, G.r_pk1, G.k_pk, G.r_anil, G.r_acons, G.k_acons, G.k_acons2, G.shs_v0, G.shs_v1, G.shs_v2, G.shs_v3, G.shs_v4, G.om_some, G.r_tupT, G.r_lstT, G.k_dt, G.k_dl, G.k_d1, G.k_d2, G.r_fB, G.k_fB, G.r_and, G.r_or, G.r_andV, G.r_orV, G.r_not, G.r_notV, G.k_not, G.k_notV, G.r_yes, G.r_ch, G.k_ch1, G.k_ch2, G.k_ch3, G.k_ch4, G.k_ch5, G.r_call, G.c1_nil, G.c1_t, G.c1_f, G.c1_s, G.c1_s1, G.c1_s2, G.k_ca, G.k_c1, G.k_c2, G.c2_nil, G.c2_v, G.c2_s, G.c2_s1, G.c2_s3, G.c2_s2, G.k_call, G.k_w1, G.k_w2, G.k_w3, G.k_wite, G.wb_nil, G.wb_none, G.wb_some, G.k_wb1, G.k_wb2, G.wbx_nil, G.wbx_none, G.ap_nil, G.ap_nil2, G.ap_cons, G.ma_nil, G.ma_cons, G.ds_nil, G.ds_none, G.ds_some, G.me_nil, G.me_none, G.me_some, G.ou_0, G.ou_s, G.ob_val, G.ob_own, G.ob_un, G.ob_exc, G.ob_prm, G.le_0, G.le_s, G.k_rf1, G.k_rf2, G.k_rf3, G.k_rf4, G.k_rs1, G.k_rs2, G.r_set, G.k_set1, G.k_set2, G.k_set3, G.k_set4, G.k_set5, G.k_set6, G.k_set7, G.k_set8, G.k_set9, G.r_mut, G.k_mu1, G.k_mu2, G.k_mu3, G.k_mu4, G.k_mu5, G.k_mu6, G.k_mu7, G.k_app, G.k_apps, G.r_par, G.k_par1, G.k_par2, G.k_par3, G.k_par4, G.k_par5, G.r_par3, G.k_p3a, G.k_p3b, G.r_parN, G.k_pn1, G.k_pn2, G.k_nx, G.ev_nil, G.ev_cons, G.k_ev1, G.k_ev2, G.rs_nil, G.rs_val, G.rs_fr, G.rs_sl, G.k_rsS1, G.k_rsS2, G.bn_nil, G.bn_val, G.bn_fr, G.r_rep, G.k_rp1, G.k_rp2, G.k_rp3, G.ixN_last, G.set_last, G.ix_last, G.r_for, G.k_for, G.fo_nil, G.fo_cons, G.k_fo0, G.k_fo1, G.k_fo2, G.k_fo3, G.k_fo4, G.r_turn, G.k_tu0, G.k_tu1, G.k_tu2, G.k_tu3, G.k_tu4, G.r_seqI, G.k_seqI, G.k_seqI1, G.k_seqI3, G.k_seqI5, G.k_seqI6, G.k_seqI4, G.k_seqI2, G.r_rng1, G.k_rng1, G.k_rng1b, G.r_rng2, G.k_rng2, G.k_rng2b, G.rgl_0, G.rgl_1, G.rgl_2, G.rgl_3, G.rgl_4, G.rgl_5, G.rgl_6, G.rgl_7, G.rgl_8, G.rgl_9, G.rgl_10, G.rgl_12, G.rgl_16, G.r1l_1, G.r1l_2, G.r1l_3, G.r1l_4, G.r1l_5, G.r1l_6, G.r1l_8, G.rpl_0, G.rpl_1, G.rpl_2, G.rpl_3, G.rpl_4, G.rpl_5, G.rpl_6, G.rpl_7, G.rpl_8, G.r_lc, G.k_lc, G.l_nil, G.l_cons, G.l_A, G.l_B, G.l_C, G.l_C2, G.l_C3, G.l_S1, G.l_S2, G.l_D, G.k_lc1, G.wi_nil, G.wi_cons, G.mulOk_l, G.mulOk_r, G.r_sl, G.k_sla, G.k_slb, G.k_slc, G.k_sld, G.pt_n, G.pt_s, G.k_pt, G.cu_t, G.cu_l, G.cu_1n, G.cu_2n, G.cu_n1, G.d_add, G.d_addT, G.d_addTs, G.d_addL, G.d_addLs, G.d_sub, G.d_mul, G.d_fdiv, G.d_mod, G.d_neg, G.d_cmp, G.d_ixT, G.d_ixL, G.at_0, G.at_1, G.at_2, G.at_3, G.d_lenL, G.d_lenT, G.d_tupL, G.d_tupT, G.d_all, G.k_all, G.d_any, G.k_any, G.bo_nil, G.bo_cons, G.al_nil, G.al_cons, G.al_map, G.an_nil, G.an_cons, G.an_map, G.id_b, G.bo_map, G.d_max, G.d_min, G.d_listL, G.d_listT, G.d_p18, G.d_p13, G.d_p12, G.d_is, G.d_abs, G.d_repr, G.d_eqS, G.d_neS, G.d_eqI, G.d_neI, G.d_isi, G.isy_int_none, G.isy_int_bool, G.isy_int_int, G.isy_int_str, G.isy_int_list, G.isy_int_tuple, G.isy_int_dict, G.isy_bool_none, G.isy_bool_bool, G.isy_bool_int, G.isy_bool_str, G.isy_bool_list, G.isy_bool_tuple, G.isy_bool_dict, G.isy_tuple_none, G.isy_tuple_bool, G.isy_tuple_int, G.isy_tuple_str, G.isy_tuple_list, G.isy_tuple_tuple, G.isy_tuple_dict, G.isy_list_none, G.isy_list_bool, G.isy_list_int, G.isy_list_str, G.isy_list_list, G.isy_list_tuple, G.isy_list_dict, G.isy_str_none, G.isy_str_bool, G.isy_str_int, G.isy_str_str, G.isy_str_list, G.isy_str_tuple, G.isy_str_dict, G.isy_dict_none, G.isy_dict_bool, G.isy_dict_int, G.isy_dict_str, G.isy_dict_list, G.isy_dict_tuple, G.isy_dict_dict, G.it_t, G.it_f, G.b_tt, G.b_ft, G.b_nt, G.b_nf, G.b_ta, G.b_fa, G.b_at, G.b_to, G.b_fo, G.lI_0, G.lI_1, G.lI_2, G.lI_3, G.lI_4, G.lI_5, G.lI_m, G.bs_f, G.es_f, G.bb_tt, G.bb_tf, G.bb_ft, G.bb_ff, G.bq_s, G.r_dic, G.k_dic1, G.k_dic2, G.k_dic3, G.k_dic4, G.k_kD1, G.k_kD2, G.k_fl0, G.k_fl1, G.k_pr0, G.k_pr1, G.k_pr2, G.r_dic0, G.d_ixDi, G.d_ixDs, G.d_inGT, G.d_inGL, G.d_ninGT, G.d_ninGL, G.d_inGi, G.d_ninGi, G.k_vals, G.k_items, G.d_setDi, G.dg_nil, G.dg_i, G.dg_s, G.mg_0, G.mg_s, G.dpk_n, G.ky_i, G.ky_s, G.d_eqX, G.d_neX, G.d_inT, G.d_inL, G.d_ninT, G.d_ninL, G.ev_ii, G.ev_bb, G.ev_ss, G.ev_nn, G.ev_tt, G.ev_ll, G.ev_0, G.ev_c, G.ev_c0, G.ev_0c, G.ev_none_bool, G.ev_none_int, G.ev_none_str, G.ev_none_list, G.ev_none_tuple, G.ev_bool_none, G.ev_bool_str, G.ev_bool_list, G.ev_bool_tuple, G.ev_int_none, G.ev_int_str, G.ev_int_list, G.ev_int_tuple, G.ev_str_none, G.ev_str_bool, G.ev_str_int, G.ev_str_list, G.ev_str_tuple, G.ev_list_none, G.ev_list_bool, G.ev_list_int, G.ev_list_str, G.ev_list_tuple, G.ev_tuple_none, G.ev_tuple_bool, G.ev_tuple_int, G.ev_tuple_str, G.ev_tuple_list, G.dec_t, G.not_dec, G.k_popA, G.k_popZ, G.k_pop1, G.r_ext, G.k_ext1, G.k_ext2, G.k_ext3, G.k_ext4, G.r_items, G.k_itemsJ, G.d_listD, G.d_intI, G.d_intB, G.d_strI, G.r_subG, G.k_sub1, G.k_sub2, G.k_sub3, G.k_sub4, G.k_sub5, G.k_sub6, G.k_sub7, G.r_tupL1, G.r_tupL2, G.r_tupL3, G.r_tupL4, G.d_isB, G.d_isnB, G.d_isnN, G.d_revL, G.d_revT, G.r_permA, G.k_perm1, G.k_perm2, G.k_perm3a, G.k_perm3b, G.k_perm3c, G.k_perm3d, G.k_perm3e, Int.reduceEq, Int.reduceLE, Int.reduceLT, Int.reduceAdd, Int.reduceSub, Int.reduceMul, Int.reduceNeg, Nat.reduceAdd, List.nil_append, not_true_eq_false, not_false_eq_true, and_true, true_and, and_false, false_and, or_true, true_or, or_false, false_or, decide_true, decide_false, eq_self, Bool.and_true, Bool.and_false, $ls,*] at $h:ident)
/-! ### while -/
/-! ### numbers -/
theorem log2_bd {n k : Nat} (hk : 0 < k) (h : n < 2 ^ k) : n.log2 < k := by
  by_cases h0 : n = 0
  · subst h0; simpa using hk
  · exact (Nat.log2_lt h0).mpr h
/-! ### divisor -/
/-! ### the basis of vectors -/
abbrev vd (v : Int × Int) : PyData := .tuple [.int v.1, .int v.2]
abbrev Bs.d : Bs → PyData
  | .b0 => .tuple []
  | .b1 a b => .tuple [.tuple [.int a, .int b]]
  | .b2 a b d => .tuple [.tuple [.int a, .int b], .tuple [.int 0, .int d]]
theorem SpEq.cons {v : Int × Int} {vs ws : List (Int × Int)} (h : SpEq vs ws) : SpEq (v :: vs) (v :: ws) := by
  have key : ∀ {vs ws : List (Int × Int)}, SpEq vs ws → ∀ z ∈ v :: vs, Sp (v :: ws) z.1 z.2 := fun {vs ws} h z hz => by
    rcases List.mem_cons.mp hz with rfl | hz
    · exact .of (List.mem_cons_self ..)
    · exact ((h _ _).mp (.of hz)).mono fun _ q => List.mem_cons_of_mem _ q
  exact SpEq.of (key h) (key h.symm)
end M
namespace M
open PySem PySem.Spec PyProof.Rows L2 G
local macro_rules
  | `(tactic| simp? [$ls,*]) => `(tactic| simp (maxSteps := 1000000) (disch := first | assumption | (simp (disch := decide +kernel) only [G.sl_nil, G.sl_cons, List.cons_append, List.nil_append, G.shN_str, G.shN_tup, G.shN_lst, G.shN_int, G.shN_bool, G.shN_none, G.shA_nil, G.shA_cons, G.b_ta, G.ky_i, G.ky_s]; done) | exact G.len_ok (by simp only [G.sl_nil, G.sl_cons]) | decide | decide +kernel | exact G.mulOk_l (by decide) | exact G.mulOk_r (by decide) | omega) only [G.rb_ok, G.rb_ex, G.rb_bad, G.rb_ite, G.lz, G.ls, G.sz, G.ss, G.r_seq, G.k_seq1, G.k_seq2, G.k_seq3, G.k_seq4, G.r_nx, G.r_bk, G.r_ct, G.r_retN, G.r_ret, G.k_ret, G.r_drop, G.k_drop, G.r_if, G.r_ife, G.k_if, G.r_asg, G.k_asg1, G.k_asg2, G.k_asg3, G.k_sl1, G.k_sl2, G.k_sh1, G.k_sh2, G.k_sh3, G.k_sh4, G.k_sh5, G.r_asgG, G.k_asgG, G.k_asgL, G.k_tg, G.r_nm, G.r_tup, G.r_tup1, G.r_tup3, G.r_tup4, G.r_nil, G.r_cons, G.r_V, G.k_V1, G.k_V2, G.k_V4, G.k_V3, G.r_C, G.p_val, G.p_fr, G.p_sl, G.pb_1, G.pb_2, G.pb_3, G.od_1, G.od_2, G.p_1, G.p_2, G.p_3, G.q_1, G.q_2, G.q_3, G.re_1, G.re_2, G.re_ite, G.st_1, G.st_2, G.st_3, G.r_op2, G.k_op2a, G.k_op2b, G.k_op2c, G.r_op1, G.k_op1, G.ob_some, G.r_said, G.k_said1, G.r_opN, G.k_opN, G.r_pk0, G.r_pk1, G.k_pk, G.r_anil, G.r_acons, G.k_acons, G.k_acons2, G.shs_v0, G.shs_v1, G.shs_v2, G.shs_v3, G.shs_v4, G.om_some, G.r_tupT, G.r_lstT, G.k_dt, G.k_dl, G.k_d1, G.k_d2, G.r_fB, G.k_fB, G.r_and, G.r_or, G.r_andV, G.r_orV, G.r_not, G.r_notV, G.k_not, G.k_notV, G.r_yes, G.r_ch, G.k_ch1, G.k_ch2, G.k_ch3, G.k_ch4, G.k_ch5, G.r_call, G.c1_nil, G.c1_t, G.c1_f, G.c1_s, G.c1_s1, G.c1_s2, G.k_ca, G.k_c1, G.k_c2, G.c2_nil, G.c2_v, G.c2_s, G.c2_s1, G.c2_s3, G.c2_s2, G.k_call, G.k_w1, G.k_w2, G.k_w3, G.k_wite, G.wb_nil, G.wb_none, G.wb_some, G.k_wb1, G.k_wb2, G.wbx_nil, G.wbx_none, G.ap_nil, G.ap_nil2, G.ap_cons, G.ma_nil, G.ma_cons, G.ds_nil, G.ds_none, G.ds_some, G.me_nil, G.me_none, G.me_some, G.ou_0, G.ou_s, G.ob_val, G.ob_own, G.ob_un, G.ob_exc, G.ob_prm, G.le_0, G.le_s, G.k_rf1, G.k_rf2, G.k_rf3, G.k_rf4, G.k_rs1, G.k_rs2, G.r_set, G.k_set1, G.k_set2, G.k_set3, G.k_set4, G.k_set5, G.k_set6, G.k_set7, G.k_set8, G.k_set9, G.r_mut, G.k_mu1, G.k_mu2, G.k_mu3, G.k_mu4, G.k_mu5, G.k_mu6, G.k_mu7, G.k_app, G.k_apps, G.r_par, G.k_par1, G.k_par2, G.k_par3, G.k_par4, G.k_par5, G.r_par3, G.k_p3a, G.k_p3b, G.r_parN, G.k_pn1, G.k_pn2, G.k_nx, G.ev_nil, G.ev_cons, G.k_ev1, G.k_ev2, G.rs_nil, G.rs_val, G.rs_fr, G.rs_sl, G.k_rsS1, G.k_rsS2, G.bn_nil, G.bn_val, G.bn_fr, G.r_rep, G.k_rp1, G.k_rp2, G.k_rp3, G.ixN_last, G.set_last, G.ix_last, G.r_for, G.k_for, G.fo_nil, G.fo_cons, G.k_fo0, G.k_fo1, G.k_fo2, G.k_fo3, G.k_fo4, G.r_turn, G.k_tu0, G.k_tu1, G.k_tu2, G.k_tu3, G.k_tu4, G.r_seqI, G.k_seqI, G.k_seqI1, G.k_seqI3, G.k_seqI5, G.k_seqI6, G.k_seqI4, G.k_seqI2, G.r_rng1, G.k_rng1, G.k_rng1b, G.r_rng2, G.k_rng2, G.k_rng2b, G.rgl_0, G.rgl_1, G.rgl_2, G.rgl_3, G.rgl_4, G.rgl_5, G.rgl_6, G.rgl_7, G.rgl_8, G.rgl_9, G.rgl_10, G.rgl_12, G.rgl_16, G.r1l_1, G.r1l_2, G.r1l_3, G.r1l_4, G.r1l_5, G.r1l_6, G.r1l_8, G.rpl_0, G.rpl_1, G.rpl_2, G.rpl_3, G.rpl_4, G.rpl_5, G.rpl_6, G.rpl_7, G.rpl_8, G.r_lc, G.k_lc, G.l_nil, G.l_cons, G.l_A, G.l_B, G.l_C, G.l_C2, G.l_C3, G.l_S1, G.l_S2, G.l_D, G.k_lc1, G.wi_nil, G.wi_cons, G.mulOk_l, G.mulOk_r, G.r_sl, G.k_sla, G.k_slb, G.k_slc, G.k_sld, G.pt_n, G.pt_s, G.k_pt, G.cu_t, G.cu_l, G.cu_1n, G.cu_2n, G.cu_n1, G.d_add, G.d_addT, G.d_addTs, G.d_addL, G.d_addLs, G.d_sub, G.d_mul, G.d_fdiv, G.d_mod, G.d_neg, G.d_cmp, G.d_ixT, G.d_ixL, G.at_0, G.at_1, G.at_2, G.at_3, G.d_lenL, G.d_lenT, G.d_tupL, G.d_tupT, G.d_all, G.k_all, G.d_any, G.k_any, G.bo_nil, G.bo_cons, G.al_nil, G.al_cons, G.al_map, G.an_nil, G.an_cons, G.an_map, G.id_b, G.bo_map, G.d_max, G.d_min, G.d_listL, G.d_listT, G.d_p18, G.d_p13, G.d_p12, G.d_is, G.d_abs, G.d_repr, G.d_eqS, G.d_neS, G.d_eqI, G.d_neI, G.d_isi, G.isy_int_none, G.isy_int_bool, G.isy_int_int, G.isy_int_str, G.isy_int_list, G.isy_int_tuple, G.isy_int_dict, G.isy_bool_none, G.isy_bool_bool, G.isy_bool_int, G.isy_bool_str, G.isy_bool_list, G.isy_bool_tuple, G.isy_bool_dict, G.isy_tuple_none, G.isy_tuple_bool, G.isy_tuple_int, G.isy_tuple_str, G.isy_tuple_list, G.isy_tuple_tuple, G.isy_tuple_dict, G.isy_list_none, G.isy_list_bool, G.isy_list_int, G.isy_list_str, G.isy_list_list, G.isy_list_tuple, G.isy_list_dict, G.isy_str_none, G.isy_str_bool, G.isy_str_int, G.isy_str_str, G.isy_str_list, G.isy_str_tuple, G.isy_str_dict, G.isy_dict_none, G.isy_dict_bool, G.isy_dict_int, G.isy_dict_str, G.isy_dict_list, G.isy_dict_tuple, G.isy_dict_dict, G.it_t, G.it_f, G.b_tt, G.b_ft, G.b_nt, G.b_nf, G.b_ta, G.b_fa, G.b_at, G.b_to, G.b_fo, G.lI_0, G.lI_1, G.lI_2, G.lI_3, G.lI_4, G.lI_5, G.lI_m, G.bs_f, G.es_f, G.bb_tt, G.bb_tf, G.bb_ft, G.bb_ff, G.bq_s, G.r_dic, G.k_dic1, G.k_dic2, G.k_dic3, G.k_dic4, G.k_kD1, G.k_kD2, G.k_fl0, G.k_fl1, G.k_pr0, G.k_pr1, G.k_pr2, G.r_dic0, G.d_ixDi, G.d_ixDs, G.d_inGT, G.d_inGL, G.d_ninGT, G.d_ninGL, G.d_inGi, G.d_ninGi, G.k_vals, G.k_items, G.d_setDi, G.dg_nil, G.dg_i, G.dg_s, G.mg_0, G.mg_s, G.dpk_n, G.ky_i, G.ky_s, G.d_eqX, G.d_neX, G.d_inT, G.d_inL, G.d_ninT, G.d_ninL, G.ev_ii, G.ev_bb, G.ev_ss, G.ev_nn, G.ev_tt, G.ev_ll, G.ev_0, G.ev_c, G.ev_c0, G.ev_0c, G.ev_none_bool, G.ev_none_int, G.ev_none_str, G.ev_none_list, G.ev_none_tuple, G.ev_bool_none, G.ev_bool_str, G.ev_bool_list, G.ev_bool_tuple, G.ev_int_none, G.ev_int_str, G.ev_int_list, G.ev_int_tuple, G.ev_str_none, G.ev_str_bool, G.ev_str_int, G.ev_str_list, G.ev_str_tuple, G.ev_list_none, G.ev_list_bool, G.ev_list_int, G.ev_list_str, G.ev_list_tuple, G.ev_tuple_none, G.ev_tuple_bool, G.ev_tuple_int, G.ev_tuple_str, G.ev_tuple_list, G.dec_t, G.not_dec, G.k_popA, G.k_popZ, G.k_pop1, G.r_ext, G.k_ext1, G.k_ext2, G.k_ext3, G.k_ext4, G.r_items, G.k_itemsJ, G.d_listD, G.d_intI, G.d_intB, G.d_strI, G.r_subG, G.k_sub1, G.k_sub2, G.k_sub3, G.k_sub4, G.k_sub5, G.k_sub6, G.k_sub7, G.r_tupL1, G.r_tupL2, G.r_tupL3, G.r_tupL4, G.d_isB, G.d_isnB, G.d_isnN, G.d_revL, G.d_revT, G.r_permA, G.k_perm1, G.k_perm2, G.k_perm3a, G.k_perm3b, G.k_perm3c, G.k_perm3d, G.k_perm3e, Int.reduceEq, Int.reduceLE, Int.reduceLT, Int.reduceAdd, Int.reduceSub, Int.reduceMul, Int.reduceNeg, Nat.reduceAdd, List.nil_append, not_true_eq_false, not_false_eq_true, and_true, true_and, and_false, false_and, or_true, true_or, or_false, false_or, decide_true, decide_false, eq_self, Bool.and_true, Bool.and_false, $ls,*])
  | `(tactic| simp? [$ls,*] at $h:ident) => `(tactic| simp (maxSteps := 1000000) (disch := first | assumption | (simp (disch := decide +kernel) only [G.sl_nil, G.sl_cons, List.cons_append, List.nil_append, G.shN_str, G.shN_tup, G.shN_lst, G.shN_int, G.shN_bool, G.shN_none, G.shA_nil, G.shA_cons, G.b_ta, G.ky_i, G.ky_s]; done) | exact G.len_ok (by simp only [G.sl_nil, G.sl_cons]) | decide | decide +kernel | exact G.mulOk_l (by decide) | exact G.mulOk_r (by decide) | omega) only [G.rb_ok, G.rb_ex, G.rb_bad, G.rb_ite, G.lz, G.ls, G.sz, G.ss, G.r_seq, G.k_seq1, G.k_seq2, G.k_seq3, G.k_seq4, G.r_nx, G.r_bk, G.r_ct, G.r_retN, G.r_ret, G.k_ret, G.r_drop, G.k_drop, G.r_if, G.r_ife, G.k_if, G.r_asg, G.k_asg1, G.k_asg2, G.k_asg3, G.k_sl1, G.k_sl2, G.k_sh1, G.k_sh2, G.k_sh3, G.k_sh4, G.k_sh5, G.r_asgG, G.k_asgG, G.k_asgL, G.k_tg, G.r_nm, G.r_tup, G.r_tup1, G.r_tup3, G.r_tup4, G.r_nil, G.r_cons, G.r_V, G.k_V1, G.k_V2, G.k_V4, G.k_V3, G.r_C, G.p_val, G.p_fr, G.p_sl, G.pb_1, G.pb_2, G.pb_3, G.od_1, G.od_2, G.p_1, G.p_2, G.p_3, G.q_1, G.q_2, G.q_3, G.re_1, G.re_2, G.re_ite, G.st_1, G.st_2, G.st_3, G.r_op2, G.k_op2a, G.k_op2b, G.k_op2c, G.r_op1, G.k_op1, G.ob_some, G.r_said, G.k_said1, G.r_opN, G.k_opN, G.r_pk0, G.r_pk1, G.k_pk, G.r_anil, G.r_acons, G.k_acons, G.k_acons2, G.shs_v0, G.shs_v1, G.shs_v2, G.shs_v3, G.shs_v4, G.om_some, G.r_tupT, G.r_lstT, G.k_dt, G.k_dl, G.k_d1, G.k_d2, G.r_fB, G.k_fB, G.r_and, G.r_or, G.r_andV, G.r_orV, G.r_not, G.r_notV, G.k_not, G.k_notV, G.r_yes, G.r_ch, G.k_ch1, G.k_ch2, G.k_ch3, G.k_ch4, G.k_ch5, G.r_call, G.c1_nil, G.c1_t, G.c1_f, G.c1_s, G.c1_s1, G.c1_s2, G.k_ca, G.k_c1, G.k_c2, G.c2_nil, G.c2_v, G.c2_s, G.c2_s1, G.c2_s3, G.c2_s2, G.k_call, G.k_w1, G.k_w2, G.k_w3, G.k_wite, G.wb_nil, G.wb_none, G.wb_some, G.k_wb1, G.k_wb2, G.wbx_nil, G.wbx_none, G.ap_nil, G.ap_nil2, G.ap_cons, G.ma_nil, G.ma_cons, G.ds_nil, G.ds_none, G.ds_some, G.me_nil, G.me_none, G.me_some, G.ou_0, G.ou_s, G.ob_val, G.ob_own, G.ob_un, G.ob_exc, G.ob_prm, G.le_0, G.le_s, G.k_rf1, G.k_rf2, G.k_rf3, G.k_rf4, G.k_rs1, G.k_rs2, G.r_set, G.k_set1, G.k_set2, G.k_set3, G.k_set4, G.k_set5, G.k_set6, G.k_set7, G.k_set8, G.k_set9, G.r_mut, G.k_mu1, G.k_mu2, G.k_mu3, G.k_mu4, G.k_mu5, G.k_mu6, G.k_mu7, G.k_app, G.k_apps, G.r_par, G.k_par1, G.k_par2, G.k_par3, G.k_par4, G.k_par5, G.r_par3, G.k_p3a, G.k_p3b, G.r_parN, G.k_pn1, G.k_pn2, G.k_nx, G.ev_nil, G.ev_cons, G.k_ev1, G.k_ev2, G.rs_nil, G.rs_val, G.rs_fr, G.rs_sl, G.k_rsS1, G.k_rsS2, G.bn_nil, G.bn_val, G.bn_fr, G.r_rep, G.k_rp1, G.k_rp2, G.k_rp3, G.ixN_last, G.set_last, G.ix_last, G.r_for, G.k_for, G.fo_nil, G.fo_cons, G.k_fo0, G.k_fo1, G.k_fo2, G.k_fo3, G.k_fo4, G.r_turn, G.k_tu0, G.k_tu1, G.k_tu2, G.k_tu3, G.k_tu4, G.r_seqI, G.k_seqI, G.k_seqI1, G.k_seqI3, G.k_seqI5, G.k_seqI6, G.k_seqI4, G.k_seqI2, G.r_rng1, G.k_rng1, G.k_rng1b, G.r_rng2, G.k_rng2, G.k_rng2b, G.rgl_0, G.rgl_1, G.rgl_2, G.rgl_3, G.rgl_4, G.rgl_5, G.rgl_6, G.rgl_7, G.rgl_8, G.rgl_9, G.rgl_10, G.rgl_12, G.rgl_16, G.r1l_1, G.r1l_2, G.r1l_3, G.r1l_4, G.r1l_5, G.r1l_6, G.r1l_8, G.rpl_0, G.rpl_1, G.rpl_2, G.rpl_3, G.rpl_4, G.rpl_5, G.rpl_6, G.rpl_7, G.rpl_8, G.r_lc, G.k_lc, G.l_nil, G.l_cons, G.l_A, G.l_B, G.l_C, G.l_C2, G.l_C3, G.l_S1, G.l_S2, G.l_D, G.k_lc1, G.wi_nil, G.wi_cons, G.mulOk_l, G.mulOk_r, G.r_sl, G.k_sla, G.k_slb, G.k_slc, G.k_sld, G.pt_n, G.pt_s, G.k_pt, G.cu_t, G.cu_l, G.cu_1n, G.cu_2n, G.cu_n1, G.d_add, G.d_addT, G.d_addTs, G.d_addL, G.d_addLs, G.d_sub, G.d_mul, G.d_fdiv, G.d_mod, G.d_neg, G.d_cmp, G.d_ixT, G.d_ixL, G.at_0, G.at_1, G.at_2, G.at_3, G.d_lenL, G.d_lenT, G.d_tupL, G.d_tupT, G.d_all, G.k_all, G.d_any, G.k_any, G.bo_nil, G.bo_cons, G.al_nil, G.al_cons, G.al_map, G.an_nil, G.an_cons, G.an_map, G.id_b, G.bo_map, G.d_max, G.d_min, G.d_listL, G.d_listT, G.d_p18, G.d_p13, G.d_p12, G.d_is, G.d_abs, G.d_repr, G.d_eqS, G.d_neS, G.d_eqI, G.d_neI, G.d_isi, G.isy_int_none, G.isy_int_bool, G.isy_int_int, G.isy_int_str, G.isy_int_list, G.isy_int_tuple, G.isy_int_dict, G.isy_bool_none, G.isy_bool_bool, G.isy_bool_int, G.isy_bool_str, G.isy_bool_list, G.isy_bool_tuple, G.isy_bool_dict, G.isy_tuple_none, G.isy_tuple_bool, G.isy_tuple_int, G.isy_tuple_str, G.isy_tuple_list, G.isy_tuple_tuple, G.isy_tuple_dict, G.isy_list_none, G.isy_list_bool, G.isy_list_int, G.isy_list_str, G.isy_list_list, G.isy_list_tuple, G.isy_list_dict, G.isy_str_none, G.isy_str_bool, G.isy_str_int, G.isy_str_str, G.isy_str_list, G.isy_str_tuple, G.isy_str_dict, G.isy_dict_none, G.isy_dict_bool, G.isy_dict_int, G.isy_dict_str, G.isy_dict_list, G.isy_dict_tuple, G.isy_dict_dict, G.it_t, G.it_f, G.b_tt, G.b_ft, G.b_nt, G.b_nf, G.b_ta, G.b_fa, G.b_at, G.b_to, G.b_fo, G.lI_0, G.lI_1, G.lI_2, G.lI_3, G.lI_4, G.lI_5, G.lI_m, G.bs_f, G.es_f, G.bb_tt, G.bb_tf, G.bb_ft, G.bb_ff, G.bq_s, G.r_dic, G.k_dic1, G.k_dic2, G.k_dic3, G.k_dic4, G.k_kD1, G.k_kD2, G.k_fl0, G.k_fl1, G.k_pr0, G.k_pr1, G.k_pr2, G.r_dic0, G.d_ixDi, G.d_ixDs, G.d_inGT, G.d_inGL, G.d_ninGT, G.d_ninGL, G.d_inGi, G.d_ninGi, G.k_vals, G.k_items, G.d_setDi, G.dg_nil, G.dg_i, G.dg_s, G.mg_0, G.mg_s, G.dpk_n, G.ky_i, G.ky_s, G.d_eqX, G.d_neX, G.d_inT, G.d_inL, G.d_ninT, G.d_ninL, G.ev_ii, G.ev_bb, G.ev_ss, G.ev_nn, G.ev_tt, G.ev_ll, G.ev_0, G.ev_c, G.ev_c0, G.ev_0c, G.ev_none_bool, G.ev_none_int, G.ev_none_str, G.ev_none_list, G.ev_none_tuple, G.ev_bool_none, G.ev_bool_str, G.ev_bool_list, G.ev_bool_tuple, G.ev_int_none, G.ev_int_str, G.ev_int_list, G.ev_int_tuple, G.ev_str_none, G.ev_str_bool, G.ev_str_int, G.ev_str_list, G.ev_str_tuple, G.ev_list_none, G.ev_list_bool, G.ev_list_int, G.ev_list_str, G.ev_list_tuple, G.ev_tuple_none, G.ev_tuple_bool, G.ev_tuple_int, G.ev_tuple_str, G.ev_tuple_list, G.dec_t, G.not_dec, G.k_popA, G.k_popZ, G.k_pop1, G.r_ext, G.k_ext1, G.k_ext2, G.k_ext3, G.k_ext4, G.r_items, G.k_itemsJ, G.d_listD, G.d_intI, G.d_intB, G.d_strI, G.r_subG, G.k_sub1, G.k_sub2, G.k_sub3, G.k_sub4, G.k_sub5, G.k_sub6, G.k_sub7, G.r_tupL1, G.r_tupL2, G.r_tupL3, G.r_tupL4, G.d_isB, G.d_isnB, G.d_isnN, G.d_revL, G.d_revT, G.r_permA, G.k_perm1, G.k_perm2, G.k_perm3a, G.k_perm3b, G.k_perm3c, G.k_perm3d, G.k_perm3e, Int.reduceEq, Int.reduceLE, Int.reduceLT, Int.reduceAdd, Int.reduceSub, Int.reduceMul, Int.reduceNeg, Nat.reduceAdd, List.nil_append, not_true_eq_false, not_false_eq_true, and_true, true_and, and_false, false_and, or_true, true_or, or_false, false_or, decide_true, decide_false, eq_self, Bool.and_true, Bool.and_false, $ls,*] at $h:ident)
/-! ### vectors reduced -/
def Sm (z : Int) : Prop := z.natAbs < 2 ^ 100
def Bs.Sm (A : Bs) : Prop := ∀ v ∈ A.vs, M.Sm v.1 ∧ M.Sm v.2
def Bs.reds (A : Bs) (s : Sym) : Sym := ⟨s.k, (A.red (s.x, s.y)).1, (A.red (s.x, s.y)).2⟩
end M
namespace M
open PySem PySem.Spec PyProof.Rows L2 G
local macro_rules
  | `(tactic| simp? [$ls,*]) => `(tactic| simp (maxSteps := 1000000) (disch := first | assumption | (simp (disch := decide +kernel) only [G.sl_nil, G.sl_cons, List.cons_append, List.nil_append, G.shN_str, G.shN_tup, G.shN_lst, G.shN_int, G.shN_bool, G.shN_none, G.shA_nil, G.shA_cons, G.b_ta, G.ky_i, G.ky_s]; done) | exact G.len_ok (by simp only [G.sl_nil, G.sl_cons]) | decide | decide +kernel | exact G.mulOk_l (by decide) | exact G.mulOk_r (by decide) | omega) only [G.rb_ok, G.rb_ex, G.rb_bad, G.rb_ite, G.lz, G.ls, G.sz, G.ss, G.r_seq, G.k_seq1, G.k_seq2, G.k_seq3, G.k_seq4, G.r_nx, G.r_bk, G.r_ct, G.r_retN, G.r_ret, G.k_ret, G.r_drop, G.k_drop, G.r_if, G.r_ife, G.k_if, G.r_asg, G.k_asg1, G.k_asg2, G.k_asg3, G.k_sl1, G.k_sl2, G.k_sh1, G.k_sh2, G.k_sh3, G.k_sh4, G.k_sh5, G.r_asgG, G.k_asgG, G.k_asgL, G.k_tg, G.r_nm, G.r_tup, G.r_tup1, G.r_tup3, G.r_tup4, G.r_nil, G.r_cons, G.r_V, G.k_V1, G.k_V2, G.k_V4, G.k_V3, G.r_C, G.p_val, G.p_fr, G.p_sl, G.pb_1, G.pb_2, G.pb_3, G.od_1, G.od_2, G.p_1, G.p_2, G.p_3, G.q_1, G.q_2, G.q_3, G.re_1, G.re_2, G.re_ite, G.st_1, G.st_2, G.st_3, G.r_op2, G.k_op2a, G.k_op2b, G.k_op2c, G.r_op1, G.k_op1, G.ob_some, G.r_said, G.k_said1, G.r_opN, G.k_opN, G.r_pk0, G.r_pk1, G.k_pk, G.r_anil, G.r_acons, G.k_acons, G.k_acons2, G.shs_v0, G.shs_v1, G.shs_v2, G.shs_v3, G.shs_v4, G.om_some, G.r_tupT, G.r_lstT, G.k_dt, G.k_dl, G.k_d1, G.k_d2, G.r_fB, G.k_fB, G.r_and, G.r_or, G.r_andV, G.r_orV, G.r_not, G.r_notV, G.k_not, G.k_notV, G.r_yes, G.r_ch, G.k_ch1, G.k_ch2, G.k_ch3, G.k_ch4, G.k_ch5, G.r_call, G.c1_nil, G.c1_t, G.c1_f, G.c1_s, G.c1_s1, G.c1_s2, G.k_ca, G.k_c1, G.k_c2, G.c2_nil, G.c2_v, G.c2_s, G.c2_s1, G.c2_s3, G.c2_s2, G.k_call, G.k_w1, G.k_w2, G.k_w3, G.k_wite, G.wb_nil, G.wb_none, G.wb_some, G.k_wb1, G.k_wb2, G.wbx_nil, G.wbx_none, G.ap_nil, G.ap_nil2, G.ap_cons, G.ma_nil, G.ma_cons, G.ds_nil, G.ds_none, G.ds_some, G.me_nil, G.me_none, G.me_some, G.ou_0, G.ou_s, G.ob_val, G.ob_own, G.ob_un, G.ob_exc, G.ob_prm, G.le_0, G.le_s, G.k_rf1, G.k_rf2, G.k_rf3, G.k_rf4, G.k_rs1, G.k_rs2, G.r_set, G.k_set1, G.k_set2, G.k_set3, G.k_set4, G.k_set5, G.k_set6, G.k_set7, G.k_set8, G.k_set9, G.r_mut, G.k_mu1, G.k_mu2, G.k_mu3, G.k_mu4, G.k_mu5, G.k_mu6, G.k_mu7, G.k_app, G.k_apps, G.r_par, G.k_par1, G.k_par2, G.k_par3, G.k_par4, G.k_par5, G.r_par3, G.k_p3a, G.k_p3b, G.r_parN, G.k_pn1, G.k_pn2, G.k_nx, G.ev_nil, G.ev_cons, G.k_ev1, G.k_ev2, G.rs_nil, G.rs_val, G.rs_fr, G.rs_sl, G.k_rsS1, G.k_rsS2, G.bn_nil, G.bn_val, G.bn_fr, G.r_rep, G.k_rp1, G.k_rp2, G.k_rp3, G.ixN_last, G.set_last, G.ix_last, G.r_for, G.k_for, G.fo_nil, G.fo_cons, G.k_fo0, G.k_fo1, G.k_fo2, G.k_fo3, G.k_fo4, G.r_turn, G.k_tu0, G.k_tu1, G.k_tu2, G.k_tu3, G.k_tu4, G.r_seqI, G.k_seqI, G.k_seqI1, G.k_seqI3, G.k_seqI5, G.k_seqI6, G.k_seqI4, G.k_seqI2, G.r_rng1, G.k_rng1, G.k_rng1b, G.r_rng2, G.k_rng2, G.k_rng2b, G.rgl_0, G.rgl_1, G.rgl_2, G.rgl_3, G.rgl_4, G.rgl_5, G.rgl_6, G.rgl_7, G.rgl_8, G.rgl_9, G.rgl_10, G.rgl_12, G.rgl_16, G.r1l_1, G.r1l_2, G.r1l_3, G.r1l_4, G.r1l_5, G.r1l_6, G.r1l_8, G.rpl_0, G.rpl_1, G.rpl_2, G.rpl_3, G.rpl_4, G.rpl_5, G.rpl_6, G.rpl_7, G.rpl_8, G.r_lc, G.k_lc, G.l_nil, G.l_cons, G.l_A, G.l_B, G.l_C, G.l_C2, G.l_C3, G.l_S1, G.l_S2, G.l_D, G.k_lc1, G.wi_nil, G.wi_cons, G.mulOk_l, G.mulOk_r, G.r_sl, G.k_sla, G.k_slb, G.k_slc, G.k_sld, G.pt_n, G.pt_s, G.k_pt, G.cu_t, G.cu_l, G.cu_1n, G.cu_2n, G.cu_n1, G.d_add, G.d_addT, G.d_addTs, G.d_addL, G.d_addLs, G.d_sub, G.d_mul, G.d_fdiv, G.d_mod, G.d_neg, G.d_cmp, G.d_ixT, G.d_ixL, G.at_0, G.at_1, G.at_2, G.at_3, G.d_lenL, G.d_lenT, G.d_tupL, G.d_tupT, G.d_all, G.k_all, G.d_any, G.k_any, G.bo_nil, G.bo_cons, G.al_nil, G.al_cons, G.al_map, G.an_nil, G.an_cons, G.an_map, G.id_b, G.bo_map, G.d_max, G.d_min, G.d_listL, G.d_listT, G.d_p18, G.d_p13, G.d_p12, G.d_is, G.d_abs, G.d_repr, G.d_eqS, G.d_neS, G.d_eqI, G.d_neI, G.d_isi, G.isy_int_none, G.isy_int_bool, G.isy_int_int, G.isy_int_str, G.isy_int_list, G.isy_int_tuple, G.isy_int_dict, G.isy_bool_none, G.isy_bool_bool, G.isy_bool_int, G.isy_bool_str, G.isy_bool_list, G.isy_bool_tuple, G.isy_bool_dict, G.isy_tuple_none, G.isy_tuple_bool, G.isy_tuple_int, G.isy_tuple_str, G.isy_tuple_list, G.isy_tuple_tuple, G.isy_tuple_dict, G.isy_list_none, G.isy_list_bool, G.isy_list_int, G.isy_list_str, G.isy_list_list, G.isy_list_tuple, G.isy_list_dict, G.isy_str_none, G.isy_str_bool, G.isy_str_int, G.isy_str_str, G.isy_str_list, G.isy_str_tuple, G.isy_str_dict, G.isy_dict_none, G.isy_dict_bool, G.isy_dict_int, G.isy_dict_str, G.isy_dict_list, G.isy_dict_tuple, G.isy_dict_dict, G.it_t, G.it_f, G.b_tt, G.b_ft, G.b_nt, G.b_nf, G.b_ta, G.b_fa, G.b_at, G.b_to, G.b_fo, G.lI_0, G.lI_1, G.lI_2, G.lI_3, G.lI_4, G.lI_5, G.lI_m, G.bs_f, G.es_f, G.bb_tt, G.bb_tf, G.bb_ft, G.bb_ff, G.bq_s, G.r_dic, G.k_dic1, G.k_dic2, G.k_dic3, G.k_dic4, G.k_kD1, G.k_kD2, G.k_fl0, G.k_fl1, G.k_pr0, G.k_pr1, G.k_pr2, G.r_dic0, G.d_ixDi, G.d_ixDs, G.d_inGT, G.d_inGL, G.d_ninGT, G.d_ninGL, G.d_inGi, G.d_ninGi, G.k_vals, G.k_items, G.d_setDi, G.dg_nil, G.dg_i, G.dg_s, G.mg_0, G.mg_s, G.dpk_n, G.ky_i, G.ky_s, G.d_eqX, G.d_neX, G.d_inT, G.d_inL, G.d_ninT, G.d_ninL, G.ev_ii, G.ev_bb, G.ev_ss, G.ev_nn, G.ev_tt, G.ev_ll, G.ev_0, G.ev_c, G.ev_c0, G.ev_0c, G.ev_none_bool, G.ev_none_int, G.ev_none_str, G.ev_none_list, G.ev_none_tuple, G.ev_bool_none, G.ev_bool_str, G.ev_bool_list, G.ev_bool_tuple, G.ev_int_none, G.ev_int_str, G.ev_int_list, G.ev_int_tuple, G.ev_str_none, G.ev_str_bool, G.ev_str_int, G.ev_str_list, G.ev_str_tuple, G.ev_list_none, G.ev_list_bool, G.ev_list_int, G.ev_list_str, G.ev_list_tuple, G.ev_tuple_none, G.ev_tuple_bool, G.ev_tuple_int, G.ev_tuple_str, G.ev_tuple_list, G.dec_t, G.not_dec, G.k_popA, G.k_popZ, G.k_pop1, G.r_ext, G.k_ext1, G.k_ext2, G.k_ext3, G.k_ext4, G.r_items, G.k_itemsJ, G.d_listD, G.d_intI, G.d_intB, G.d_strI, G.r_subG, G.k_sub1, G.k_sub2, G.k_sub3, G.k_sub4, G.k_sub5, G.k_sub6, G.k_sub7, G.r_tupL1, G.r_tupL2, G.r_tupL3, G.r_tupL4, G.d_isB, G.d_isnB, G.d_isnN, G.d_revL, G.d_revT, G.r_permA, G.k_perm1, G.k_perm2, G.k_perm3a, G.k_perm3b, G.k_perm3c, G.k_perm3d, G.k_perm3e, Int.reduceEq, Int.reduceLE, Int.reduceLT, Int.reduceAdd, Int.reduceSub, Int.reduceMul, Int.reduceNeg, Nat.reduceAdd, List.nil_append, not_true_eq_false, not_false_eq_true, and_true, true_and, and_false, false_and, or_true, true_or, or_false, false_or, decide_true, decide_false, eq_self, Bool.and_true, Bool.and_false, $ls,*])
  | `(tactic| simp? [$ls,*] at $h:ident) => `(tactic| simp (maxSteps := 1000000) (disch := first | assumption | (simp (disch := decide +kernel) only [G.sl_nil, G.sl_cons, List.cons_append, List.nil_append, G.shN_str, G.shN_tup, G.shN_lst, G.shN_int, G.shN_bool, G.shN_none, G.shA_nil, G.shA_cons, G.b_ta, G.ky_i, G.ky_s]; done) | exact G.len_ok (by simp only [G.sl_nil, G.sl_cons]) | decide | decide +kernel | exact G.mulOk_l (by decide) | exact G.mulOk_r (by decide) | omega) only [G.rb_ok, G.rb_ex, G.rb_bad, G.rb_ite, G.lz, G.ls, G.sz, G.ss, G.r_seq, G.k_seq1, G.k_seq2, G.k_seq3, G.k_seq4, G.r_nx, G.r_bk, G.r_ct, G.r_retN, G.r_ret, G.k_ret, G.r_drop, G.k_drop, G.r_if, G.r_ife, G.k_if, G.r_asg, G.k_asg1, G.k_asg2, G.k_asg3, G.k_sl1, G.k_sl2, G.k_sh1, G.k_sh2, G.k_sh3, G.k_sh4, G.k_sh5, G.r_asgG, G.k_asgG, G.k_asgL, G.k_tg, G.r_nm, G.r_tup, G.r_tup1, G.r_tup3, G.r_tup4, G.r_nil, G.r_cons, G.r_V, G.k_V1, G.k_V2, G.k_V4, G.k_V3, G.r_C, G.p_val, G.p_fr, G.p_sl, G.pb_1, G.pb_2, G.pb_3, G.od_1, G.od_2, G.p_1, G.p_2, G.p_3, G.q_1, G.q_2, G.q_3, G.re_1, G.re_2, G.re_ite, G.st_1, G.st_2, G.st_3, G.r_op2, G.k_op2a, G.k_op2b, G.k_op2c, G.r_op1, G.k_op1, G.ob_some, G.r_said, G.k_said1, G.r_opN, G.k_opN, G.r_pk0, G.r_pk1, G.k_pk, G.r_anil, G.r_acons, G.k_acons, G.k_acons2, G.shs_v0, G.shs_v1, G.shs_v2, G.shs_v3, G.shs_v4, G.om_some, G.r_tupT, G.r_lstT, G.k_dt, G.k_dl, G.k_d1, G.k_d2, G.r_fB, G.k_fB, G.r_and, G.r_or, G.r_andV, G.r_orV, G.r_not, G.r_notV, G.k_not, G.k_notV, G.r_yes, G.r_ch, G.k_ch1, G.k_ch2, G.k_ch3, G.k_ch4, G.k_ch5, G.r_call, G.c1_nil, G.c1_t, G.c1_f, G.c1_s, G.c1_s1, G.c1_s2, G.k_ca, G.k_c1, G.k_c2, G.c2_nil, G.c2_v, G.c2_s, G.c2_s1, G.c2_s3, G.c2_s2, G.k_call, G.k_w1, G.k_w2, G.k_w3, G.k_wite, G.wb_nil, G.wb_none, G.wb_some, G.k_wb1, G.k_wb2, G.wbx_nil, G.wbx_none, G.ap_nil, G.ap_nil2, G.ap_cons, G.ma_nil, G.ma_cons, G.ds_nil, G.ds_none, G.ds_some, G.me_nil, G.me_none, G.me_some, G.ou_0, G.ou_s, G.ob_val, G.ob_own, G.ob_un, G.ob_exc, G.ob_prm, G.le_0, G.le_s, G.k_rf1, G.k_rf2, G.k_rf3, G.k_rf4, G.k_rs1, G.k_rs2, G.r_set, G.k_set1, G.k_set2, G.k_set3, G.k_set4, G.k_set5, G.k_set6, G.k_set7, G.k_set8, G.k_set9, G.r_mut, G.k_mu1, G.k_mu2, G.k_mu3, G.k_mu4, G.k_mu5, G.k_mu6, G.k_mu7, G.k_app, G.k_apps, G.r_par, G.k_par1, G.k_par2, G.k_par3, G.k_par4, G.k_par5, G.r_par3, G.k_p3a, G.k_p3b, G.r_parN, G.k_pn1, G.k_pn2, G.k_nx, G.ev_nil, G.ev_cons, G.k_ev1, G.k_ev2, G.rs_nil, G.rs_val, G.rs_fr, G.rs_sl, G.k_rsS1, G.k_rsS2, G.bn_nil, G.bn_val, G.bn_fr, G.r_rep, G.k_rp1, G.k_rp2, G.k_rp3, G.ixN_last, G.set_last, G.ix_last, G.r_for, G.k_for, G.fo_nil, G.fo_cons, G.k_fo0, G.k_fo1, G.k_fo2, G.k_fo3, G.k_fo4, G.r_turn, G.k_tu0, G.k_tu1, G.k_tu2, G.k_tu3, G.k_tu4, G.r_seqI, G.k_seqI, G.k_seqI1, G.k_seqI3, G.k_seqI5, G.k_seqI6, G.k_seqI4, G.k_seqI2, G.r_rng1, G.k_rng1, G.k_rng1b, G.r_rng2, G.k_rng2, G.k_rng2b, G.rgl_0, G.rgl_1, G.rgl_2, G.rgl_3, G.rgl_4, G.rgl_5, G.rgl_6, G.rgl_7, G.rgl_8, G.rgl_9, G.rgl_10, G.rgl_12, G.rgl_16, G.r1l_1, G.r1l_2, G.r1l_3, G.r1l_4, G.r1l_5, G.r1l_6, G.r1l_8, G.rpl_0, G.rpl_1, G.rpl_2, G.rpl_3, G.rpl_4, G.rpl_5, G.rpl_6, G.rpl_7, G.rpl_8, G.r_lc, G.k_lc, G.l_nil, G.l_cons, G.l_A, G.l_B, G.l_C, G.l_C2, G.l_C3, G.l_S1, G.l_S2, G.l_D, G.k_lc1, G.wi_nil, G.wi_cons, G.mulOk_l, G.mulOk_r, G.r_sl, G.k_sla, G.k_slb, G.k_slc, G.k_sld, G.pt_n, G.pt_s, G.k_pt, G.cu_t, G.cu_l, G.cu_1n, G.cu_2n, G.cu_n1, G.d_add, G.d_addT, G.d_addTs, G.d_addL, G.d_addLs, G.d_sub, G.d_mul, G.d_fdiv, G.d_mod, G.d_neg, G.d_cmp, G.d_ixT, G.d_ixL, G.at_0, G.at_1, G.at_2, G.at_3, G.d_lenL, G.d_lenT, G.d_tupL, G.d_tupT, G.d_all, G.k_all, G.d_any, G.k_any, G.bo_nil, G.bo_cons, G.al_nil, G.al_cons, G.al_map, G.an_nil, G.an_cons, G.an_map, G.id_b, G.bo_map, G.d_max, G.d_min, G.d_listL, G.d_listT, G.d_p18, G.d_p13, G.d_p12, G.d_is, G.d_abs, G.d_repr, G.d_eqS, G.d_neS, G.d_eqI, G.d_neI, G.d_isi, G.isy_int_none, G.isy_int_bool, G.isy_int_int, G.isy_int_str, G.isy_int_list, G.isy_int_tuple, G.isy_int_dict, G.isy_bool_none, G.isy_bool_bool, G.isy_bool_int, G.isy_bool_str, G.isy_bool_list, G.isy_bool_tuple, G.isy_bool_dict, G.isy_tuple_none, G.isy_tuple_bool, G.isy_tuple_int, G.isy_tuple_str, G.isy_tuple_list, G.isy_tuple_tuple, G.isy_tuple_dict, G.isy_list_none, G.isy_list_bool, G.isy_list_int, G.isy_list_str, G.isy_list_list, G.isy_list_tuple, G.isy_list_dict, G.isy_str_none, G.isy_str_bool, G.isy_str_int, G.isy_str_str, G.isy_str_list, G.isy_str_tuple, G.isy_str_dict, G.isy_dict_none, G.isy_dict_bool, G.isy_dict_int, G.isy_dict_str, G.isy_dict_list, G.isy_dict_tuple, G.isy_dict_dict, G.it_t, G.it_f, G.b_tt, G.b_ft, G.b_nt, G.b_nf, G.b_ta, G.b_fa, G.b_at, G.b_to, G.b_fo, G.lI_0, G.lI_1, G.lI_2, G.lI_3, G.lI_4, G.lI_5, G.lI_m, G.bs_f, G.es_f, G.bb_tt, G.bb_tf, G.bb_ft, G.bb_ff, G.bq_s, G.r_dic, G.k_dic1, G.k_dic2, G.k_dic3, G.k_dic4, G.k_kD1, G.k_kD2, G.k_fl0, G.k_fl1, G.k_pr0, G.k_pr1, G.k_pr2, G.r_dic0, G.d_ixDi, G.d_ixDs, G.d_inGT, G.d_inGL, G.d_ninGT, G.d_ninGL, G.d_inGi, G.d_ninGi, G.k_vals, G.k_items, G.d_setDi, G.dg_nil, G.dg_i, G.dg_s, G.mg_0, G.mg_s, G.dpk_n, G.ky_i, G.ky_s, G.d_eqX, G.d_neX, G.d_inT, G.d_inL, G.d_ninT, G.d_ninL, G.ev_ii, G.ev_bb, G.ev_ss, G.ev_nn, G.ev_tt, G.ev_ll, G.ev_0, G.ev_c, G.ev_c0, G.ev_0c, G.ev_none_bool, G.ev_none_int, G.ev_none_str, G.ev_none_list, G.ev_none_tuple, G.ev_bool_none, G.ev_bool_str, G.ev_bool_list, G.ev_bool_tuple, G.ev_int_none, G.ev_int_str, G.ev_int_list, G.ev_int_tuple, G.ev_str_none, G.ev_str_bool, G.ev_str_int, G.ev_str_list, G.ev_str_tuple, G.ev_list_none, G.ev_list_bool, G.ev_list_int, G.ev_list_str, G.ev_list_tuple, G.ev_tuple_none, G.ev_tuple_bool, G.ev_tuple_int, G.ev_tuple_str, G.ev_tuple_list, G.dec_t, G.not_dec, G.k_popA, G.k_popZ, G.k_pop1, G.r_ext, G.k_ext1, G.k_ext2, G.k_ext3, G.k_ext4, G.r_items, G.k_itemsJ, G.d_listD, G.d_intI, G.d_intB, G.d_strI, G.r_subG, G.k_sub1, G.k_sub2, G.k_sub3, G.k_sub4, G.k_sub5, G.k_sub6, G.k_sub7, G.r_tupL1, G.r_tupL2, G.r_tupL3, G.r_tupL4, G.d_isB, G.d_isnB, G.d_isnN, G.d_revL, G.d_revT, G.r_permA, G.k_perm1, G.k_perm2, G.k_perm3a, G.k_perm3b, G.k_perm3c, G.k_perm3d, G.k_perm3e, Int.reduceEq, Int.reduceLE, Int.reduceLT, Int.reduceAdd, Int.reduceSub, Int.reduceMul, Int.reduceNeg, Nat.reduceAdd, List.nil_append, not_true_eq_false, not_false_eq_true, and_true, true_and, and_false, false_and, or_true, true_or, or_false, false_or, decide_true, decide_false, eq_self, Bool.and_true, Bool.and_false, $ls,*] at $h:ident)
/-! ### sizes -/
def Sym.le (s : Sym) (n : Nat) : Prop := s.x.natAbs ≤ n ∧ s.y.natAbs ≤ n
theorem kinds_len {ts : List Sym} (h : (ts.map Sym.k).Nodup) : ts.length ≤ 8 := by
  have h2 : ((ts.map Sym.k).map Kd.n).Nodup := by
    rw [List.Nodup, List.pairwise_map]
    exact List.Pairwise.imp (fun {p q} (hn : p ≠ q) (e : p.n = q.n) => hn (Kd.i_inj (by rw [Kd.i_n, Kd.i_n, e]))) h
  have := nat_nodup_len _ (List.range 8) h2 fun x hx => by
    obtain ⟨k, _, rfl⟩ := List.mem_map.mp hx
    rw [List.mem_range]
    cases k <;> decide
  simpa using this
/-! ### dicts of samples -/
/-! ### samples -/
structure SB0 (gs : List Sym) (F : Nat) (ts : List Sym) : Prop where
  one : Sym.one ∈ ts
  un : (ts.map Sym.k).Nodup
  gn : ∀ t ∈ ts, Gn gs t
  bd : ∀ t ∈ ts, t.le (F * ts.length)
end M
namespace M
open PySem PySem.Spec PyProof.Rows L2 G
local macro_rules
  | `(tactic| simp? [$ls,*]) => `(tactic| simp (maxSteps := 1000000) (disch := first | assumption | (simp (disch := decide +kernel) only [G.sl_nil, G.sl_cons, List.cons_append, List.nil_append, G.shN_str, G.shN_tup, G.shN_lst, G.shN_int, G.shN_bool, G.shN_none, G.shA_nil, G.shA_cons, G.b_ta, G.ky_i, G.ky_s]; done) | exact G.len_ok (by simp only [G.sl_nil, G.sl_cons]) | decide | decide +kernel | exact G.mulOk_l (by decide) | exact G.mulOk_r (by decide) | omega) only [G.rb_ok, G.rb_ex, G.rb_bad, G.rb_ite, G.lz, G.ls, G.sz, G.ss, G.r_seq, G.k_seq1, G.k_seq2, G.k_seq3, G.k_seq4, G.r_nx, G.r_bk, G.r_ct, G.r_retN, G.r_ret, G.k_ret, G.r_drop, G.k_drop, G.r_if, G.r_ife, G.k_if, G.r_asg, G.k_asg1, G.k_asg2, G.k_asg3, G.k_sl1, G.k_sl2, G.k_sh1, G.k_sh2, G.k_sh3, G.k_sh4, G.k_sh5, G.r_asgG, G.k_asgG, G.k_asgL, G.k_tg, G.r_nm, G.r_tup, G.r_tup1, G.r_tup3, G.r_tup4, G.r_nil, G.r_cons, G.r_V, G.k_V1, G.k_V2, G.k_V4, G.k_V3, G.r_C, G.p_val, G.p_fr, G.p_sl, G.pb_1, G.pb_2, G.pb_3, G.od_1, G.od_2, G.p_1, G.p_2, G.p_3, G.q_1, G.q_2, G.q_3, G.re_1, G.re_2, G.re_ite, G.st_1, G.st_2, G.st_3, G.r_op2, G.k_op2a, G.k_op2b, G.k_op2c, G.r_op1, G.k_op1, G.ob_some, G.r_said, G.k_said1, G.r_opN, G.k_opN, G.r_pk0, G.r_pk1, G.k_pk, G.r_anil, G.r_acons, G.k_acons, G.k_acons2, G.shs_v0, G.shs_v1, G.shs_v2, G.shs_v3, G.shs_v4, G.om_some, G.r_tupT, G.r_lstT, G.k_dt, G.k_dl, G.k_d1, G.k_d2, G.r_fB, G.k_fB, G.r_and, G.r_or, G.r_andV, G.r_orV, G.r_not, G.r_notV, G.k_not, G.k_notV, G.r_yes, G.r_ch, G.k_ch1, G.k_ch2, G.k_ch3, G.k_ch4, G.k_ch5, G.r_call, G.c1_nil, G.c1_t, G.c1_f, G.c1_s, G.c1_s1, G.c1_s2, G.k_ca, G.k_c1, G.k_c2, G.c2_nil, G.c2_v, G.c2_s, G.c2_s1, G.c2_s3, G.c2_s2, G.k_call, G.k_w1, G.k_w2, G.k_w3, G.k_wite, G.wb_nil, G.wb_none, G.wb_some, G.k_wb1, G.k_wb2, G.wbx_nil, G.wbx_none, G.ap_nil, G.ap_nil2, G.ap_cons, G.ma_nil, G.ma_cons, G.ds_nil, G.ds_none, G.ds_some, G.me_nil, G.me_none, G.me_some, G.ou_0, G.ou_s, G.ob_val, G.ob_own, G.ob_un, G.ob_exc, G.ob_prm, G.le_0, G.le_s, G.k_rf1, G.k_rf2, G.k_rf3, G.k_rf4, G.k_rs1, G.k_rs2, G.r_set, G.k_set1, G.k_set2, G.k_set3, G.k_set4, G.k_set5, G.k_set6, G.k_set7, G.k_set8, G.k_set9, G.r_mut, G.k_mu1, G.k_mu2, G.k_mu3, G.k_mu4, G.k_mu5, G.k_mu6, G.k_mu7, G.k_app, G.k_apps, G.r_par, G.k_par1, G.k_par2, G.k_par3, G.k_par4, G.k_par5, G.r_par3, G.k_p3a, G.k_p3b, G.r_parN, G.k_pn1, G.k_pn2, G.k_nx, G.ev_nil, G.ev_cons, G.k_ev1, G.k_ev2, G.rs_nil, G.rs_val, G.rs_fr, G.rs_sl, G.k_rsS1, G.k_rsS2, G.bn_nil, G.bn_val, G.bn_fr, G.r_rep, G.k_rp1, G.k_rp2, G.k_rp3, G.ixN_last, G.set_last, G.ix_last, G.r_for, G.k_for, G.fo_nil, G.fo_cons, G.k_fo0, G.k_fo1, G.k_fo2, G.k_fo3, G.k_fo4, G.r_turn, G.k_tu0, G.k_tu1, G.k_tu2, G.k_tu3, G.k_tu4, G.r_seqI, G.k_seqI, G.k_seqI1, G.k_seqI3, G.k_seqI5, G.k_seqI6, G.k_seqI4, G.k_seqI2, G.r_rng1, G.k_rng1, G.k_rng1b, G.r_rng2, G.k_rng2, G.k_rng2b, G.rgl_0, G.rgl_1, G.rgl_2, G.rgl_3, G.rgl_4, G.rgl_5, G.rgl_6, G.rgl_7, G.rgl_8, G.rgl_9, G.rgl_10, G.rgl_12, G.rgl_16, G.r1l_1, G.r1l_2, G.r1l_3, G.r1l_4, G.r1l_5, G.r1l_6, G.r1l_8, G.rpl_0, G.rpl_1, G.rpl_2, G.rpl_3, G.rpl_4, G.rpl_5, G.rpl_6, G.rpl_7, G.rpl_8, G.r_lc, G.k_lc, G.l_nil, G.l_cons, G.l_A, G.l_B, G.l_C, G.l_C2, G.l_C3, G.l_S1, G.l_S2, G.l_D, G.k_lc1, G.wi_nil, G.wi_cons, G.mulOk_l, G.mulOk_r, G.r_sl, G.k_sla, G.k_slb, G.k_slc, G.k_sld, G.pt_n, G.pt_s, G.k_pt, G.cu_t, G.cu_l, G.cu_1n, G.cu_2n, G.cu_n1, G.d_add, G.d_addT, G.d_addTs, G.d_addL, G.d_addLs, G.d_sub, G.d_mul, G.d_fdiv, G.d_mod, G.d_neg, G.d_cmp, G.d_ixT, G.d_ixL, G.at_0, G.at_1, G.at_2, G.at_3, G.d_lenL, G.d_lenT, G.d_tupL, G.d_tupT, G.d_all, G.k_all, G.d_any, G.k_any, G.bo_nil, G.bo_cons, G.al_nil, G.al_cons, G.al_map, G.an_nil, G.an_cons, G.an_map, G.id_b, G.bo_map, G.d_max, G.d_min, G.d_listL, G.d_listT, G.d_p18, G.d_p13, G.d_p12, G.d_is, G.d_abs, G.d_repr, G.d_eqS, G.d_neS, G.d_eqI, G.d_neI, G.d_isi, G.isy_int_none, G.isy_int_bool, G.isy_int_int, G.isy_int_str, G.isy_int_list, G.isy_int_tuple, G.isy_int_dict, G.isy_bool_none, G.isy_bool_bool, G.isy_bool_int, G.isy_bool_str, G.isy_bool_list, G.isy_bool_tuple, G.isy_bool_dict, G.isy_tuple_none, G.isy_tuple_bool, G.isy_tuple_int, G.isy_tuple_str, G.isy_tuple_list, G.isy_tuple_tuple, G.isy_tuple_dict, G.isy_list_none, G.isy_list_bool, G.isy_list_int, G.isy_list_str, G.isy_list_list, G.isy_list_tuple, G.isy_list_dict, G.isy_str_none, G.isy_str_bool, G.isy_str_int, G.isy_str_str, G.isy_str_list, G.isy_str_tuple, G.isy_str_dict, G.isy_dict_none, G.isy_dict_bool, G.isy_dict_int, G.isy_dict_str, G.isy_dict_list, G.isy_dict_tuple, G.isy_dict_dict, G.it_t, G.it_f, G.b_tt, G.b_ft, G.b_nt, G.b_nf, G.b_ta, G.b_fa, G.b_at, G.b_to, G.b_fo, G.lI_0, G.lI_1, G.lI_2, G.lI_3, G.lI_4, G.lI_5, G.lI_m, G.bs_f, G.es_f, G.bb_tt, G.bb_tf, G.bb_ft, G.bb_ff, G.bq_s, G.r_dic, G.k_dic1, G.k_dic2, G.k_dic3, G.k_dic4, G.k_kD1, G.k_kD2, G.k_fl0, G.k_fl1, G.k_pr0, G.k_pr1, G.k_pr2, G.r_dic0, G.d_ixDi, G.d_ixDs, G.d_inGT, G.d_inGL, G.d_ninGT, G.d_ninGL, G.d_inGi, G.d_ninGi, G.k_vals, G.k_items, G.d_setDi, G.dg_nil, G.dg_i, G.dg_s, G.mg_0, G.mg_s, G.dpk_n, G.ky_i, G.ky_s, G.d_eqX, G.d_neX, G.d_inT, G.d_inL, G.d_ninT, G.d_ninL, G.ev_ii, G.ev_bb, G.ev_ss, G.ev_nn, G.ev_tt, G.ev_ll, G.ev_0, G.ev_c, G.ev_c0, G.ev_0c, G.ev_none_bool, G.ev_none_int, G.ev_none_str, G.ev_none_list, G.ev_none_tuple, G.ev_bool_none, G.ev_bool_str, G.ev_bool_list, G.ev_bool_tuple, G.ev_int_none, G.ev_int_str, G.ev_int_list, G.ev_int_tuple, G.ev_str_none, G.ev_str_bool, G.ev_str_int, G.ev_str_list, G.ev_str_tuple, G.ev_list_none, G.ev_list_bool, G.ev_list_int, G.ev_list_str, G.ev_list_tuple, G.ev_tuple_none, G.ev_tuple_bool, G.ev_tuple_int, G.ev_tuple_str, G.ev_tuple_list, G.dec_t, G.not_dec, G.k_popA, G.k_popZ, G.k_pop1, G.r_ext, G.k_ext1, G.k_ext2, G.k_ext3, G.k_ext4, G.r_items, G.k_itemsJ, G.d_listD, G.d_intI, G.d_intB, G.d_strI, G.r_subG, G.k_sub1, G.k_sub2, G.k_sub3, G.k_sub4, G.k_sub5, G.k_sub6, G.k_sub7, G.r_tupL1, G.r_tupL2, G.r_tupL3, G.r_tupL4, G.d_isB, G.d_isnB, G.d_isnN, G.d_revL, G.d_revT, G.r_permA, G.k_perm1, G.k_perm2, G.k_perm3a, G.k_perm3b, G.k_perm3c, G.k_perm3d, G.k_perm3e, Int.reduceEq, Int.reduceLE, Int.reduceLT, Int.reduceAdd, Int.reduceSub, Int.reduceMul, Int.reduceNeg, Nat.reduceAdd, List.nil_append, not_true_eq_false, not_false_eq_true, and_true, true_and, and_false, false_and, or_true, true_or, or_false, false_or, decide_true, decide_false, eq_self, Bool.and_true, Bool.and_false, $ls,*])
  | `(tactic| simp? [$ls,*] at $h:ident) => `(tactic| simp (maxSteps := 1000000) (disch := first | assumption | (simp (disch := decide +kernel) only [G.sl_nil, G.sl_cons, List.cons_append, List.nil_append, G.shN_str, G.shN_tup, G.shN_lst, G.shN_int, G.shN_bool, G.shN_none, G.shA_nil, G.shA_cons, G.b_ta, G.ky_i, G.ky_s]; done) | exact G.len_ok (by simp only [G.sl_nil, G.sl_cons]) | decide | decide +kernel | exact G.mulOk_l (by decide) | exact G.mulOk_r (by decide) | omega) only [G.rb_ok, G.rb_ex, G.rb_bad, G.rb_ite, G.lz, G.ls, G.sz, G.ss, G.r_seq, G.k_seq1, G.k_seq2, G.k_seq3, G.k_seq4, G.r_nx, G.r_bk, G.r_ct, G.r_retN, G.r_ret, G.k_ret, G.r_drop, G.k_drop, G.r_if, G.r_ife, G.k_if, G.r_asg, G.k_asg1, G.k_asg2, G.k_asg3, G.k_sl1, G.k_sl2, G.k_sh1, G.k_sh2, G.k_sh3, G.k_sh4, G.k_sh5, G.r_asgG, G.k_asgG, G.k_asgL, G.k_tg, G.r_nm, G.r_tup, G.r_tup1, G.r_tup3, G.r_tup4, G.r_nil, G.r_cons, G.r_V, G.k_V1, G.k_V2, G.k_V4, G.k_V3, G.r_C, G.p_val, G.p_fr, G.p_sl, G.pb_1, G.pb_2, G.pb_3, G.od_1, G.od_2, G.p_1, G.p_2, G.p_3, G.q_1, G.q_2, G.q_3, G.re_1, G.re_2, G.re_ite, G.st_1, G.st_2, G.st_3, G.r_op2, G.k_op2a, G.k_op2b, G.k_op2c, G.r_op1, G.k_op1, G.ob_some, G.r_said, G.k_said1, G.r_opN, G.k_opN, G.r_pk0, G.r_pk1, G.k_pk, G.r_anil, G.r_acons, G.k_acons, G.k_acons2, G.shs_v0, G.shs_v1, G.shs_v2, G.shs_v3, G.shs_v4, G.om_some, G.r_tupT, G.r_lstT, G.k_dt, G.k_dl, G.k_d1, G.k_d2, G.r_fB, G.k_fB, G.r_and, G.r_or, G.r_andV, G.r_orV, G.r_not, G.r_notV, G.k_not, G.k_notV, G.r_yes, G.r_ch, G.k_ch1, G.k_ch2, G.k_ch3, G.k_ch4, G.k_ch5, G.r_call, G.c1_nil, G.c1_t, G.c1_f, G.c1_s, G.c1_s1, G.c1_s2, G.k_ca, G.k_c1, G.k_c2, G.c2_nil, G.c2_v, G.c2_s, G.c2_s1, G.c2_s3, G.c2_s2, G.k_call, G.k_w1, G.k_w2, G.k_w3, G.k_wite, G.wb_nil, G.wb_none, G.wb_some, G.k_wb1, G.k_wb2, G.wbx_nil, G.wbx_none, G.ap_nil, G.ap_nil2, G.ap_cons, G.ma_nil, G.ma_cons, G.ds_nil, G.ds_none, G.ds_some, G.me_nil, G.me_none, G.me_some, G.ou_0, G.ou_s, G.ob_val, G.ob_own, G.ob_un, G.ob_exc, G.ob_prm, G.le_0, G.le_s, G.k_rf1, G.k_rf2, G.k_rf3, G.k_rf4, G.k_rs1, G.k_rs2, G.r_set, G.k_set1, G.k_set2, G.k_set3, G.k_set4, G.k_set5, G.k_set6, G.k_set7, G.k_set8, G.k_set9, G.r_mut, G.k_mu1, G.k_mu2, G.k_mu3, G.k_mu4, G.k_mu5, G.k_mu6, G.k_mu7, G.k_app, G.k_apps, G.r_par, G.k_par1, G.k_par2, G.k_par3, G.k_par4, G.k_par5, G.r_par3, G.k_p3a, G.k_p3b, G.r_parN, G.k_pn1, G.k_pn2, G.k_nx, G.ev_nil, G.ev_cons, G.k_ev1, G.k_ev2, G.rs_nil, G.rs_val, G.rs_fr, G.rs_sl, G.k_rsS1, G.k_rsS2, G.bn_nil, G.bn_val, G.bn_fr, G.r_rep, G.k_rp1, G.k_rp2, G.k_rp3, G.ixN_last, G.set_last, G.ix_last, G.r_for, G.k_for, G.fo_nil, G.fo_cons, G.k_fo0, G.k_fo1, G.k_fo2, G.k_fo3, G.k_fo4, G.r_turn, G.k_tu0, G.k_tu1, G.k_tu2, G.k_tu3, G.k_tu4, G.r_seqI, G.k_seqI, G.k_seqI1, G.k_seqI3, G.k_seqI5, G.k_seqI6, G.k_seqI4, G.k_seqI2, G.r_rng1, G.k_rng1, G.k_rng1b, G.r_rng2, G.k_rng2, G.k_rng2b, G.rgl_0, G.rgl_1, G.rgl_2, G.rgl_3, G.rgl_4, G.rgl_5, G.rgl_6, G.rgl_7, G.rgl_8, G.rgl_9, G.rgl_10, G.rgl_12, G.rgl_16, G.r1l_1, G.r1l_2, G.r1l_3, G.r1l_4, G.r1l_5, G.r1l_6, G.r1l_8, G.rpl_0, G.rpl_1, G.rpl_2, G.rpl_3, G.rpl_4, G.rpl_5, G.rpl_6, G.rpl_7, G.rpl_8, G.r_lc, G.k_lc, G.l_nil, G.l_cons, G.l_A, G.l_B, G.l_C, G.l_C2, G.l_C3, G.l_S1, G.l_S2, G.l_D, G.k_lc1, G.wi_nil, G.wi_cons, G.mulOk_l, G.mulOk_r, G.r_sl, G.k_sla, G.k_slb, G.k_slc, G.k_sld, G.pt_n, G.pt_s, G.k_pt, G.cu_t, G.cu_l, G.cu_1n, G.cu_2n, G.cu_n1, G.d_add, G.d_addT, G.d_addTs, G.d_addL, G.d_addLs, G.d_sub, G.d_mul, G.d_fdiv, G.d_mod, G.d_neg, G.d_cmp, G.d_ixT, G.d_ixL, G.at_0, G.at_1, G.at_2, G.at_3, G.d_lenL, G.d_lenT, G.d_tupL, G.d_tupT, G.d_all, G.k_all, G.d_any, G.k_any, G.bo_nil, G.bo_cons, G.al_nil, G.al_cons, G.al_map, G.an_nil, G.an_cons, G.an_map, G.id_b, G.bo_map, G.d_max, G.d_min, G.d_listL, G.d_listT, G.d_p18, G.d_p13, G.d_p12, G.d_is, G.d_abs, G.d_repr, G.d_eqS, G.d_neS, G.d_eqI, G.d_neI, G.d_isi, G.isy_int_none, G.isy_int_bool, G.isy_int_int, G.isy_int_str, G.isy_int_list, G.isy_int_tuple, G.isy_int_dict, G.isy_bool_none, G.isy_bool_bool, G.isy_bool_int, G.isy_bool_str, G.isy_bool_list, G.isy_bool_tuple, G.isy_bool_dict, G.isy_tuple_none, G.isy_tuple_bool, G.isy_tuple_int, G.isy_tuple_str, G.isy_tuple_list, G.isy_tuple_tuple, G.isy_tuple_dict, G.isy_list_none, G.isy_list_bool, G.isy_list_int, G.isy_list_str, G.isy_list_list, G.isy_list_tuple, G.isy_list_dict, G.isy_str_none, G.isy_str_bool, G.isy_str_int, G.isy_str_str, G.isy_str_list, G.isy_str_tuple, G.isy_str_dict, G.isy_dict_none, G.isy_dict_bool, G.isy_dict_int, G.isy_dict_str, G.isy_dict_list, G.isy_dict_tuple, G.isy_dict_dict, G.it_t, G.it_f, G.b_tt, G.b_ft, G.b_nt, G.b_nf, G.b_ta, G.b_fa, G.b_at, G.b_to, G.b_fo, G.lI_0, G.lI_1, G.lI_2, G.lI_3, G.lI_4, G.lI_5, G.lI_m, G.bs_f, G.es_f, G.bb_tt, G.bb_tf, G.bb_ft, G.bb_ff, G.bq_s, G.r_dic, G.k_dic1, G.k_dic2, G.k_dic3, G.k_dic4, G.k_kD1, G.k_kD2, G.k_fl0, G.k_fl1, G.k_pr0, G.k_pr1, G.k_pr2, G.r_dic0, G.d_ixDi, G.d_ixDs, G.d_inGT, G.d_inGL, G.d_ninGT, G.d_ninGL, G.d_inGi, G.d_ninGi, G.k_vals, G.k_items, G.d_setDi, G.dg_nil, G.dg_i, G.dg_s, G.mg_0, G.mg_s, G.dpk_n, G.ky_i, G.ky_s, G.d_eqX, G.d_neX, G.d_inT, G.d_inL, G.d_ninT, G.d_ninL, G.ev_ii, G.ev_bb, G.ev_ss, G.ev_nn, G.ev_tt, G.ev_ll, G.ev_0, G.ev_c, G.ev_c0, G.ev_0c, G.ev_none_bool, G.ev_none_int, G.ev_none_str, G.ev_none_list, G.ev_none_tuple, G.ev_bool_none, G.ev_bool_str, G.ev_bool_list, G.ev_bool_tuple, G.ev_int_none, G.ev_int_str, G.ev_int_list, G.ev_int_tuple, G.ev_str_none, G.ev_str_bool, G.ev_str_int, G.ev_str_list, G.ev_str_tuple, G.ev_list_none, G.ev_list_bool, G.ev_list_int, G.ev_list_str, G.ev_list_tuple, G.ev_tuple_none, G.ev_tuple_bool, G.ev_tuple_int, G.ev_tuple_str, G.ev_tuple_list, G.dec_t, G.not_dec, G.k_popA, G.k_popZ, G.k_pop1, G.r_ext, G.k_ext1, G.k_ext2, G.k_ext3, G.k_ext4, G.r_items, G.k_itemsJ, G.d_listD, G.d_intI, G.d_intB, G.d_strI, G.r_subG, G.k_sub1, G.k_sub2, G.k_sub3, G.k_sub4, G.k_sub5, G.k_sub6, G.k_sub7, G.r_tupL1, G.r_tupL2, G.r_tupL3, G.r_tupL4, G.d_isB, G.d_isnB, G.d_isnN, G.d_revL, G.d_revT, G.r_permA, G.k_perm1, G.k_perm2, G.k_perm3a, G.k_perm3b, G.k_perm3c, G.k_perm3d, G.k_perm3e, Int.reduceEq, Int.reduceLE, Int.reduceLT, Int.reduceAdd, Int.reduceSub, Int.reduceMul, Int.reduceNeg, Nat.reduceAdd, List.nil_append, not_true_eq_false, not_false_eq_true, and_true, true_and, and_false, false_and, or_true, true_or, or_false, false_or, decide_true, decide_false, eq_self, Bool.and_true, Bool.and_false, $ls,*] at $h:ident)
/-! ### shifts -/
/-! ### members in order -/
abbrev Sym.row (s : Sym) : List Int := [s.k.i, s.x, s.y]
end M
namespace M
open PySem PySem.Spec PyProof.Rows L2 G
local macro_rules
  | `(tactic| simp? [$ls,*]) => `(tactic| simp (maxSteps := 1000000) (disch := first | assumption | (simp (disch := decide +kernel) only [G.sl_nil, G.sl_cons, List.cons_append, List.nil_append, G.shN_str, G.shN_tup, G.shN_lst, G.shN_int, G.shN_bool, G.shN_none, G.shA_nil, G.shA_cons, G.b_ta, G.ky_i, G.ky_s]; done) | exact G.len_ok (by simp only [G.sl_nil, G.sl_cons]) | decide | decide +kernel | exact G.mulOk_l (by decide) | exact G.mulOk_r (by decide) | omega) only [G.rb_ok, G.rb_ex, G.rb_bad, G.rb_ite, G.lz, G.ls, G.sz, G.ss, G.r_seq, G.k_seq1, G.k_seq2, G.k_seq3, G.k_seq4, G.r_nx, G.r_bk, G.r_ct, G.r_retN, G.r_ret, G.k_ret, G.r_drop, G.k_drop, G.r_if, G.r_ife, G.k_if, G.r_asg, G.k_asg1, G.k_asg2, G.k_asg3, G.k_sl1, G.k_sl2, G.k_sh1, G.k_sh2, G.k_sh3, G.k_sh4, G.k_sh5, G.r_asgG, G.k_asgG, G.k_asgL, G.k_tg, G.r_nm, G.r_tup, G.r_tup1, G.r_tup3, G.r_tup4, G.r_nil, G.r_cons, G.r_V, G.k_V1, G.k_V2, G.k_V4, G.k_V3, G.r_C, G.p_val, G.p_fr, G.p_sl, G.pb_1, G.pb_2, G.pb_3, G.od_1, G.od_2, G.p_1, G.p_2, G.p_3, G.q_1, G.q_2, G.q_3, G.re_1, G.re_2, G.re_ite, G.st_1, G.st_2, G.st_3, G.r_op2, G.k_op2a, G.k_op2b, G.k_op2c, G.r_op1, G.k_op1, G.ob_some, G.r_said, G.k_said1, G.r_opN, G.k_opN, G.r_pk0, G.r_pk1, G.k_pk, G.r_anil, G.r_acons, G.k_acons, G.k_acons2, G.shs_v0, G.shs_v1, G.shs_v2, G.shs_v3, G.shs_v4, G.om_some, G.r_tupT, G.r_lstT, G.k_dt, G.k_dl, G.k_d1, G.k_d2, G.r_fB, G.k_fB, G.r_and, G.r_or, G.r_andV, G.r_orV, G.r_not, G.r_notV, G.k_not, G.k_notV, G.r_yes, G.r_ch, G.k_ch1, G.k_ch2, G.k_ch3, G.k_ch4, G.k_ch5, G.r_call, G.c1_nil, G.c1_t, G.c1_f, G.c1_s, G.c1_s1, G.c1_s2, G.k_ca, G.k_c1, G.k_c2, G.c2_nil, G.c2_v, G.c2_s, G.c2_s1, G.c2_s3, G.c2_s2, G.k_call, G.k_w1, G.k_w2, G.k_w3, G.k_wite, G.wb_nil, G.wb_none, G.wb_some, G.k_wb1, G.k_wb2, G.wbx_nil, G.wbx_none, G.ap_nil, G.ap_nil2, G.ap_cons, G.ma_nil, G.ma_cons, G.ds_nil, G.ds_none, G.ds_some, G.me_nil, G.me_none, G.me_some, G.ou_0, G.ou_s, G.ob_val, G.ob_own, G.ob_un, G.ob_exc, G.ob_prm, G.le_0, G.le_s, G.k_rf1, G.k_rf2, G.k_rf3, G.k_rf4, G.k_rs1, G.k_rs2, G.r_set, G.k_set1, G.k_set2, G.k_set3, G.k_set4, G.k_set5, G.k_set6, G.k_set7, G.k_set8, G.k_set9, G.r_mut, G.k_mu1, G.k_mu2, G.k_mu3, G.k_mu4, G.k_mu5, G.k_mu6, G.k_mu7, G.k_app, G.k_apps, G.r_par, G.k_par1, G.k_par2, G.k_par3, G.k_par4, G.k_par5, G.r_par3, G.k_p3a, G.k_p3b, G.r_parN, G.k_pn1, G.k_pn2, G.k_nx, G.ev_nil, G.ev_cons, G.k_ev1, G.k_ev2, G.rs_nil, G.rs_val, G.rs_fr, G.rs_sl, G.k_rsS1, G.k_rsS2, G.bn_nil, G.bn_val, G.bn_fr, G.r_rep, G.k_rp1, G.k_rp2, G.k_rp3, G.ixN_last, G.set_last, G.ix_last, G.r_for, G.k_for, G.fo_nil, G.fo_cons, G.k_fo0, G.k_fo1, G.k_fo2, G.k_fo3, G.k_fo4, G.r_turn, G.k_tu0, G.k_tu1, G.k_tu2, G.k_tu3, G.k_tu4, G.r_seqI, G.k_seqI, G.k_seqI1, G.k_seqI3, G.k_seqI5, G.k_seqI6, G.k_seqI4, G.k_seqI2, G.r_rng1, G.k_rng1, G.k_rng1b, G.r_rng2, G.k_rng2, G.k_rng2b, G.rgl_0, G.rgl_1, G.rgl_2, G.rgl_3, G.rgl_4, G.rgl_5, G.rgl_6, G.rgl_7, G.rgl_8, G.rgl_9, G.rgl_10, G.rgl_12, G.rgl_16, G.r1l_1, G.r1l_2, G.r1l_3, G.r1l_4, G.r1l_5, G.r1l_6, G.r1l_8, G.rpl_0, G.rpl_1, G.rpl_2, G.rpl_3, G.rpl_4, G.rpl_5, G.rpl_6, G.rpl_7, G.rpl_8, G.r_lc, G.k_lc, G.l_nil, G.l_cons, G.l_A, G.l_B, G.l_C, G.l_C2, G.l_C3, G.l_S1, G.l_S2, G.l_D, G.k_lc1, G.wi_nil, G.wi_cons, G.mulOk_l, G.mulOk_r, G.r_sl, G.k_sla, G.k_slb, G.k_slc, G.k_sld, G.pt_n, G.pt_s, G.k_pt, G.cu_t, G.cu_l, G.cu_1n, G.cu_2n, G.cu_n1, G.d_add, G.d_addT, G.d_addTs, G.d_addL, G.d_addLs, G.d_sub, G.d_mul, G.d_fdiv, G.d_mod, G.d_neg, G.d_cmp, G.d_ixT, G.d_ixL, G.at_0, G.at_1, G.at_2, G.at_3, G.d_lenL, G.d_lenT, G.d_tupL, G.d_tupT, G.d_all, G.k_all, G.d_any, G.k_any, G.bo_nil, G.bo_cons, G.al_nil, G.al_cons, G.al_map, G.an_nil, G.an_cons, G.an_map, G.id_b, G.bo_map, G.d_max, G.d_min, G.d_listL, G.d_listT, G.d_p18, G.d_p13, G.d_p12, G.d_is, G.d_abs, G.d_repr, G.d_eqS, G.d_neS, G.d_eqI, G.d_neI, G.d_isi, G.isy_int_none, G.isy_int_bool, G.isy_int_int, G.isy_int_str, G.isy_int_list, G.isy_int_tuple, G.isy_int_dict, G.isy_bool_none, G.isy_bool_bool, G.isy_bool_int, G.isy_bool_str, G.isy_bool_list, G.isy_bool_tuple, G.isy_bool_dict, G.isy_tuple_none, G.isy_tuple_bool, G.isy_tuple_int, G.isy_tuple_str, G.isy_tuple_list, G.isy_tuple_tuple, G.isy_tuple_dict, G.isy_list_none, G.isy_list_bool, G.isy_list_int, G.isy_list_str, G.isy_list_list, G.isy_list_tuple, G.isy_list_dict, G.isy_str_none, G.isy_str_bool, G.isy_str_int, G.isy_str_str, G.isy_str_list, G.isy_str_tuple, G.isy_str_dict, G.isy_dict_none, G.isy_dict_bool, G.isy_dict_int, G.isy_dict_str, G.isy_dict_list, G.isy_dict_tuple, G.isy_dict_dict, G.it_t, G.it_f, G.b_tt, G.b_ft, G.b_nt, G.b_nf, G.b_ta, G.b_fa, G.b_at, G.b_to, G.b_fo, G.lI_0, G.lI_1, G.lI_2, G.lI_3, G.lI_4, G.lI_5, G.lI_m, G.bs_f, G.es_f, G.bb_tt, G.bb_tf, G.bb_ft, G.bb_ff, G.bq_s, G.r_dic, G.k_dic1, G.k_dic2, G.k_dic3, G.k_dic4, G.k_kD1, G.k_kD2, G.k_fl0, G.k_fl1, G.k_pr0, G.k_pr1, G.k_pr2, G.r_dic0, G.d_ixDi, G.d_ixDs, G.d_inGT, G.d_inGL, G.d_ninGT, G.d_ninGL, G.d_inGi, G.d_ninGi, G.k_vals, G.k_items, G.d_setDi, G.dg_nil, G.dg_i, G.dg_s, G.mg_0, G.mg_s, G.dpk_n, G.ky_i, G.ky_s, G.d_eqX, G.d_neX, G.d_inT, G.d_inL, G.d_ninT, G.d_ninL, G.ev_ii, G.ev_bb, G.ev_ss, G.ev_nn, G.ev_tt, G.ev_ll, G.ev_0, G.ev_c, G.ev_c0, G.ev_0c, G.ev_none_bool, G.ev_none_int, G.ev_none_str, G.ev_none_list, G.ev_none_tuple, G.ev_bool_none, G.ev_bool_str, G.ev_bool_list, G.ev_bool_tuple, G.ev_int_none, G.ev_int_str, G.ev_int_list, G.ev_int_tuple, G.ev_str_none, G.ev_str_bool, G.ev_str_int, G.ev_str_list, G.ev_str_tuple, G.ev_list_none, G.ev_list_bool, G.ev_list_int, G.ev_list_str, G.ev_list_tuple, G.ev_tuple_none, G.ev_tuple_bool, G.ev_tuple_int, G.ev_tuple_str, G.ev_tuple_list, G.dec_t, G.not_dec, G.k_popA, G.k_popZ, G.k_pop1, G.r_ext, G.k_ext1, G.k_ext2, G.k_ext3, G.k_ext4, G.r_items, G.k_itemsJ, G.d_listD, G.d_intI, G.d_intB, G.d_strI, G.r_subG, G.k_sub1, G.k_sub2, G.k_sub3, G.k_sub4, G.k_sub5, G.k_sub6, G.k_sub7, G.r_tupL1, G.r_tupL2, G.r_tupL3, G.r_tupL4, G.d_isB, G.d_isnB, G.d_isnN, G.d_revL, G.d_revT, G.r_permA, G.k_perm1, G.k_perm2, G.k_perm3a, G.k_perm3b, G.k_perm3c, G.k_perm3d, G.k_perm3e, Int.reduceEq, Int.reduceLE, Int.reduceLT, Int.reduceAdd, Int.reduceSub, Int.reduceMul, Int.reduceNeg, Nat.reduceAdd, List.nil_append, not_true_eq_false, not_false_eq_true, and_true, true_and, and_false, false_and, or_true, true_or, or_false, false_or, decide_true, decide_false, eq_self, Bool.and_true, Bool.and_false, $ls,*])
  | `(tactic| simp? [$ls,*] at $h:ident) => `(tactic| simp (maxSteps := 1000000) (disch := first | assumption | (simp (disch := decide +kernel) only [G.sl_nil, G.sl_cons, List.cons_append, List.nil_append, G.shN_str, G.shN_tup, G.shN_lst, G.shN_int, G.shN_bool, G.shN_none, G.shA_nil, G.shA_cons, G.b_ta, G.ky_i, G.ky_s]; done) | exact G.len_ok (by simp only [G.sl_nil, G.sl_cons]) | decide | decide +kernel | exact G.mulOk_l (by decide) | exact G.mulOk_r (by decide) | omega) only [G.rb_ok, G.rb_ex, G.rb_bad, G.rb_ite, G.lz, G.ls, G.sz, G.ss, G.r_seq, G.k_seq1, G.k_seq2, G.k_seq3, G.k_seq4, G.r_nx, G.r_bk, G.r_ct, G.r_retN, G.r_ret, G.k_ret, G.r_drop, G.k_drop, G.r_if, G.r_ife, G.k_if, G.r_asg, G.k_asg1, G.k_asg2, G.k_asg3, G.k_sl1, G.k_sl2, G.k_sh1, G.k_sh2, G.k_sh3, G.k_sh4, G.k_sh5, G.r_asgG, G.k_asgG, G.k_asgL, G.k_tg, G.r_nm, G.r_tup, G.r_tup1, G.r_tup3, G.r_tup4, G.r_nil, G.r_cons, G.r_V, G.k_V1, G.k_V2, G.k_V4, G.k_V3, G.r_C, G.p_val, G.p_fr, G.p_sl, G.pb_1, G.pb_2, G.pb_3, G.od_1, G.od_2, G.p_1, G.p_2, G.p_3, G.q_1, G.q_2, G.q_3, G.re_1, G.re_2, G.re_ite, G.st_1, G.st_2, G.st_3, G.r_op2, G.k_op2a, G.k_op2b, G.k_op2c, G.r_op1, G.k_op1, G.ob_some, G.r_said, G.k_said1, G.r_opN, G.k_opN, G.r_pk0, G.r_pk1, G.k_pk, G.r_anil, G.r_acons, G.k_acons, G.k_acons2, G.shs_v0, G.shs_v1, G.shs_v2, G.shs_v3, G.shs_v4, G.om_some, G.r_tupT, G.r_lstT, G.k_dt, G.k_dl, G.k_d1, G.k_d2, G.r_fB, G.k_fB, G.r_and, G.r_or, G.r_andV, G.r_orV, G.r_not, G.r_notV, G.k_not, G.k_notV, G.r_yes, G.r_ch, G.k_ch1, G.k_ch2, G.k_ch3, G.k_ch4, G.k_ch5, G.r_call, G.c1_nil, G.c1_t, G.c1_f, G.c1_s, G.c1_s1, G.c1_s2, G.k_ca, G.k_c1, G.k_c2, G.c2_nil, G.c2_v, G.c2_s, G.c2_s1, G.c2_s3, G.c2_s2, G.k_call, G.k_w1, G.k_w2, G.k_w3, G.k_wite, G.wb_nil, G.wb_none, G.wb_some, G.k_wb1, G.k_wb2, G.wbx_nil, G.wbx_none, G.ap_nil, G.ap_nil2, G.ap_cons, G.ma_nil, G.ma_cons, G.ds_nil, G.ds_none, G.ds_some, G.me_nil, G.me_none, G.me_some, G.ou_0, G.ou_s, G.ob_val, G.ob_own, G.ob_un, G.ob_exc, G.ob_prm, G.le_0, G.le_s, G.k_rf1, G.k_rf2, G.k_rf3, G.k_rf4, G.k_rs1, G.k_rs2, G.r_set, G.k_set1, G.k_set2, G.k_set3, G.k_set4, G.k_set5, G.k_set6, G.k_set7, G.k_set8, G.k_set9, G.r_mut, G.k_mu1, G.k_mu2, G.k_mu3, G.k_mu4, G.k_mu5, G.k_mu6, G.k_mu7, G.k_app, G.k_apps, G.r_par, G.k_par1, G.k_par2, G.k_par3, G.k_par4, G.k_par5, G.r_par3, G.k_p3a, G.k_p3b, G.r_parN, G.k_pn1, G.k_pn2, G.k_nx, G.ev_nil, G.ev_cons, G.k_ev1, G.k_ev2, G.rs_nil, G.rs_val, G.rs_fr, G.rs_sl, G.k_rsS1, G.k_rsS2, G.bn_nil, G.bn_val, G.bn_fr, G.r_rep, G.k_rp1, G.k_rp2, G.k_rp3, G.ixN_last, G.set_last, G.ix_last, G.r_for, G.k_for, G.fo_nil, G.fo_cons, G.k_fo0, G.k_fo1, G.k_fo2, G.k_fo3, G.k_fo4, G.r_turn, G.k_tu0, G.k_tu1, G.k_tu2, G.k_tu3, G.k_tu4, G.r_seqI, G.k_seqI, G.k_seqI1, G.k_seqI3, G.k_seqI5, G.k_seqI6, G.k_seqI4, G.k_seqI2, G.r_rng1, G.k_rng1, G.k_rng1b, G.r_rng2, G.k_rng2, G.k_rng2b, G.rgl_0, G.rgl_1, G.rgl_2, G.rgl_3, G.rgl_4, G.rgl_5, G.rgl_6, G.rgl_7, G.rgl_8, G.rgl_9, G.rgl_10, G.rgl_12, G.rgl_16, G.r1l_1, G.r1l_2, G.r1l_3, G.r1l_4, G.r1l_5, G.r1l_6, G.r1l_8, G.rpl_0, G.rpl_1, G.rpl_2, G.rpl_3, G.rpl_4, G.rpl_5, G.rpl_6, G.rpl_7, G.rpl_8, G.r_lc, G.k_lc, G.l_nil, G.l_cons, G.l_A, G.l_B, G.l_C, G.l_C2, G.l_C3, G.l_S1, G.l_S2, G.l_D, G.k_lc1, G.wi_nil, G.wi_cons, G.mulOk_l, G.mulOk_r, G.r_sl, G.k_sla, G.k_slb, G.k_slc, G.k_sld, G.pt_n, G.pt_s, G.k_pt, G.cu_t, G.cu_l, G.cu_1n, G.cu_2n, G.cu_n1, G.d_add, G.d_addT, G.d_addTs, G.d_addL, G.d_addLs, G.d_sub, G.d_mul, G.d_fdiv, G.d_mod, G.d_neg, G.d_cmp, G.d_ixT, G.d_ixL, G.at_0, G.at_1, G.at_2, G.at_3, G.d_lenL, G.d_lenT, G.d_tupL, G.d_tupT, G.d_all, G.k_all, G.d_any, G.k_any, G.bo_nil, G.bo_cons, G.al_nil, G.al_cons, G.al_map, G.an_nil, G.an_cons, G.an_map, G.id_b, G.bo_map, G.d_max, G.d_min, G.d_listL, G.d_listT, G.d_p18, G.d_p13, G.d_p12, G.d_is, G.d_abs, G.d_repr, G.d_eqS, G.d_neS, G.d_eqI, G.d_neI, G.d_isi, G.isy_int_none, G.isy_int_bool, G.isy_int_int, G.isy_int_str, G.isy_int_list, G.isy_int_tuple, G.isy_int_dict, G.isy_bool_none, G.isy_bool_bool, G.isy_bool_int, G.isy_bool_str, G.isy_bool_list, G.isy_bool_tuple, G.isy_bool_dict, G.isy_tuple_none, G.isy_tuple_bool, G.isy_tuple_int, G.isy_tuple_str, G.isy_tuple_list, G.isy_tuple_tuple, G.isy_tuple_dict, G.isy_list_none, G.isy_list_bool, G.isy_list_int, G.isy_list_str, G.isy_list_list, G.isy_list_tuple, G.isy_list_dict, G.isy_str_none, G.isy_str_bool, G.isy_str_int, G.isy_str_str, G.isy_str_list, G.isy_str_tuple, G.isy_str_dict, G.isy_dict_none, G.isy_dict_bool, G.isy_dict_int, G.isy_dict_str, G.isy_dict_list, G.isy_dict_tuple, G.isy_dict_dict, G.it_t, G.it_f, G.b_tt, G.b_ft, G.b_nt, G.b_nf, G.b_ta, G.b_fa, G.b_at, G.b_to, G.b_fo, G.lI_0, G.lI_1, G.lI_2, G.lI_3, G.lI_4, G.lI_5, G.lI_m, G.bs_f, G.es_f, G.bb_tt, G.bb_tf, G.bb_ft, G.bb_ff, G.bq_s, G.r_dic, G.k_dic1, G.k_dic2, G.k_dic3, G.k_dic4, G.k_kD1, G.k_kD2, G.k_fl0, G.k_fl1, G.k_pr0, G.k_pr1, G.k_pr2, G.r_dic0, G.d_ixDi, G.d_ixDs, G.d_inGT, G.d_inGL, G.d_ninGT, G.d_ninGL, G.d_inGi, G.d_ninGi, G.k_vals, G.k_items, G.d_setDi, G.dg_nil, G.dg_i, G.dg_s, G.mg_0, G.mg_s, G.dpk_n, G.ky_i, G.ky_s, G.d_eqX, G.d_neX, G.d_inT, G.d_inL, G.d_ninT, G.d_ninL, G.ev_ii, G.ev_bb, G.ev_ss, G.ev_nn, G.ev_tt, G.ev_ll, G.ev_0, G.ev_c, G.ev_c0, G.ev_0c, G.ev_none_bool, G.ev_none_int, G.ev_none_str, G.ev_none_list, G.ev_none_tuple, G.ev_bool_none, G.ev_bool_str, G.ev_bool_list, G.ev_bool_tuple, G.ev_int_none, G.ev_int_str, G.ev_int_list, G.ev_int_tuple, G.ev_str_none, G.ev_str_bool, G.ev_str_int, G.ev_str_list, G.ev_str_tuple, G.ev_list_none, G.ev_list_bool, G.ev_list_int, G.ev_list_str, G.ev_list_tuple, G.ev_tuple_none, G.ev_tuple_bool, G.ev_tuple_int, G.ev_tuple_str, G.ev_tuple_list, G.dec_t, G.not_dec, G.k_popA, G.k_popZ, G.k_pop1, G.r_ext, G.k_ext1, G.k_ext2, G.k_ext3, G.k_ext4, G.r_items, G.k_itemsJ, G.d_listD, G.d_intI, G.d_intB, G.d_strI, G.r_subG, G.k_sub1, G.k_sub2, G.k_sub3, G.k_sub4, G.k_sub5, G.k_sub6, G.k_sub7, G.r_tupL1, G.r_tupL2, G.r_tupL3, G.r_tupL4, G.d_isB, G.d_isnB, G.d_isnN, G.d_revL, G.d_revT, G.r_permA, G.k_perm1, G.k_perm2, G.k_perm3a, G.k_perm3b, G.k_perm3c, G.k_perm3d, G.k_perm3e, Int.reduceEq, Int.reduceLE, Int.reduceLT, Int.reduceAdd, Int.reduceSub, Int.reduceMul, Int.reduceNeg, Nat.reduceAdd, List.nil_append, not_true_eq_false, not_false_eq_true, and_true, true_and, and_false, false_and, or_true, true_or, or_false, false_or, decide_true, decide_false, eq_self, Bool.and_true, Bool.and_false, $ls,*] at $h:ident)
/-! ### how long a basis may be -/
/-! ### describe -/
abbrev Ds.d (D : Ds) : PyData := .tuple [D.b.d, .tuple (D.ms.map Sym.d)]
structure Ds.Sm (D : Ds) : Prop where
  b : D.b.Sm
  m : ∀ m ∈ D.ms, m.x.natAbs < 2 ^ 80 ∧ m.y.natAbs < 2 ^ 80
  q : ∀ v ∈ D.b.vs, v.1.natAbs ≤ 2400000000000000 ∧ v.2.natAbs ≤ 2400000000000000
end M
namespace M
open PySem PySem.Spec PyProof.Rows L2 G
local macro_rules
  | `(tactic| simp? [$ls,*]) => `(tactic| simp (maxSteps := 1000000) (disch := first | assumption | (simp (disch := decide +kernel) only [G.sl_nil, G.sl_cons, List.cons_append, List.nil_append, G.shN_str, G.shN_tup, G.shN_lst, G.shN_int, G.shN_bool, G.shN_none, G.shA_nil, G.shA_cons, G.b_ta, G.ky_i, G.ky_s]; done) | exact G.len_ok (by simp only [G.sl_nil, G.sl_cons]) | decide | decide +kernel | exact G.mulOk_l (by decide) | exact G.mulOk_r (by decide) | omega) only [G.rb_ok, G.rb_ex, G.rb_bad, G.rb_ite, G.lz, G.ls, G.sz, G.ss, G.r_seq, G.k_seq1, G.k_seq2, G.k_seq3, G.k_seq4, G.r_nx, G.r_bk, G.r_ct, G.r_retN, G.r_ret, G.k_ret, G.r_drop, G.k_drop, G.r_if, G.r_ife, G.k_if, G.r_asg, G.k_asg1, G.k_asg2, G.k_asg3, G.k_sl1, G.k_sl2, G.k_sh1, G.k_sh2, G.k_sh3, G.k_sh4, G.k_sh5, G.r_asgG, G.k_asgG, G.k_asgL, G.k_tg, G.r_nm, G.r_tup, G.r_tup1, G.r_tup3, G.r_tup4, G.r_nil, G.r_cons, G.r_V, G.k_V1, G.k_V2, G.k_V4, G.k_V3, G.r_C, G.p_val, G.p_fr, G.p_sl, G.pb_1, G.pb_2, G.pb_3, G.od_1, G.od_2, G.p_1, G.p_2, G.p_3, G.q_1, G.q_2, G.q_3, G.re_1, G.re_2, G.re_ite, G.st_1, G.st_2, G.st_3, G.r_op2, G.k_op2a, G.k_op2b, G.k_op2c, G.r_op1, G.k_op1, G.ob_some, G.r_said, G.k_said1, G.r_opN, G.k_opN, G.r_pk0, G.r_pk1, G.k_pk, G.r_anil, G.r_acons, G.k_acons, G.k_acons2, G.shs_v0, G.shs_v1, G.shs_v2, G.shs_v3, G.shs_v4, G.om_some, G.r_tupT, G.r_lstT, G.k_dt, G.k_dl, G.k_d1, G.k_d2, G.r_fB, G.k_fB, G.r_and, G.r_or, G.r_andV, G.r_orV, G.r_not, G.r_notV, G.k_not, G.k_notV, G.r_yes, G.r_ch, G.k_ch1, G.k_ch2, G.k_ch3, G.k_ch4, G.k_ch5, G.r_call, G.c1_nil, G.c1_t, G.c1_f, G.c1_s, G.c1_s1, G.c1_s2, G.k_ca, G.k_c1, G.k_c2, G.c2_nil, G.c2_v, G.c2_s, G.c2_s1, G.c2_s3, G.c2_s2, G.k_call, G.k_w1, G.k_w2, G.k_w3, G.k_wite, G.wb_nil, G.wb_none, G.wb_some, G.k_wb1, G.k_wb2, G.wbx_nil, G.wbx_none, G.ap_nil, G.ap_nil2, G.ap_cons, G.ma_nil, G.ma_cons, G.ds_nil, G.ds_none, G.ds_some, G.me_nil, G.me_none, G.me_some, G.ou_0, G.ou_s, G.ob_val, G.ob_own, G.ob_un, G.ob_exc, G.ob_prm, G.le_0, G.le_s, G.k_rf1, G.k_rf2, G.k_rf3, G.k_rf4, G.k_rs1, G.k_rs2, G.r_set, G.k_set1, G.k_set2, G.k_set3, G.k_set4, G.k_set5, G.k_set6, G.k_set7, G.k_set8, G.k_set9, G.r_mut, G.k_mu1, G.k_mu2, G.k_mu3, G.k_mu4, G.k_mu5, G.k_mu6, G.k_mu7, G.k_app, G.k_apps, G.r_par, G.k_par1, G.k_par2, G.k_par3, G.k_par4, G.k_par5, G.r_par3, G.k_p3a, G.k_p3b, G.r_parN, G.k_pn1, G.k_pn2, G.k_nx, G.ev_nil, G.ev_cons, G.k_ev1, G.k_ev2, G.rs_nil, G.rs_val, G.rs_fr, G.rs_sl, G.k_rsS1, G.k_rsS2, G.bn_nil, G.bn_val, G.bn_fr, G.r_rep, G.k_rp1, G.k_rp2, G.k_rp3, G.ixN_last, G.set_last, G.ix_last, G.r_for, G.k_for, G.fo_nil, G.fo_cons, G.k_fo0, G.k_fo1, G.k_fo2, G.k_fo3, G.k_fo4, G.r_turn, G.k_tu0, G.k_tu1, G.k_tu2, G.k_tu3, G.k_tu4, G.r_seqI, G.k_seqI, G.k_seqI1, G.k_seqI3, G.k_seqI5, G.k_seqI6, G.k_seqI4, G.k_seqI2, G.r_rng1, G.k_rng1, G.k_rng1b, G.r_rng2, G.k_rng2, G.k_rng2b, G.rgl_0, G.rgl_1, G.rgl_2, G.rgl_3, G.rgl_4, G.rgl_5, G.rgl_6, G.rgl_7, G.rgl_8, G.rgl_9, G.rgl_10, G.rgl_12, G.rgl_16, G.r1l_1, G.r1l_2, G.r1l_3, G.r1l_4, G.r1l_5, G.r1l_6, G.r1l_8, G.rpl_0, G.rpl_1, G.rpl_2, G.rpl_3, G.rpl_4, G.rpl_5, G.rpl_6, G.rpl_7, G.rpl_8, G.r_lc, G.k_lc, G.l_nil, G.l_cons, G.l_A, G.l_B, G.l_C, G.l_C2, G.l_C3, G.l_S1, G.l_S2, G.l_D, G.k_lc1, G.wi_nil, G.wi_cons, G.mulOk_l, G.mulOk_r, G.r_sl, G.k_sla, G.k_slb, G.k_slc, G.k_sld, G.pt_n, G.pt_s, G.k_pt, G.cu_t, G.cu_l, G.cu_1n, G.cu_2n, G.cu_n1, G.d_add, G.d_addT, G.d_addTs, G.d_addL, G.d_addLs, G.d_sub, G.d_mul, G.d_fdiv, G.d_mod, G.d_neg, G.d_cmp, G.d_ixT, G.d_ixL, G.at_0, G.at_1, G.at_2, G.at_3, G.d_lenL, G.d_lenT, G.d_tupL, G.d_tupT, G.d_all, G.k_all, G.d_any, G.k_any, G.bo_nil, G.bo_cons, G.al_nil, G.al_cons, G.al_map, G.an_nil, G.an_cons, G.an_map, G.id_b, G.bo_map, G.d_max, G.d_min, G.d_listL, G.d_listT, G.d_p18, G.d_p13, G.d_p12, G.d_is, G.d_abs, G.d_repr, G.d_eqS, G.d_neS, G.d_eqI, G.d_neI, G.d_isi, G.isy_int_none, G.isy_int_bool, G.isy_int_int, G.isy_int_str, G.isy_int_list, G.isy_int_tuple, G.isy_int_dict, G.isy_bool_none, G.isy_bool_bool, G.isy_bool_int, G.isy_bool_str, G.isy_bool_list, G.isy_bool_tuple, G.isy_bool_dict, G.isy_tuple_none, G.isy_tuple_bool, G.isy_tuple_int, G.isy_tuple_str, G.isy_tuple_list, G.isy_tuple_tuple, G.isy_tuple_dict, G.isy_list_none, G.isy_list_bool, G.isy_list_int, G.isy_list_str, G.isy_list_list, G.isy_list_tuple, G.isy_list_dict, G.isy_str_none, G.isy_str_bool, G.isy_str_int, G.isy_str_str, G.isy_str_list, G.isy_str_tuple, G.isy_str_dict, G.isy_dict_none, G.isy_dict_bool, G.isy_dict_int, G.isy_dict_str, G.isy_dict_list, G.isy_dict_tuple, G.isy_dict_dict, G.it_t, G.it_f, G.b_tt, G.b_ft, G.b_nt, G.b_nf, G.b_ta, G.b_fa, G.b_at, G.b_to, G.b_fo, G.lI_0, G.lI_1, G.lI_2, G.lI_3, G.lI_4, G.lI_5, G.lI_m, G.bs_f, G.es_f, G.bb_tt, G.bb_tf, G.bb_ft, G.bb_ff, G.bq_s, G.r_dic, G.k_dic1, G.k_dic2, G.k_dic3, G.k_dic4, G.k_kD1, G.k_kD2, G.k_fl0, G.k_fl1, G.k_pr0, G.k_pr1, G.k_pr2, G.r_dic0, G.d_ixDi, G.d_ixDs, G.d_inGT, G.d_inGL, G.d_ninGT, G.d_ninGL, G.d_inGi, G.d_ninGi, G.k_vals, G.k_items, G.d_setDi, G.dg_nil, G.dg_i, G.dg_s, G.mg_0, G.mg_s, G.dpk_n, G.ky_i, G.ky_s, G.d_eqX, G.d_neX, G.d_inT, G.d_inL, G.d_ninT, G.d_ninL, G.ev_ii, G.ev_bb, G.ev_ss, G.ev_nn, G.ev_tt, G.ev_ll, G.ev_0, G.ev_c, G.ev_c0, G.ev_0c, G.ev_none_bool, G.ev_none_int, G.ev_none_str, G.ev_none_list, G.ev_none_tuple, G.ev_bool_none, G.ev_bool_str, G.ev_bool_list, G.ev_bool_tuple, G.ev_int_none, G.ev_int_str, G.ev_int_list, G.ev_int_tuple, G.ev_str_none, G.ev_str_bool, G.ev_str_int, G.ev_str_list, G.ev_str_tuple, G.ev_list_none, G.ev_list_bool, G.ev_list_int, G.ev_list_str, G.ev_list_tuple, G.ev_tuple_none, G.ev_tuple_bool, G.ev_tuple_int, G.ev_tuple_str, G.ev_tuple_list, G.dec_t, G.not_dec, G.k_popA, G.k_popZ, G.k_pop1, G.r_ext, G.k_ext1, G.k_ext2, G.k_ext3, G.k_ext4, G.r_items, G.k_itemsJ, G.d_listD, G.d_intI, G.d_intB, G.d_strI, G.r_subG, G.k_sub1, G.k_sub2, G.k_sub3, G.k_sub4, G.k_sub5, G.k_sub6, G.k_sub7, G.r_tupL1, G.r_tupL2, G.r_tupL3, G.r_tupL4, G.d_isB, G.d_isnB, G.d_isnN, G.d_revL, G.d_revT, G.r_permA, G.k_perm1, G.k_perm2, G.k_perm3a, G.k_perm3b, G.k_perm3c, G.k_perm3d, G.k_perm3e, Int.reduceEq, Int.reduceLE, Int.reduceLT, Int.reduceAdd, Int.reduceSub, Int.reduceMul, Int.reduceNeg, Nat.reduceAdd, List.nil_append, not_true_eq_false, not_false_eq_true, and_true, true_and, and_false, false_and, or_true, true_or, or_false, false_or, decide_true, decide_false, eq_self, Bool.and_true, Bool.and_false, $ls,*])
  | `(tactic| simp? [$ls,*] at $h:ident) => `(tactic| simp (maxSteps := 1000000) (disch := first | assumption | (simp (disch := decide +kernel) only [G.sl_nil, G.sl_cons, List.cons_append, List.nil_append, G.shN_str, G.shN_tup, G.shN_lst, G.shN_int, G.shN_bool, G.shN_none, G.shA_nil, G.shA_cons, G.b_ta, G.ky_i, G.ky_s]; done) | exact G.len_ok (by simp only [G.sl_nil, G.sl_cons]) | decide | decide +kernel | exact G.mulOk_l (by decide) | exact G.mulOk_r (by decide) | omega) only [G.rb_ok, G.rb_ex, G.rb_bad, G.rb_ite, G.lz, G.ls, G.sz, G.ss, G.r_seq, G.k_seq1, G.k_seq2, G.k_seq3, G.k_seq4, G.r_nx, G.r_bk, G.r_ct, G.r_retN, G.r_ret, G.k_ret, G.r_drop, G.k_drop, G.r_if, G.r_ife, G.k_if, G.r_asg, G.k_asg1, G.k_asg2, G.k_asg3, G.k_sl1, G.k_sl2, G.k_sh1, G.k_sh2, G.k_sh3, G.k_sh4, G.k_sh5, G.r_asgG, G.k_asgG, G.k_asgL, G.k_tg, G.r_nm, G.r_tup, G.r_tup1, G.r_tup3, G.r_tup4, G.r_nil, G.r_cons, G.r_V, G.k_V1, G.k_V2, G.k_V4, G.k_V3, G.r_C, G.p_val, G.p_fr, G.p_sl, G.pb_1, G.pb_2, G.pb_3, G.od_1, G.od_2, G.p_1, G.p_2, G.p_3, G.q_1, G.q_2, G.q_3, G.re_1, G.re_2, G.re_ite, G.st_1, G.st_2, G.st_3, G.r_op2, G.k_op2a, G.k_op2b, G.k_op2c, G.r_op1, G.k_op1, G.ob_some, G.r_said, G.k_said1, G.r_opN, G.k_opN, G.r_pk0, G.r_pk1, G.k_pk, G.r_anil, G.r_acons, G.k_acons, G.k_acons2, G.shs_v0, G.shs_v1, G.shs_v2, G.shs_v3, G.shs_v4, G.om_some, G.r_tupT, G.r_lstT, G.k_dt, G.k_dl, G.k_d1, G.k_d2, G.r_fB, G.k_fB, G.r_and, G.r_or, G.r_andV, G.r_orV, G.r_not, G.r_notV, G.k_not, G.k_notV, G.r_yes, G.r_ch, G.k_ch1, G.k_ch2, G.k_ch3, G.k_ch4, G.k_ch5, G.r_call, G.c1_nil, G.c1_t, G.c1_f, G.c1_s, G.c1_s1, G.c1_s2, G.k_ca, G.k_c1, G.k_c2, G.c2_nil, G.c2_v, G.c2_s, G.c2_s1, G.c2_s3, G.c2_s2, G.k_call, G.k_w1, G.k_w2, G.k_w3, G.k_wite, G.wb_nil, G.wb_none, G.wb_some, G.k_wb1, G.k_wb2, G.wbx_nil, G.wbx_none, G.ap_nil, G.ap_nil2, G.ap_cons, G.ma_nil, G.ma_cons, G.ds_nil, G.ds_none, G.ds_some, G.me_nil, G.me_none, G.me_some, G.ou_0, G.ou_s, G.ob_val, G.ob_own, G.ob_un, G.ob_exc, G.ob_prm, G.le_0, G.le_s, G.k_rf1, G.k_rf2, G.k_rf3, G.k_rf4, G.k_rs1, G.k_rs2, G.r_set, G.k_set1, G.k_set2, G.k_set3, G.k_set4, G.k_set5, G.k_set6, G.k_set7, G.k_set8, G.k_set9, G.r_mut, G.k_mu1, G.k_mu2, G.k_mu3, G.k_mu4, G.k_mu5, G.k_mu6, G.k_mu7, G.k_app, G.k_apps, G.r_par, G.k_par1, G.k_par2, G.k_par3, G.k_par4, G.k_par5, G.r_par3, G.k_p3a, G.k_p3b, G.r_parN, G.k_pn1, G.k_pn2, G.k_nx, G.ev_nil, G.ev_cons, G.k_ev1, G.k_ev2, G.rs_nil, G.rs_val, G.rs_fr, G.rs_sl, G.k_rsS1, G.k_rsS2, G.bn_nil, G.bn_val, G.bn_fr, G.r_rep, G.k_rp1, G.k_rp2, G.k_rp3, G.ixN_last, G.set_last, G.ix_last, G.r_for, G.k_for, G.fo_nil, G.fo_cons, G.k_fo0, G.k_fo1, G.k_fo2, G.k_fo3, G.k_fo4, G.r_turn, G.k_tu0, G.k_tu1, G.k_tu2, G.k_tu3, G.k_tu4, G.r_seqI, G.k_seqI, G.k_seqI1, G.k_seqI3, G.k_seqI5, G.k_seqI6, G.k_seqI4, G.k_seqI2, G.r_rng1, G.k_rng1, G.k_rng1b, G.r_rng2, G.k_rng2, G.k_rng2b, G.rgl_0, G.rgl_1, G.rgl_2, G.rgl_3, G.rgl_4, G.rgl_5, G.rgl_6, G.rgl_7, G.rgl_8, G.rgl_9, G.rgl_10, G.rgl_12, G.rgl_16, G.r1l_1, G.r1l_2, G.r1l_3, G.r1l_4, G.r1l_5, G.r1l_6, G.r1l_8, G.rpl_0, G.rpl_1, G.rpl_2, G.rpl_3, G.rpl_4, G.rpl_5, G.rpl_6, G.rpl_7, G.rpl_8, G.r_lc, G.k_lc, G.l_nil, G.l_cons, G.l_A, G.l_B, G.l_C, G.l_C2, G.l_C3, G.l_S1, G.l_S2, G.l_D, G.k_lc1, G.wi_nil, G.wi_cons, G.mulOk_l, G.mulOk_r, G.r_sl, G.k_sla, G.k_slb, G.k_slc, G.k_sld, G.pt_n, G.pt_s, G.k_pt, G.cu_t, G.cu_l, G.cu_1n, G.cu_2n, G.cu_n1, G.d_add, G.d_addT, G.d_addTs, G.d_addL, G.d_addLs, G.d_sub, G.d_mul, G.d_fdiv, G.d_mod, G.d_neg, G.d_cmp, G.d_ixT, G.d_ixL, G.at_0, G.at_1, G.at_2, G.at_3, G.d_lenL, G.d_lenT, G.d_tupL, G.d_tupT, G.d_all, G.k_all, G.d_any, G.k_any, G.bo_nil, G.bo_cons, G.al_nil, G.al_cons, G.al_map, G.an_nil, G.an_cons, G.an_map, G.id_b, G.bo_map, G.d_max, G.d_min, G.d_listL, G.d_listT, G.d_p18, G.d_p13, G.d_p12, G.d_is, G.d_abs, G.d_repr, G.d_eqS, G.d_neS, G.d_eqI, G.d_neI, G.d_isi, G.isy_int_none, G.isy_int_bool, G.isy_int_int, G.isy_int_str, G.isy_int_list, G.isy_int_tuple, G.isy_int_dict, G.isy_bool_none, G.isy_bool_bool, G.isy_bool_int, G.isy_bool_str, G.isy_bool_list, G.isy_bool_tuple, G.isy_bool_dict, G.isy_tuple_none, G.isy_tuple_bool, G.isy_tuple_int, G.isy_tuple_str, G.isy_tuple_list, G.isy_tuple_tuple, G.isy_tuple_dict, G.isy_list_none, G.isy_list_bool, G.isy_list_int, G.isy_list_str, G.isy_list_list, G.isy_list_tuple, G.isy_list_dict, G.isy_str_none, G.isy_str_bool, G.isy_str_int, G.isy_str_str, G.isy_str_list, G.isy_str_tuple, G.isy_str_dict, G.isy_dict_none, G.isy_dict_bool, G.isy_dict_int, G.isy_dict_str, G.isy_dict_list, G.isy_dict_tuple, G.isy_dict_dict, G.it_t, G.it_f, G.b_tt, G.b_ft, G.b_nt, G.b_nf, G.b_ta, G.b_fa, G.b_at, G.b_to, G.b_fo, G.lI_0, G.lI_1, G.lI_2, G.lI_3, G.lI_4, G.lI_5, G.lI_m, G.bs_f, G.es_f, G.bb_tt, G.bb_tf, G.bb_ft, G.bb_ff, G.bq_s, G.r_dic, G.k_dic1, G.k_dic2, G.k_dic3, G.k_dic4, G.k_kD1, G.k_kD2, G.k_fl0, G.k_fl1, G.k_pr0, G.k_pr1, G.k_pr2, G.r_dic0, G.d_ixDi, G.d_ixDs, G.d_inGT, G.d_inGL, G.d_ninGT, G.d_ninGL, G.d_inGi, G.d_ninGi, G.k_vals, G.k_items, G.d_setDi, G.dg_nil, G.dg_i, G.dg_s, G.mg_0, G.mg_s, G.dpk_n, G.ky_i, G.ky_s, G.d_eqX, G.d_neX, G.d_inT, G.d_inL, G.d_ninT, G.d_ninL, G.ev_ii, G.ev_bb, G.ev_ss, G.ev_nn, G.ev_tt, G.ev_ll, G.ev_0, G.ev_c, G.ev_c0, G.ev_0c, G.ev_none_bool, G.ev_none_int, G.ev_none_str, G.ev_none_list, G.ev_none_tuple, G.ev_bool_none, G.ev_bool_str, G.ev_bool_list, G.ev_bool_tuple, G.ev_int_none, G.ev_int_str, G.ev_int_list, G.ev_int_tuple, G.ev_str_none, G.ev_str_bool, G.ev_str_int, G.ev_str_list, G.ev_str_tuple, G.ev_list_none, G.ev_list_bool, G.ev_list_int, G.ev_list_str, G.ev_list_tuple, G.ev_tuple_none, G.ev_tuple_bool, G.ev_tuple_int, G.ev_tuple_str, G.ev_tuple_list, G.dec_t, G.not_dec, G.k_popA, G.k_popZ, G.k_pop1, G.r_ext, G.k_ext1, G.k_ext2, G.k_ext3, G.k_ext4, G.r_items, G.k_itemsJ, G.d_listD, G.d_intI, G.d_intB, G.d_strI, G.r_subG, G.k_sub1, G.k_sub2, G.k_sub3, G.k_sub4, G.k_sub5, G.k_sub6, G.k_sub7, G.r_tupL1, G.r_tupL2, G.r_tupL3, G.r_tupL4, G.d_isB, G.d_isnB, G.d_isnN, G.d_revL, G.d_revT, G.r_permA, G.k_perm1, G.k_perm2, G.k_perm3a, G.k_perm3b, G.k_perm3c, G.k_perm3d, G.k_perm3e, Int.reduceEq, Int.reduceLE, Int.reduceLT, Int.reduceAdd, Int.reduceSub, Int.reduceMul, Int.reduceNeg, Nat.reduceAdd, List.nil_append, not_true_eq_false, not_false_eq_true, and_true, true_and, and_false, false_and, or_true, true_or, or_false, false_or, decide_true, decide_false, eq_self, Bool.and_true, Bool.and_false, $ls,*] at $h:ident)
/-! ### the laws' own divisor, reduction, basis -/
/-! sorted sets of vectors -/
/-! sums -/
end M
namespace M
open PySem PySem.Spec PyProof.Rows L2 G
local macro_rules
  | `(tactic| simp? [$ls,*]) => `(tactic| simp (maxSteps := 1000000) (disch := first | assumption | (simp (disch := decide +kernel) only [G.sl_nil, G.sl_cons, List.cons_append, List.nil_append, G.shN_str, G.shN_tup, G.shN_lst, G.shN_int, G.shN_bool, G.shN_none, G.shA_nil, G.shA_cons, G.b_ta, G.ky_i, G.ky_s]; done) | exact G.len_ok (by simp only [G.sl_nil, G.sl_cons]) | decide | decide +kernel | exact G.mulOk_l (by decide) | exact G.mulOk_r (by decide) | omega) only [G.rb_ok, G.rb_ex, G.rb_bad, G.rb_ite, G.lz, G.ls, G.sz, G.ss, G.r_seq, G.k_seq1, G.k_seq2, G.k_seq3, G.k_seq4, G.r_nx, G.r_bk, G.r_ct, G.r_retN, G.r_ret, G.k_ret, G.r_drop, G.k_drop, G.r_if, G.r_ife, G.k_if, G.r_asg, G.k_asg1, G.k_asg2, G.k_asg3, G.k_sl1, G.k_sl2, G.k_sh1, G.k_sh2, G.k_sh3, G.k_sh4, G.k_sh5, G.r_asgG, G.k_asgG, G.k_asgL, G.k_tg, G.r_nm, G.r_tup, G.r_tup1, G.r_tup3, G.r_tup4, G.r_nil, G.r_cons, G.r_V, G.k_V1, G.k_V2, G.k_V4, G.k_V3, G.r_C, G.p_val, G.p_fr, G.p_sl, G.pb_1, G.pb_2, G.pb_3, G.od_1, G.od_2, G.p_1, G.p_2, G.p_3, G.q_1, G.q_2, G.q_3, G.re_1, G.re_2, G.re_ite, G.st_1, G.st_2, G.st_3, G.r_op2, G.k_op2a, G.k_op2b, G.k_op2c, G.r_op1, G.k_op1, G.ob_some, G.r_said, G.k_said1, G.r_opN, G.k_opN, G.r_pk0, G.r_pk1, G.k_pk, G.r_anil, G.r_acons, G.k_acons, G.k_acons2, G.shs_v0, G.shs_v1, G.shs_v2, G.shs_v3, G.shs_v4, G.om_some, G.r_tupT, G.r_lstT, G.k_dt, G.k_dl, G.k_d1, G.k_d2, G.r_fB, G.k_fB, G.r_and, G.r_or, G.r_andV, G.r_orV, G.r_not, G.r_notV, G.k_not, G.k_notV, G.r_yes, G.r_ch, G.k_ch1, G.k_ch2, G.k_ch3, G.k_ch4, G.k_ch5, G.r_call, G.c1_nil, G.c1_t, G.c1_f, G.c1_s, G.c1_s1, G.c1_s2, G.k_ca, G.k_c1, G.k_c2, G.c2_nil, G.c2_v, G.c2_s, G.c2_s1, G.c2_s3, G.c2_s2, G.k_call, G.k_w1, G.k_w2, G.k_w3, G.k_wite, G.wb_nil, G.wb_none, G.wb_some, G.k_wb1, G.k_wb2, G.wbx_nil, G.wbx_none, G.ap_nil, G.ap_nil2, G.ap_cons, G.ma_nil, G.ma_cons, G.ds_nil, G.ds_none, G.ds_some, G.me_nil, G.me_none, G.me_some, G.ou_0, G.ou_s, G.ob_val, G.ob_own, G.ob_un, G.ob_exc, G.ob_prm, G.le_0, G.le_s, G.k_rf1, G.k_rf2, G.k_rf3, G.k_rf4, G.k_rs1, G.k_rs2, G.r_set, G.k_set1, G.k_set2, G.k_set3, G.k_set4, G.k_set5, G.k_set6, G.k_set7, G.k_set8, G.k_set9, G.r_mut, G.k_mu1, G.k_mu2, G.k_mu3, G.k_mu4, G.k_mu5, G.k_mu6, G.k_mu7, G.k_app, G.k_apps, G.r_par, G.k_par1, G.k_par2, G.k_par3, G.k_par4, G.k_par5, G.r_par3, G.k_p3a, G.k_p3b, G.r_parN, G.k_pn1, G.k_pn2, G.k_nx, G.ev_nil, G.ev_cons, G.k_ev1, G.k_ev2, G.rs_nil, G.rs_val, G.rs_fr, G.rs_sl, G.k_rsS1, G.k_rsS2, G.bn_nil, G.bn_val, G.bn_fr, G.r_rep, G.k_rp1, G.k_rp2, G.k_rp3, G.ixN_last, G.set_last, G.ix_last, G.r_for, G.k_for, G.fo_nil, G.fo_cons, G.k_fo0, G.k_fo1, G.k_fo2, G.k_fo3, G.k_fo4, G.r_turn, G.k_tu0, G.k_tu1, G.k_tu2, G.k_tu3, G.k_tu4, G.r_seqI, G.k_seqI, G.k_seqI1, G.k_seqI3, G.k_seqI5, G.k_seqI6, G.k_seqI4, G.k_seqI2, G.r_rng1, G.k_rng1, G.k_rng1b, G.r_rng2, G.k_rng2, G.k_rng2b, G.rgl_0, G.rgl_1, G.rgl_2, G.rgl_3, G.rgl_4, G.rgl_5, G.rgl_6, G.rgl_7, G.rgl_8, G.rgl_9, G.rgl_10, G.rgl_12, G.rgl_16, G.r1l_1, G.r1l_2, G.r1l_3, G.r1l_4, G.r1l_5, G.r1l_6, G.r1l_8, G.rpl_0, G.rpl_1, G.rpl_2, G.rpl_3, G.rpl_4, G.rpl_5, G.rpl_6, G.rpl_7, G.rpl_8, G.r_lc, G.k_lc, G.l_nil, G.l_cons, G.l_A, G.l_B, G.l_C, G.l_C2, G.l_C3, G.l_S1, G.l_S2, G.l_D, G.k_lc1, G.wi_nil, G.wi_cons, G.mulOk_l, G.mulOk_r, G.r_sl, G.k_sla, G.k_slb, G.k_slc, G.k_sld, G.pt_n, G.pt_s, G.k_pt, G.cu_t, G.cu_l, G.cu_1n, G.cu_2n, G.cu_n1, G.d_add, G.d_addT, G.d_addTs, G.d_addL, G.d_addLs, G.d_sub, G.d_mul, G.d_fdiv, G.d_mod, G.d_neg, G.d_cmp, G.d_ixT, G.d_ixL, G.at_0, G.at_1, G.at_2, G.at_3, G.d_lenL, G.d_lenT, G.d_tupL, G.d_tupT, G.d_all, G.k_all, G.d_any, G.k_any, G.bo_nil, G.bo_cons, G.al_nil, G.al_cons, G.al_map, G.an_nil, G.an_cons, G.an_map, G.id_b, G.bo_map, G.d_max, G.d_min, G.d_listL, G.d_listT, G.d_p18, G.d_p13, G.d_p12, G.d_is, G.d_abs, G.d_repr, G.d_eqS, G.d_neS, G.d_eqI, G.d_neI, G.d_isi, G.isy_int_none, G.isy_int_bool, G.isy_int_int, G.isy_int_str, G.isy_int_list, G.isy_int_tuple, G.isy_int_dict, G.isy_bool_none, G.isy_bool_bool, G.isy_bool_int, G.isy_bool_str, G.isy_bool_list, G.isy_bool_tuple, G.isy_bool_dict, G.isy_tuple_none, G.isy_tuple_bool, G.isy_tuple_int, G.isy_tuple_str, G.isy_tuple_list, G.isy_tuple_tuple, G.isy_tuple_dict, G.isy_list_none, G.isy_list_bool, G.isy_list_int, G.isy_list_str, G.isy_list_list, G.isy_list_tuple, G.isy_list_dict, G.isy_str_none, G.isy_str_bool, G.isy_str_int, G.isy_str_str, G.isy_str_list, G.isy_str_tuple, G.isy_str_dict, G.isy_dict_none, G.isy_dict_bool, G.isy_dict_int, G.isy_dict_str, G.isy_dict_list, G.isy_dict_tuple, G.isy_dict_dict, G.it_t, G.it_f, G.b_tt, G.b_ft, G.b_nt, G.b_nf, G.b_ta, G.b_fa, G.b_at, G.b_to, G.b_fo, G.lI_0, G.lI_1, G.lI_2, G.lI_3, G.lI_4, G.lI_5, G.lI_m, G.bs_f, G.es_f, G.bb_tt, G.bb_tf, G.bb_ft, G.bb_ff, G.bq_s, G.r_dic, G.k_dic1, G.k_dic2, G.k_dic3, G.k_dic4, G.k_kD1, G.k_kD2, G.k_fl0, G.k_fl1, G.k_pr0, G.k_pr1, G.k_pr2, G.r_dic0, G.d_ixDi, G.d_ixDs, G.d_inGT, G.d_inGL, G.d_ninGT, G.d_ninGL, G.d_inGi, G.d_ninGi, G.k_vals, G.k_items, G.d_setDi, G.dg_nil, G.dg_i, G.dg_s, G.mg_0, G.mg_s, G.dpk_n, G.ky_i, G.ky_s, G.d_eqX, G.d_neX, G.d_inT, G.d_inL, G.d_ninT, G.d_ninL, G.ev_ii, G.ev_bb, G.ev_ss, G.ev_nn, G.ev_tt, G.ev_ll, G.ev_0, G.ev_c, G.ev_c0, G.ev_0c, G.ev_none_bool, G.ev_none_int, G.ev_none_str, G.ev_none_list, G.ev_none_tuple, G.ev_bool_none, G.ev_bool_str, G.ev_bool_list, G.ev_bool_tuple, G.ev_int_none, G.ev_int_str, G.ev_int_list, G.ev_int_tuple, G.ev_str_none, G.ev_str_bool, G.ev_str_int, G.ev_str_list, G.ev_str_tuple, G.ev_list_none, G.ev_list_bool, G.ev_list_int, G.ev_list_str, G.ev_list_tuple, G.ev_tuple_none, G.ev_tuple_bool, G.ev_tuple_int, G.ev_tuple_str, G.ev_tuple_list, G.dec_t, G.not_dec, G.k_popA, G.k_popZ, G.k_pop1, G.r_ext, G.k_ext1, G.k_ext2, G.k_ext3, G.k_ext4, G.r_items, G.k_itemsJ, G.d_listD, G.d_intI, G.d_intB, G.d_strI, G.r_subG, G.k_sub1, G.k_sub2, G.k_sub3, G.k_sub4, G.k_sub5, G.k_sub6, G.k_sub7, G.r_tupL1, G.r_tupL2, G.r_tupL3, G.r_tupL4, G.d_isB, G.d_isnB, G.d_isnN, G.d_revL, G.d_revT, G.r_permA, G.k_perm1, G.k_perm2, G.k_perm3a, G.k_perm3b, G.k_perm3c, G.k_perm3d, G.k_perm3e, Int.reduceEq, Int.reduceLE, Int.reduceLT, Int.reduceAdd, Int.reduceSub, Int.reduceMul, Int.reduceNeg, Nat.reduceAdd, List.nil_append, not_true_eq_false, not_false_eq_true, and_true, true_and, and_false, false_and, or_true, true_or, or_false, false_or, decide_true, decide_false, eq_self, Bool.and_true, Bool.and_false, $ls,*])
  | `(tactic| simp? [$ls,*] at $h:ident) => `(tactic| simp (maxSteps := 1000000) (disch := first | assumption | (simp (disch := decide +kernel) only [G.sl_nil, G.sl_cons, List.cons_append, List.nil_append, G.shN_str, G.shN_tup, G.shN_lst, G.shN_int, G.shN_bool, G.shN_none, G.shA_nil, G.shA_cons, G.b_ta, G.ky_i, G.ky_s]; done) | exact G.len_ok (by simp only [G.sl_nil, G.sl_cons]) | decide | decide +kernel | exact G.mulOk_l (by decide) | exact G.mulOk_r (by decide) | omega) only [G.rb_ok, G.rb_ex, G.rb_bad, G.rb_ite, G.lz, G.ls, G.sz, G.ss, G.r_seq, G.k_seq1, G.k_seq2, G.k_seq3, G.k_seq4, G.r_nx, G.r_bk, G.r_ct, G.r_retN, G.r_ret, G.k_ret, G.r_drop, G.k_drop, G.r_if, G.r_ife, G.k_if, G.r_asg, G.k_asg1, G.k_asg2, G.k_asg3, G.k_sl1, G.k_sl2, G.k_sh1, G.k_sh2, G.k_sh3, G.k_sh4, G.k_sh5, G.r_asgG, G.k_asgG, G.k_asgL, G.k_tg, G.r_nm, G.r_tup, G.r_tup1, G.r_tup3, G.r_tup4, G.r_nil, G.r_cons, G.r_V, G.k_V1, G.k_V2, G.k_V4, G.k_V3, G.r_C, G.p_val, G.p_fr, G.p_sl, G.pb_1, G.pb_2, G.pb_3, G.od_1, G.od_2, G.p_1, G.p_2, G.p_3, G.q_1, G.q_2, G.q_3, G.re_1, G.re_2, G.re_ite, G.st_1, G.st_2, G.st_3, G.r_op2, G.k_op2a, G.k_op2b, G.k_op2c, G.r_op1, G.k_op1, G.ob_some, G.r_said, G.k_said1, G.r_opN, G.k_opN, G.r_pk0, G.r_pk1, G.k_pk, G.r_anil, G.r_acons, G.k_acons, G.k_acons2, G.shs_v0, G.shs_v1, G.shs_v2, G.shs_v3, G.shs_v4, G.om_some, G.r_tupT, G.r_lstT, G.k_dt, G.k_dl, G.k_d1, G.k_d2, G.r_fB, G.k_fB, G.r_and, G.r_or, G.r_andV, G.r_orV, G.r_not, G.r_notV, G.k_not, G.k_notV, G.r_yes, G.r_ch, G.k_ch1, G.k_ch2, G.k_ch3, G.k_ch4, G.k_ch5, G.r_call, G.c1_nil, G.c1_t, G.c1_f, G.c1_s, G.c1_s1, G.c1_s2, G.k_ca, G.k_c1, G.k_c2, G.c2_nil, G.c2_v, G.c2_s, G.c2_s1, G.c2_s3, G.c2_s2, G.k_call, G.k_w1, G.k_w2, G.k_w3, G.k_wite, G.wb_nil, G.wb_none, G.wb_some, G.k_wb1, G.k_wb2, G.wbx_nil, G.wbx_none, G.ap_nil, G.ap_nil2, G.ap_cons, G.ma_nil, G.ma_cons, G.ds_nil, G.ds_none, G.ds_some, G.me_nil, G.me_none, G.me_some, G.ou_0, G.ou_s, G.ob_val, G.ob_own, G.ob_un, G.ob_exc, G.ob_prm, G.le_0, G.le_s, G.k_rf1, G.k_rf2, G.k_rf3, G.k_rf4, G.k_rs1, G.k_rs2, G.r_set, G.k_set1, G.k_set2, G.k_set3, G.k_set4, G.k_set5, G.k_set6, G.k_set7, G.k_set8, G.k_set9, G.r_mut, G.k_mu1, G.k_mu2, G.k_mu3, G.k_mu4, G.k_mu5, G.k_mu6, G.k_mu7, G.k_app, G.k_apps, G.r_par, G.k_par1, G.k_par2, G.k_par3, G.k_par4, G.k_par5, G.r_par3, G.k_p3a, G.k_p3b, G.r_parN, G.k_pn1, G.k_pn2, G.k_nx, G.ev_nil, G.ev_cons, G.k_ev1, G.k_ev2, G.rs_nil, G.rs_val, G.rs_fr, G.rs_sl, G.k_rsS1, G.k_rsS2, G.bn_nil, G.bn_val, G.bn_fr, G.r_rep, G.k_rp1, G.k_rp2, G.k_rp3, G.ixN_last, G.set_last, G.ix_last, G.r_for, G.k_for, G.fo_nil, G.fo_cons, G.k_fo0, G.k_fo1, G.k_fo2, G.k_fo3, G.k_fo4, G.r_turn, G.k_tu0, G.k_tu1, G.k_tu2, G.k_tu3, G.k_tu4, G.r_seqI, G.k_seqI, G.k_seqI1, G.k_seqI3, G.k_seqI5, G.k_seqI6, G.k_seqI4, G.k_seqI2, G.r_rng1, G.k_rng1, G.k_rng1b, G.r_rng2, G.k_rng2, G.k_rng2b, G.rgl_0, G.rgl_1, G.rgl_2, G.rgl_3, G.rgl_4, G.rgl_5, G.rgl_6, G.rgl_7, G.rgl_8, G.rgl_9, G.rgl_10, G.rgl_12, G.rgl_16, G.r1l_1, G.r1l_2, G.r1l_3, G.r1l_4, G.r1l_5, G.r1l_6, G.r1l_8, G.rpl_0, G.rpl_1, G.rpl_2, G.rpl_3, G.rpl_4, G.rpl_5, G.rpl_6, G.rpl_7, G.rpl_8, G.r_lc, G.k_lc, G.l_nil, G.l_cons, G.l_A, G.l_B, G.l_C, G.l_C2, G.l_C3, G.l_S1, G.l_S2, G.l_D, G.k_lc1, G.wi_nil, G.wi_cons, G.mulOk_l, G.mulOk_r, G.r_sl, G.k_sla, G.k_slb, G.k_slc, G.k_sld, G.pt_n, G.pt_s, G.k_pt, G.cu_t, G.cu_l, G.cu_1n, G.cu_2n, G.cu_n1, G.d_add, G.d_addT, G.d_addTs, G.d_addL, G.d_addLs, G.d_sub, G.d_mul, G.d_fdiv, G.d_mod, G.d_neg, G.d_cmp, G.d_ixT, G.d_ixL, G.at_0, G.at_1, G.at_2, G.at_3, G.d_lenL, G.d_lenT, G.d_tupL, G.d_tupT, G.d_all, G.k_all, G.d_any, G.k_any, G.bo_nil, G.bo_cons, G.al_nil, G.al_cons, G.al_map, G.an_nil, G.an_cons, G.an_map, G.id_b, G.bo_map, G.d_max, G.d_min, G.d_listL, G.d_listT, G.d_p18, G.d_p13, G.d_p12, G.d_is, G.d_abs, G.d_repr, G.d_eqS, G.d_neS, G.d_eqI, G.d_neI, G.d_isi, G.isy_int_none, G.isy_int_bool, G.isy_int_int, G.isy_int_str, G.isy_int_list, G.isy_int_tuple, G.isy_int_dict, G.isy_bool_none, G.isy_bool_bool, G.isy_bool_int, G.isy_bool_str, G.isy_bool_list, G.isy_bool_tuple, G.isy_bool_dict, G.isy_tuple_none, G.isy_tuple_bool, G.isy_tuple_int, G.isy_tuple_str, G.isy_tuple_list, G.isy_tuple_tuple, G.isy_tuple_dict, G.isy_list_none, G.isy_list_bool, G.isy_list_int, G.isy_list_str, G.isy_list_list, G.isy_list_tuple, G.isy_list_dict, G.isy_str_none, G.isy_str_bool, G.isy_str_int, G.isy_str_str, G.isy_str_list, G.isy_str_tuple, G.isy_str_dict, G.isy_dict_none, G.isy_dict_bool, G.isy_dict_int, G.isy_dict_str, G.isy_dict_list, G.isy_dict_tuple, G.isy_dict_dict, G.it_t, G.it_f, G.b_tt, G.b_ft, G.b_nt, G.b_nf, G.b_ta, G.b_fa, G.b_at, G.b_to, G.b_fo, G.lI_0, G.lI_1, G.lI_2, G.lI_3, G.lI_4, G.lI_5, G.lI_m, G.bs_f, G.es_f, G.bb_tt, G.bb_tf, G.bb_ft, G.bb_ff, G.bq_s, G.r_dic, G.k_dic1, G.k_dic2, G.k_dic3, G.k_dic4, G.k_kD1, G.k_kD2, G.k_fl0, G.k_fl1, G.k_pr0, G.k_pr1, G.k_pr2, G.r_dic0, G.d_ixDi, G.d_ixDs, G.d_inGT, G.d_inGL, G.d_ninGT, G.d_ninGL, G.d_inGi, G.d_ninGi, G.k_vals, G.k_items, G.d_setDi, G.dg_nil, G.dg_i, G.dg_s, G.mg_0, G.mg_s, G.dpk_n, G.ky_i, G.ky_s, G.d_eqX, G.d_neX, G.d_inT, G.d_inL, G.d_ninT, G.d_ninL, G.ev_ii, G.ev_bb, G.ev_ss, G.ev_nn, G.ev_tt, G.ev_ll, G.ev_0, G.ev_c, G.ev_c0, G.ev_0c, G.ev_none_bool, G.ev_none_int, G.ev_none_str, G.ev_none_list, G.ev_none_tuple, G.ev_bool_none, G.ev_bool_str, G.ev_bool_list, G.ev_bool_tuple, G.ev_int_none, G.ev_int_str, G.ev_int_list, G.ev_int_tuple, G.ev_str_none, G.ev_str_bool, G.ev_str_int, G.ev_str_list, G.ev_str_tuple, G.ev_list_none, G.ev_list_bool, G.ev_list_int, G.ev_list_str, G.ev_list_tuple, G.ev_tuple_none, G.ev_tuple_bool, G.ev_tuple_int, G.ev_tuple_str, G.ev_tuple_list, G.dec_t, G.not_dec, G.k_popA, G.k_popZ, G.k_pop1, G.r_ext, G.k_ext1, G.k_ext2, G.k_ext3, G.k_ext4, G.r_items, G.k_itemsJ, G.d_listD, G.d_intI, G.d_intB, G.d_strI, G.r_subG, G.k_sub1, G.k_sub2, G.k_sub3, G.k_sub4, G.k_sub5, G.k_sub6, G.k_sub7, G.r_tupL1, G.r_tupL2, G.r_tupL3, G.r_tupL4, G.d_isB, G.d_isnB, G.d_isnN, G.d_revL, G.d_revT, G.r_permA, G.k_perm1, G.k_perm2, G.k_perm3a, G.k_perm3b, G.k_perm3c, G.k_perm3d, G.k_perm3e, Int.reduceEq, Int.reduceLE, Int.reduceLT, Int.reduceAdd, Int.reduceSub, Int.reduceMul, Int.reduceNeg, Nat.reduceAdd, List.nil_append, not_true_eq_false, not_false_eq_true, and_true, true_and, and_false, false_and, or_true, true_or, or_false, false_or, decide_true, decide_false, eq_self, Bool.and_true, Bool.and_false, $ls,*] at $h:ident)
end M
namespace M
open PySem PySem.Spec PyProof.Rows L2 G
local macro_rules
  | `(tactic| simp? [$ls,*]) => `(tactic| simp (maxSteps := 1000000) (disch := first | assumption | (simp (disch := decide +kernel) only [G.sl_nil, G.sl_cons, List.cons_append, List.nil_append, G.shN_str, G.shN_tup, G.shN_lst, G.shN_int, G.shN_bool, G.shN_none, G.shA_nil, G.shA_cons, G.b_ta, G.ky_i, G.ky_s]; done) | exact G.len_ok (by simp only [G.sl_nil, G.sl_cons]) | decide | decide +kernel | exact G.mulOk_l (by decide) | exact G.mulOk_r (by decide) | omega) only [G.rb_ok, G.rb_ex, G.rb_bad, G.rb_ite, G.lz, G.ls, G.sz, G.ss, G.r_seq, G.k_seq1, G.k_seq2, G.k_seq3, G.k_seq4, G.r_nx, G.r_bk, G.r_ct, G.r_retN, G.r_ret, G.k_ret, G.r_drop, G.k_drop, G.r_if, G.r_ife, G.k_if, G.r_asg, G.k_asg1, G.k_asg2, G.k_asg3, G.k_sl1, G.k_sl2, G.k_sh1, G.k_sh2, G.k_sh3, G.k_sh4, G.k_sh5, G.r_asgG, G.k_asgG, G.k_asgL, G.k_tg, G.r_nm, G.r_tup, G.r_tup1, G.r_tup3, G.r_tup4, G.r_nil, G.r_cons, G.r_V, G.k_V1, G.k_V2, G.k_V4, G.k_V3, G.r_C, G.p_val, G.p_fr, G.p_sl, G.pb_1, G.pb_2, G.pb_3, G.od_1, G.od_2, G.p_1, G.p_2, G.p_3, G.q_1, G.q_2, G.q_3, G.re_1, G.re_2, G.re_ite, G.st_1, G.st_2, G.st_3, G.r_op2, G.k_op2a, G.k_op2b, G.k_op2c, G.r_op1, G.k_op1, G.ob_some, G.r_said, G.k_said1, G.r_opN, G.k_opN, G.r_pk0, G.r_pk1, G.k_pk, G.r_anil, G.r_acons, G.k_acons, G.k_acons2, G.shs_v0, G.shs_v1, G.shs_v2, G.shs_v3, G.shs_v4, G.om_some, G.r_tupT, G.r_lstT, G.k_dt, G.k_dl, G.k_d1, G.k_d2, G.r_fB, G.k_fB, G.r_and, G.r_or, G.r_andV, G.r_orV, G.r_not, G.r_notV, G.k_not, G.k_notV, G.r_yes, G.r_ch, G.k_ch1, G.k_ch2, G.k_ch3, G.k_ch4, G.k_ch5, G.r_call, G.c1_nil, G.c1_t, G.c1_f, G.c1_s, G.c1_s1, G.c1_s2, G.k_ca, G.k_c1, G.k_c2, G.c2_nil, G.c2_v, G.c2_s, G.c2_s1, G.c2_s3, G.c2_s2, G.k_call, G.k_w1, G.k_w2, G.k_w3, G.k_wite, G.wb_nil, G.wb_none, G.wb_some, G.k_wb1, G.k_wb2, G.wbx_nil, G.wbx_none, G.ap_nil, G.ap_nil2, G.ap_cons, G.ma_nil, G.ma_cons, G.ds_nil, G.ds_none, G.ds_some, G.me_nil, G.me_none, G.me_some, G.ou_0, G.ou_s, G.ob_val, G.ob_own, G.ob_un, G.ob_exc, G.ob_prm, G.le_0, G.le_s, G.k_rf1, G.k_rf2, G.k_rf3, G.k_rf4, G.k_rs1, G.k_rs2, G.r_set, G.k_set1, G.k_set2, G.k_set3, G.k_set4, G.k_set5, G.k_set6, G.k_set7, G.k_set8, G.k_set9, G.r_mut, G.k_mu1, G.k_mu2, G.k_mu3, G.k_mu4, G.k_mu5, G.k_mu6, G.k_mu7, G.k_app, G.k_apps, G.r_par, G.k_par1, G.k_par2, G.k_par3, G.k_par4, G.k_par5, G.r_par3, G.k_p3a, G.k_p3b, G.r_parN, G.k_pn1, G.k_pn2, G.k_nx, G.ev_nil, G.ev_cons, G.k_ev1, G.k_ev2, G.rs_nil, G.rs_val, G.rs_fr, G.rs_sl, G.k_rsS1, G.k_rsS2, G.bn_nil, G.bn_val, G.bn_fr, G.r_rep, G.k_rp1, G.k_rp2, G.k_rp3, G.ixN_last, G.set_last, G.ix_last, G.r_for, G.k_for, G.fo_nil, G.fo_cons, G.k_fo0, G.k_fo1, G.k_fo2, G.k_fo3, G.k_fo4, G.r_turn, G.k_tu0, G.k_tu1, G.k_tu2, G.k_tu3, G.k_tu4, G.r_seqI, G.k_seqI, G.k_seqI1, G.k_seqI3, G.k_seqI5, G.k_seqI6, G.k_seqI4, G.k_seqI2, G.r_rng1, G.k_rng1, G.k_rng1b, G.r_rng2, G.k_rng2, G.k_rng2b, G.rgl_0, G.rgl_1, G.rgl_2, G.rgl_3, G.rgl_4, G.rgl_5, G.rgl_6, G.rgl_7, G.rgl_8, G.rgl_9, G.rgl_10, G.rgl_12, G.rgl_16, G.r1l_1, G.r1l_2, G.r1l_3, G.r1l_4, G.r1l_5, G.r1l_6, G.r1l_8, G.rpl_0, G.rpl_1, G.rpl_2, G.rpl_3, G.rpl_4, G.rpl_5, G.rpl_6, G.rpl_7, G.rpl_8, G.r_lc, G.k_lc, G.l_nil, G.l_cons, G.l_A, G.l_B, G.l_C, G.l_C2, G.l_C3, G.l_S1, G.l_S2, G.l_D, G.k_lc1, G.wi_nil, G.wi_cons, G.mulOk_l, G.mulOk_r, G.r_sl, G.k_sla, G.k_slb, G.k_slc, G.k_sld, G.pt_n, G.pt_s, G.k_pt, G.cu_t, G.cu_l, G.cu_1n, G.cu_2n, G.cu_n1, G.d_add, G.d_addT, G.d_addTs, G.d_addL, G.d_addLs, G.d_sub, G.d_mul, G.d_fdiv, G.d_mod, G.d_neg, G.d_cmp, G.d_ixT, G.d_ixL, G.at_0, G.at_1, G.at_2, G.at_3, G.d_lenL, G.d_lenT, G.d_tupL, G.d_tupT, G.d_all, G.k_all, G.d_any, G.k_any, G.bo_nil, G.bo_cons, G.al_nil, G.al_cons, G.al_map, G.an_nil, G.an_cons, G.an_map, G.id_b, G.bo_map, G.d_max, G.d_min, G.d_listL, G.d_listT, G.d_p18, G.d_p13, G.d_p12, G.d_is, G.d_abs, G.d_repr, G.d_eqS, G.d_neS, G.d_eqI, G.d_neI, G.d_isi, G.isy_int_none, G.isy_int_bool, G.isy_int_int, G.isy_int_str, G.isy_int_list, G.isy_int_tuple, G.isy_int_dict, G.isy_bool_none, G.isy_bool_bool, G.isy_bool_int, G.isy_bool_str, G.isy_bool_list, G.isy_bool_tuple, G.isy_bool_dict, G.isy_tuple_none, G.isy_tuple_bool, G.isy_tuple_int, G.isy_tuple_str, G.isy_tuple_list, G.isy_tuple_tuple, G.isy_tuple_dict, G.isy_list_none, G.isy_list_bool, G.isy_list_int, G.isy_list_str, G.isy_list_list, G.isy_list_tuple, G.isy_list_dict, G.isy_str_none, G.isy_str_bool, G.isy_str_int, G.isy_str_str, G.isy_str_list, G.isy_str_tuple, G.isy_str_dict, G.isy_dict_none, G.isy_dict_bool, G.isy_dict_int, G.isy_dict_str, G.isy_dict_list, G.isy_dict_tuple, G.isy_dict_dict, G.it_t, G.it_f, G.b_tt, G.b_ft, G.b_nt, G.b_nf, G.b_ta, G.b_fa, G.b_at, G.b_to, G.b_fo, G.lI_0, G.lI_1, G.lI_2, G.lI_3, G.lI_4, G.lI_5, G.lI_m, G.bs_f, G.es_f, G.bb_tt, G.bb_tf, G.bb_ft, G.bb_ff, G.bq_s, G.r_dic, G.k_dic1, G.k_dic2, G.k_dic3, G.k_dic4, G.k_kD1, G.k_kD2, G.k_fl0, G.k_fl1, G.k_pr0, G.k_pr1, G.k_pr2, G.r_dic0, G.d_ixDi, G.d_ixDs, G.d_inGT, G.d_inGL, G.d_ninGT, G.d_ninGL, G.d_inGi, G.d_ninGi, G.k_vals, G.k_items, G.d_setDi, G.dg_nil, G.dg_i, G.dg_s, G.mg_0, G.mg_s, G.dpk_n, G.ky_i, G.ky_s, G.d_eqX, G.d_neX, G.d_inT, G.d_inL, G.d_ninT, G.d_ninL, G.ev_ii, G.ev_bb, G.ev_ss, G.ev_nn, G.ev_tt, G.ev_ll, G.ev_0, G.ev_c, G.ev_c0, G.ev_0c, G.ev_none_bool, G.ev_none_int, G.ev_none_str, G.ev_none_list, G.ev_none_tuple, G.ev_bool_none, G.ev_bool_str, G.ev_bool_list, G.ev_bool_tuple, G.ev_int_none, G.ev_int_str, G.ev_int_list, G.ev_int_tuple, G.ev_str_none, G.ev_str_bool, G.ev_str_int, G.ev_str_list, G.ev_str_tuple, G.ev_list_none, G.ev_list_bool, G.ev_list_int, G.ev_list_str, G.ev_list_tuple, G.ev_tuple_none, G.ev_tuple_bool, G.ev_tuple_int, G.ev_tuple_str, G.ev_tuple_list, G.dec_t, G.not_dec, G.k_popA, G.k_popZ, G.k_pop1, G.r_ext, G.k_ext1, G.k_ext2, G.k_ext3, G.k_ext4, G.r_items, G.k_itemsJ, G.d_listD, G.d_intI, G.d_intB, G.d_strI, G.r_subG, G.k_sub1, G.k_sub2, G.k_sub3, G.k_sub4, G.k_sub5, G.k_sub6, G.k_sub7, G.r_tupL1, G.r_tupL2, G.r_tupL3, G.r_tupL4, G.d_isB, G.d_isnB, G.d_isnN, G.d_revL, G.d_revT, G.r_permA, G.k_perm1, G.k_perm2, G.k_perm3a, G.k_perm3b, G.k_perm3c, G.k_perm3d, G.k_perm3e, Int.reduceEq, Int.reduceLE, Int.reduceLT, Int.reduceAdd, Int.reduceSub, Int.reduceMul, Int.reduceNeg, Nat.reduceAdd, List.nil_append, not_true_eq_false, not_false_eq_true, and_true, true_and, and_false, false_and, or_true, true_or, or_false, false_or, decide_true, decide_false, eq_self, Bool.and_true, Bool.and_false, $ls,*])
  | `(tactic| simp? [$ls,*] at $h:ident) => `(tactic| simp (maxSteps := 1000000) (disch := first | assumption | (simp (disch := decide +kernel) only [G.sl_nil, G.sl_cons, List.cons_append, List.nil_append, G.shN_str, G.shN_tup, G.shN_lst, G.shN_int, G.shN_bool, G.shN_none, G.shA_nil, G.shA_cons, G.b_ta, G.ky_i, G.ky_s]; done) | exact G.len_ok (by simp only [G.sl_nil, G.sl_cons]) | decide | decide +kernel | exact G.mulOk_l (by decide) | exact G.mulOk_r (by decide) | omega) only [G.rb_ok, G.rb_ex, G.rb_bad, G.rb_ite, G.lz, G.ls, G.sz, G.ss, G.r_seq, G.k_seq1, G.k_seq2, G.k_seq3, G.k_seq4, G.r_nx, G.r_bk, G.r_ct, G.r_retN, G.r_ret, G.k_ret, G.r_drop, G.k_drop, G.r_if, G.r_ife, G.k_if, G.r_asg, G.k_asg1, G.k_asg2, G.k_asg3, G.k_sl1, G.k_sl2, G.k_sh1, G.k_sh2, G.k_sh3, G.k_sh4, G.k_sh5, G.r_asgG, G.k_asgG, G.k_asgL, G.k_tg, G.r_nm, G.r_tup, G.r_tup1, G.r_tup3, G.r_tup4, G.r_nil, G.r_cons, G.r_V, G.k_V1, G.k_V2, G.k_V4, G.k_V3, G.r_C, G.p_val, G.p_fr, G.p_sl, G.pb_1, G.pb_2, G.pb_3, G.od_1, G.od_2, G.p_1, G.p_2, G.p_3, G.q_1, G.q_2, G.q_3, G.re_1, G.re_2, G.re_ite, G.st_1, G.st_2, G.st_3, G.r_op2, G.k_op2a, G.k_op2b, G.k_op2c, G.r_op1, G.k_op1, G.ob_some, G.r_said, G.k_said1, G.r_opN, G.k_opN, G.r_pk0, G.r_pk1, G.k_pk, G.r_anil, G.r_acons, G.k_acons, G.k_acons2, G.shs_v0, G.shs_v1, G.shs_v2, G.shs_v3, G.shs_v4, G.om_some, G.r_tupT, G.r_lstT, G.k_dt, G.k_dl, G.k_d1, G.k_d2, G.r_fB, G.k_fB, G.r_and, G.r_or, G.r_andV, G.r_orV, G.r_not, G.r_notV, G.k_not, G.k_notV, G.r_yes, G.r_ch, G.k_ch1, G.k_ch2, G.k_ch3, G.k_ch4, G.k_ch5, G.r_call, G.c1_nil, G.c1_t, G.c1_f, G.c1_s, G.c1_s1, G.c1_s2, G.k_ca, G.k_c1, G.k_c2, G.c2_nil, G.c2_v, G.c2_s, G.c2_s1, G.c2_s3, G.c2_s2, G.k_call, G.k_w1, G.k_w2, G.k_w3, G.k_wite, G.wb_nil, G.wb_none, G.wb_some, G.k_wb1, G.k_wb2, G.wbx_nil, G.wbx_none, G.ap_nil, G.ap_nil2, G.ap_cons, G.ma_nil, G.ma_cons, G.ds_nil, G.ds_none, G.ds_some, G.me_nil, G.me_none, G.me_some, G.ou_0, G.ou_s, G.ob_val, G.ob_own, G.ob_un, G.ob_exc, G.ob_prm, G.le_0, G.le_s, G.k_rf1, G.k_rf2, G.k_rf3, G.k_rf4, G.k_rs1, G.k_rs2, G.r_set, G.k_set1, G.k_set2, G.k_set3, G.k_set4, G.k_set5, G.k_set6, G.k_set7, G.k_set8, G.k_set9, G.r_mut, G.k_mu1, G.k_mu2, G.k_mu3, G.k_mu4, G.k_mu5, G.k_mu6, G.k_mu7, G.k_app, G.k_apps, G.r_par, G.k_par1, G.k_par2, G.k_par3, G.k_par4, G.k_par5, G.r_par3, G.k_p3a, G.k_p3b, G.r_parN, G.k_pn1, G.k_pn2, G.k_nx, G.ev_nil, G.ev_cons, G.k_ev1, G.k_ev2, G.rs_nil, G.rs_val, G.rs_fr, G.rs_sl, G.k_rsS1, G.k_rsS2, G.bn_nil, G.bn_val, G.bn_fr, G.r_rep, G.k_rp1, G.k_rp2, G.k_rp3, G.ixN_last, G.set_last, G.ix_last, G.r_for, G.k_for, G.fo_nil, G.fo_cons, G.k_fo0, G.k_fo1, G.k_fo2, G.k_fo3, G.k_fo4, G.r_turn, G.k_tu0, G.k_tu1, G.k_tu2, G.k_tu3, G.k_tu4, G.r_seqI, G.k_seqI, G.k_seqI1, G.k_seqI3, G.k_seqI5, G.k_seqI6, G.k_seqI4, G.k_seqI2, G.r_rng1, G.k_rng1, G.k_rng1b, G.r_rng2, G.k_rng2, G.k_rng2b, G.rgl_0, G.rgl_1, G.rgl_2, G.rgl_3, G.rgl_4, G.rgl_5, G.rgl_6, G.rgl_7, G.rgl_8, G.rgl_9, G.rgl_10, G.rgl_12, G.rgl_16, G.r1l_1, G.r1l_2, G.r1l_3, G.r1l_4, G.r1l_5, G.r1l_6, G.r1l_8, G.rpl_0, G.rpl_1, G.rpl_2, G.rpl_3, G.rpl_4, G.rpl_5, G.rpl_6, G.rpl_7, G.rpl_8, G.r_lc, G.k_lc, G.l_nil, G.l_cons, G.l_A, G.l_B, G.l_C, G.l_C2, G.l_C3, G.l_S1, G.l_S2, G.l_D, G.k_lc1, G.wi_nil, G.wi_cons, G.mulOk_l, G.mulOk_r, G.r_sl, G.k_sla, G.k_slb, G.k_slc, G.k_sld, G.pt_n, G.pt_s, G.k_pt, G.cu_t, G.cu_l, G.cu_1n, G.cu_2n, G.cu_n1, G.d_add, G.d_addT, G.d_addTs, G.d_addL, G.d_addLs, G.d_sub, G.d_mul, G.d_fdiv, G.d_mod, G.d_neg, G.d_cmp, G.d_ixT, G.d_ixL, G.at_0, G.at_1, G.at_2, G.at_3, G.d_lenL, G.d_lenT, G.d_tupL, G.d_tupT, G.d_all, G.k_all, G.d_any, G.k_any, G.bo_nil, G.bo_cons, G.al_nil, G.al_cons, G.al_map, G.an_nil, G.an_cons, G.an_map, G.id_b, G.bo_map, G.d_max, G.d_min, G.d_listL, G.d_listT, G.d_p18, G.d_p13, G.d_p12, G.d_is, G.d_abs, G.d_repr, G.d_eqS, G.d_neS, G.d_eqI, G.d_neI, G.d_isi, G.isy_int_none, G.isy_int_bool, G.isy_int_int, G.isy_int_str, G.isy_int_list, G.isy_int_tuple, G.isy_int_dict, G.isy_bool_none, G.isy_bool_bool, G.isy_bool_int, G.isy_bool_str, G.isy_bool_list, G.isy_bool_tuple, G.isy_bool_dict, G.isy_tuple_none, G.isy_tuple_bool, G.isy_tuple_int, G.isy_tuple_str, G.isy_tuple_list, G.isy_tuple_tuple, G.isy_tuple_dict, G.isy_list_none, G.isy_list_bool, G.isy_list_int, G.isy_list_str, G.isy_list_list, G.isy_list_tuple, G.isy_list_dict, G.isy_str_none, G.isy_str_bool, G.isy_str_int, G.isy_str_str, G.isy_str_list, G.isy_str_tuple, G.isy_str_dict, G.isy_dict_none, G.isy_dict_bool, G.isy_dict_int, G.isy_dict_str, G.isy_dict_list, G.isy_dict_tuple, G.isy_dict_dict, G.it_t, G.it_f, G.b_tt, G.b_ft, G.b_nt, G.b_nf, G.b_ta, G.b_fa, G.b_at, G.b_to, G.b_fo, G.lI_0, G.lI_1, G.lI_2, G.lI_3, G.lI_4, G.lI_5, G.lI_m, G.bs_f, G.es_f, G.bb_tt, G.bb_tf, G.bb_ft, G.bb_ff, G.bq_s, G.r_dic, G.k_dic1, G.k_dic2, G.k_dic3, G.k_dic4, G.k_kD1, G.k_kD2, G.k_fl0, G.k_fl1, G.k_pr0, G.k_pr1, G.k_pr2, G.r_dic0, G.d_ixDi, G.d_ixDs, G.d_inGT, G.d_inGL, G.d_ninGT, G.d_ninGL, G.d_inGi, G.d_ninGi, G.k_vals, G.k_items, G.d_setDi, G.dg_nil, G.dg_i, G.dg_s, G.mg_0, G.mg_s, G.dpk_n, G.ky_i, G.ky_s, G.d_eqX, G.d_neX, G.d_inT, G.d_inL, G.d_ninT, G.d_ninL, G.ev_ii, G.ev_bb, G.ev_ss, G.ev_nn, G.ev_tt, G.ev_ll, G.ev_0, G.ev_c, G.ev_c0, G.ev_0c, G.ev_none_bool, G.ev_none_int, G.ev_none_str, G.ev_none_list, G.ev_none_tuple, G.ev_bool_none, G.ev_bool_str, G.ev_bool_list, G.ev_bool_tuple, G.ev_int_none, G.ev_int_str, G.ev_int_list, G.ev_int_tuple, G.ev_str_none, G.ev_str_bool, G.ev_str_int, G.ev_str_list, G.ev_str_tuple, G.ev_list_none, G.ev_list_bool, G.ev_list_int, G.ev_list_str, G.ev_list_tuple, G.ev_tuple_none, G.ev_tuple_bool, G.ev_tuple_int, G.ev_tuple_str, G.ev_tuple_list, G.dec_t, G.not_dec, G.k_popA, G.k_popZ, G.k_pop1, G.r_ext, G.k_ext1, G.k_ext2, G.k_ext3, G.k_ext4, G.r_items, G.k_itemsJ, G.d_listD, G.d_intI, G.d_intB, G.d_strI, G.r_subG, G.k_sub1, G.k_sub2, G.k_sub3, G.k_sub4, G.k_sub5, G.k_sub6, G.k_sub7, G.r_tupL1, G.r_tupL2, G.r_tupL3, G.r_tupL4, G.d_isB, G.d_isnB, G.d_isnN, G.d_revL, G.d_revT, G.r_permA, G.k_perm1, G.k_perm2, G.k_perm3a, G.k_perm3b, G.k_perm3c, G.k_perm3d, G.k_perm3e, Int.reduceEq, Int.reduceLE, Int.reduceLT, Int.reduceAdd, Int.reduceSub, Int.reduceMul, Int.reduceNeg, Nat.reduceAdd, List.nil_append, not_true_eq_false, not_false_eq_true, and_true, true_and, and_false, false_and, or_true, true_or, or_false, false_or, decide_true, decide_false, eq_self, Bool.and_true, Bool.and_false, $ls,*] at $h:ident)
end M
namespace M
open PySem PySem.Spec PyProof.Rows L2 G
/-! ### bases that grow -/
def Bs.Bd (n : Nat) : Bs → Prop
  | .b0 => True
  | .b1 a b => a.natAbs ≤ n ∧ b.natAbs ≤ n
  | .b2 a _ d => a.natAbs ≤ 2 * (n * n) ∧ d.natAbs ≤ 2 * (n * n)
def Bs.meas (n : Nat) : Bs → Nat
  | .b0 => 4 * (n * n) * (n * n) + 1 + 2 * n + 1
  | .b1 a b => 4 * (n * n) * (n * n) + 1 + a.natAbs + b.natAbs
  | .b2 a _ d => a.natAbs * d.natAbs
theorem Bs.sub_of {A : Bs} {vs : List (Int × Int)} (sp : SpEq vs A.vs) {v : Int × Int} (h : v ∈ vs) : A.has v.1 v.2 := (A.has_iff _ _).mpr ((sp _ _).mp (.of h))
theorem Bs.d_vs (A : Bs) : A.d = .tuple (A.vs.map vd) := by cases A <;> rfl
end M
namespace M
open PySem PySem.Spec PyProof.Rows L2 G
local macro_rules
  | `(tactic| simp? [$ls,*]) => `(tactic| simp (maxSteps := 1000000) (disch := first | assumption | (simp (disch := decide +kernel) only [G.sl_nil, G.sl_cons, List.cons_append, List.nil_append, G.shN_str, G.shN_tup, G.shN_lst, G.shN_int, G.shN_bool, G.shN_none, G.shA_nil, G.shA_cons, G.b_ta, G.ky_i, G.ky_s]; done) | exact G.len_ok (by simp only [G.sl_nil, G.sl_cons]) | decide | decide +kernel | exact G.mulOk_l (by decide) | exact G.mulOk_r (by decide) | omega) only [G.rb_ok, G.rb_ex, G.rb_bad, G.rb_ite, G.lz, G.ls, G.sz, G.ss, G.r_seq, G.k_seq1, G.k_seq2, G.k_seq3, G.k_seq4, G.r_nx, G.r_bk, G.r_ct, G.r_retN, G.r_ret, G.k_ret, G.r_drop, G.k_drop, G.r_if, G.r_ife, G.k_if, G.r_asg, G.k_asg1, G.k_asg2, G.k_asg3, G.k_sl1, G.k_sl2, G.k_sh1, G.k_sh2, G.k_sh3, G.k_sh4, G.k_sh5, G.r_asgG, G.k_asgG, G.k_asgL, G.k_tg, G.r_nm, G.r_tup, G.r_tup1, G.r_tup3, G.r_tup4, G.r_nil, G.r_cons, G.r_V, G.k_V1, G.k_V2, G.k_V4, G.k_V3, G.r_C, G.p_val, G.p_fr, G.p_sl, G.pb_1, G.pb_2, G.pb_3, G.od_1, G.od_2, G.p_1, G.p_2, G.p_3, G.q_1, G.q_2, G.q_3, G.re_1, G.re_2, G.re_ite, G.st_1, G.st_2, G.st_3, G.r_op2, G.k_op2a, G.k_op2b, G.k_op2c, G.r_op1, G.k_op1, G.ob_some, G.r_said, G.k_said1, G.r_opN, G.k_opN, G.r_pk0, G.r_pk1, G.k_pk, G.r_anil, G.r_acons, G.k_acons, G.k_acons2, G.shs_v0, G.shs_v1, G.shs_v2, G.shs_v3, G.shs_v4, G.om_some, G.r_tupT, G.r_lstT, G.k_dt, G.k_dl, G.k_d1, G.k_d2, G.r_fB, G.k_fB, G.r_and, G.r_or, G.r_andV, G.r_orV, G.r_not, G.r_notV, G.k_not, G.k_notV, G.r_yes, G.r_ch, G.k_ch1, G.k_ch2, G.k_ch3, G.k_ch4, G.k_ch5, G.r_call, G.c1_nil, G.c1_t, G.c1_f, G.c1_s, G.c1_s1, G.c1_s2, G.k_ca, G.k_c1, G.k_c2, G.c2_nil, G.c2_v, G.c2_s, G.c2_s1, G.c2_s3, G.c2_s2, G.k_call, G.k_w1, G.k_w2, G.k_w3, G.k_wite, G.wb_nil, G.wb_none, G.wb_some, G.k_wb1, G.k_wb2, G.wbx_nil, G.wbx_none, G.ap_nil, G.ap_nil2, G.ap_cons, G.ma_nil, G.ma_cons, G.ds_nil, G.ds_none, G.ds_some, G.me_nil, G.me_none, G.me_some, G.ou_0, G.ou_s, G.ob_val, G.ob_own, G.ob_un, G.ob_exc, G.ob_prm, G.le_0, G.le_s, G.k_rf1, G.k_rf2, G.k_rf3, G.k_rf4, G.k_rs1, G.k_rs2, G.r_set, G.k_set1, G.k_set2, G.k_set3, G.k_set4, G.k_set5, G.k_set6, G.k_set7, G.k_set8, G.k_set9, G.r_mut, G.k_mu1, G.k_mu2, G.k_mu3, G.k_mu4, G.k_mu5, G.k_mu6, G.k_mu7, G.k_app, G.k_apps, G.r_par, G.k_par1, G.k_par2, G.k_par3, G.k_par4, G.k_par5, G.r_par3, G.k_p3a, G.k_p3b, G.r_parN, G.k_pn1, G.k_pn2, G.k_nx, G.ev_nil, G.ev_cons, G.k_ev1, G.k_ev2, G.rs_nil, G.rs_val, G.rs_fr, G.rs_sl, G.k_rsS1, G.k_rsS2, G.bn_nil, G.bn_val, G.bn_fr, G.r_rep, G.k_rp1, G.k_rp2, G.k_rp3, G.ixN_last, G.set_last, G.ix_last, G.r_for, G.k_for, G.fo_nil, G.fo_cons, G.k_fo0, G.k_fo1, G.k_fo2, G.k_fo3, G.k_fo4, G.r_turn, G.k_tu0, G.k_tu1, G.k_tu2, G.k_tu3, G.k_tu4, G.r_seqI, G.k_seqI, G.k_seqI1, G.k_seqI3, G.k_seqI5, G.k_seqI6, G.k_seqI4, G.k_seqI2, G.r_rng1, G.k_rng1, G.k_rng1b, G.r_rng2, G.k_rng2, G.k_rng2b, G.rgl_0, G.rgl_1, G.rgl_2, G.rgl_3, G.rgl_4, G.rgl_5, G.rgl_6, G.rgl_7, G.rgl_8, G.rgl_9, G.rgl_10, G.rgl_12, G.rgl_16, G.r1l_1, G.r1l_2, G.r1l_3, G.r1l_4, G.r1l_5, G.r1l_6, G.r1l_8, G.rpl_0, G.rpl_1, G.rpl_2, G.rpl_3, G.rpl_4, G.rpl_5, G.rpl_6, G.rpl_7, G.rpl_8, G.r_lc, G.k_lc, G.l_nil, G.l_cons, G.l_A, G.l_B, G.l_C, G.l_C2, G.l_C3, G.l_S1, G.l_S2, G.l_D, G.k_lc1, G.wi_nil, G.wi_cons, G.mulOk_l, G.mulOk_r, G.r_sl, G.k_sla, G.k_slb, G.k_slc, G.k_sld, G.pt_n, G.pt_s, G.k_pt, G.cu_t, G.cu_l, G.cu_1n, G.cu_2n, G.cu_n1, G.d_add, G.d_addT, G.d_addTs, G.d_addL, G.d_addLs, G.d_sub, G.d_mul, G.d_fdiv, G.d_mod, G.d_neg, G.d_cmp, G.d_ixT, G.d_ixL, G.at_0, G.at_1, G.at_2, G.at_3, G.d_lenL, G.d_lenT, G.d_tupL, G.d_tupT, G.d_all, G.k_all, G.d_any, G.k_any, G.bo_nil, G.bo_cons, G.al_nil, G.al_cons, G.al_map, G.an_nil, G.an_cons, G.an_map, G.id_b, G.bo_map, G.d_max, G.d_min, G.d_listL, G.d_listT, G.d_p18, G.d_p13, G.d_p12, G.d_is, G.d_abs, G.d_repr, G.d_eqS, G.d_neS, G.d_eqI, G.d_neI, G.d_isi, G.isy_int_none, G.isy_int_bool, G.isy_int_int, G.isy_int_str, G.isy_int_list, G.isy_int_tuple, G.isy_int_dict, G.isy_bool_none, G.isy_bool_bool, G.isy_bool_int, G.isy_bool_str, G.isy_bool_list, G.isy_bool_tuple, G.isy_bool_dict, G.isy_tuple_none, G.isy_tuple_bool, G.isy_tuple_int, G.isy_tuple_str, G.isy_tuple_list, G.isy_tuple_tuple, G.isy_tuple_dict, G.isy_list_none, G.isy_list_bool, G.isy_list_int, G.isy_list_str, G.isy_list_list, G.isy_list_tuple, G.isy_list_dict, G.isy_str_none, G.isy_str_bool, G.isy_str_int, G.isy_str_str, G.isy_str_list, G.isy_str_tuple, G.isy_str_dict, G.isy_dict_none, G.isy_dict_bool, G.isy_dict_int, G.isy_dict_str, G.isy_dict_list, G.isy_dict_tuple, G.isy_dict_dict, G.it_t, G.it_f, G.b_tt, G.b_ft, G.b_nt, G.b_nf, G.b_ta, G.b_fa, G.b_at, G.b_to, G.b_fo, G.lI_0, G.lI_1, G.lI_2, G.lI_3, G.lI_4, G.lI_5, G.lI_m, G.bs_f, G.es_f, G.bb_tt, G.bb_tf, G.bb_ft, G.bb_ff, G.bq_s, G.r_dic, G.k_dic1, G.k_dic2, G.k_dic3, G.k_dic4, G.k_kD1, G.k_kD2, G.k_fl0, G.k_fl1, G.k_pr0, G.k_pr1, G.k_pr2, G.r_dic0, G.d_ixDi, G.d_ixDs, G.d_inGT, G.d_inGL, G.d_ninGT, G.d_ninGL, G.d_inGi, G.d_ninGi, G.k_vals, G.k_items, G.d_setDi, G.dg_nil, G.dg_i, G.dg_s, G.mg_0, G.mg_s, G.dpk_n, G.ky_i, G.ky_s, G.d_eqX, G.d_neX, G.d_inT, G.d_inL, G.d_ninT, G.d_ninL, G.ev_ii, G.ev_bb, G.ev_ss, G.ev_nn, G.ev_tt, G.ev_ll, G.ev_0, G.ev_c, G.ev_c0, G.ev_0c, G.ev_none_bool, G.ev_none_int, G.ev_none_str, G.ev_none_list, G.ev_none_tuple, G.ev_bool_none, G.ev_bool_str, G.ev_bool_list, G.ev_bool_tuple, G.ev_int_none, G.ev_int_str, G.ev_int_list, G.ev_int_tuple, G.ev_str_none, G.ev_str_bool, G.ev_str_int, G.ev_str_list, G.ev_str_tuple, G.ev_list_none, G.ev_list_bool, G.ev_list_int, G.ev_list_str, G.ev_list_tuple, G.ev_tuple_none, G.ev_tuple_bool, G.ev_tuple_int, G.ev_tuple_str, G.ev_tuple_list, G.dec_t, G.not_dec, G.k_popA, G.k_popZ, G.k_pop1, G.r_ext, G.k_ext1, G.k_ext2, G.k_ext3, G.k_ext4, G.r_items, G.k_itemsJ, G.d_listD, G.d_intI, G.d_intB, G.d_strI, G.r_subG, G.k_sub1, G.k_sub2, G.k_sub3, G.k_sub4, G.k_sub5, G.k_sub6, G.k_sub7, G.r_tupL1, G.r_tupL2, G.r_tupL3, G.r_tupL4, G.d_isB, G.d_isnB, G.d_isnN, G.d_revL, G.d_revT, G.r_permA, G.k_perm1, G.k_perm2, G.k_perm3a, G.k_perm3b, G.k_perm3c, G.k_perm3d, G.k_perm3e, Int.reduceEq, Int.reduceLE, Int.reduceLT, Int.reduceAdd, Int.reduceSub, Int.reduceMul, Int.reduceNeg, Nat.reduceAdd, List.nil_append, not_true_eq_false, not_false_eq_true, and_true, true_and, and_false, false_and, or_true, true_or, or_false, false_or, decide_true, decide_false, eq_self, Bool.and_true, Bool.and_false, $ls,*])
  | `(tactic| simp? [$ls,*] at $h:ident) => `(tactic| simp (maxSteps := 1000000) (disch := first | assumption | (simp (disch := decide +kernel) only [G.sl_nil, G.sl_cons, List.cons_append, List.nil_append, G.shN_str, G.shN_tup, G.shN_lst, G.shN_int, G.shN_bool, G.shN_none, G.shA_nil, G.shA_cons, G.b_ta, G.ky_i, G.ky_s]; done) | exact G.len_ok (by simp only [G.sl_nil, G.sl_cons]) | decide | decide +kernel | exact G.mulOk_l (by decide) | exact G.mulOk_r (by decide) | omega) only [G.rb_ok, G.rb_ex, G.rb_bad, G.rb_ite, G.lz, G.ls, G.sz, G.ss, G.r_seq, G.k_seq1, G.k_seq2, G.k_seq3, G.k_seq4, G.r_nx, G.r_bk, G.r_ct, G.r_retN, G.r_ret, G.k_ret, G.r_drop, G.k_drop, G.r_if, G.r_ife, G.k_if, G.r_asg, G.k_asg1, G.k_asg2, G.k_asg3, G.k_sl1, G.k_sl2, G.k_sh1, G.k_sh2, G.k_sh3, G.k_sh4, G.k_sh5, G.r_asgG, G.k_asgG, G.k_asgL, G.k_tg, G.r_nm, G.r_tup, G.r_tup1, G.r_tup3, G.r_tup4, G.r_nil, G.r_cons, G.r_V, G.k_V1, G.k_V2, G.k_V4, G.k_V3, G.r_C, G.p_val, G.p_fr, G.p_sl, G.pb_1, G.pb_2, G.pb_3, G.od_1, G.od_2, G.p_1, G.p_2, G.p_3, G.q_1, G.q_2, G.q_3, G.re_1, G.re_2, G.re_ite, G.st_1, G.st_2, G.st_3, G.r_op2, G.k_op2a, G.k_op2b, G.k_op2c, G.r_op1, G.k_op1, G.ob_some, G.r_said, G.k_said1, G.r_opN, G.k_opN, G.r_pk0, G.r_pk1, G.k_pk, G.r_anil, G.r_acons, G.k_acons, G.k_acons2, G.shs_v0, G.shs_v1, G.shs_v2, G.shs_v3, G.shs_v4, G.om_some, G.r_tupT, G.r_lstT, G.k_dt, G.k_dl, G.k_d1, G.k_d2, G.r_fB, G.k_fB, G.r_and, G.r_or, G.r_andV, G.r_orV, G.r_not, G.r_notV, G.k_not, G.k_notV, G.r_yes, G.r_ch, G.k_ch1, G.k_ch2, G.k_ch3, G.k_ch4, G.k_ch5, G.r_call, G.c1_nil, G.c1_t, G.c1_f, G.c1_s, G.c1_s1, G.c1_s2, G.k_ca, G.k_c1, G.k_c2, G.c2_nil, G.c2_v, G.c2_s, G.c2_s1, G.c2_s3, G.c2_s2, G.k_call, G.k_w1, G.k_w2, G.k_w3, G.k_wite, G.wb_nil, G.wb_none, G.wb_some, G.k_wb1, G.k_wb2, G.wbx_nil, G.wbx_none, G.ap_nil, G.ap_nil2, G.ap_cons, G.ma_nil, G.ma_cons, G.ds_nil, G.ds_none, G.ds_some, G.me_nil, G.me_none, G.me_some, G.ou_0, G.ou_s, G.ob_val, G.ob_own, G.ob_un, G.ob_exc, G.ob_prm, G.le_0, G.le_s, G.k_rf1, G.k_rf2, G.k_rf3, G.k_rf4, G.k_rs1, G.k_rs2, G.r_set, G.k_set1, G.k_set2, G.k_set3, G.k_set4, G.k_set5, G.k_set6, G.k_set7, G.k_set8, G.k_set9, G.r_mut, G.k_mu1, G.k_mu2, G.k_mu3, G.k_mu4, G.k_mu5, G.k_mu6, G.k_mu7, G.k_app, G.k_apps, G.r_par, G.k_par1, G.k_par2, G.k_par3, G.k_par4, G.k_par5, G.r_par3, G.k_p3a, G.k_p3b, G.r_parN, G.k_pn1, G.k_pn2, G.k_nx, G.ev_nil, G.ev_cons, G.k_ev1, G.k_ev2, G.rs_nil, G.rs_val, G.rs_fr, G.rs_sl, G.k_rsS1, G.k_rsS2, G.bn_nil, G.bn_val, G.bn_fr, G.r_rep, G.k_rp1, G.k_rp2, G.k_rp3, G.ixN_last, G.set_last, G.ix_last, G.r_for, G.k_for, G.fo_nil, G.fo_cons, G.k_fo0, G.k_fo1, G.k_fo2, G.k_fo3, G.k_fo4, G.r_turn, G.k_tu0, G.k_tu1, G.k_tu2, G.k_tu3, G.k_tu4, G.r_seqI, G.k_seqI, G.k_seqI1, G.k_seqI3, G.k_seqI5, G.k_seqI6, G.k_seqI4, G.k_seqI2, G.r_rng1, G.k_rng1, G.k_rng1b, G.r_rng2, G.k_rng2, G.k_rng2b, G.rgl_0, G.rgl_1, G.rgl_2, G.rgl_3, G.rgl_4, G.rgl_5, G.rgl_6, G.rgl_7, G.rgl_8, G.rgl_9, G.rgl_10, G.rgl_12, G.rgl_16, G.r1l_1, G.r1l_2, G.r1l_3, G.r1l_4, G.r1l_5, G.r1l_6, G.r1l_8, G.rpl_0, G.rpl_1, G.rpl_2, G.rpl_3, G.rpl_4, G.rpl_5, G.rpl_6, G.rpl_7, G.rpl_8, G.r_lc, G.k_lc, G.l_nil, G.l_cons, G.l_A, G.l_B, G.l_C, G.l_C2, G.l_C3, G.l_S1, G.l_S2, G.l_D, G.k_lc1, G.wi_nil, G.wi_cons, G.mulOk_l, G.mulOk_r, G.r_sl, G.k_sla, G.k_slb, G.k_slc, G.k_sld, G.pt_n, G.pt_s, G.k_pt, G.cu_t, G.cu_l, G.cu_1n, G.cu_2n, G.cu_n1, G.d_add, G.d_addT, G.d_addTs, G.d_addL, G.d_addLs, G.d_sub, G.d_mul, G.d_fdiv, G.d_mod, G.d_neg, G.d_cmp, G.d_ixT, G.d_ixL, G.at_0, G.at_1, G.at_2, G.at_3, G.d_lenL, G.d_lenT, G.d_tupL, G.d_tupT, G.d_all, G.k_all, G.d_any, G.k_any, G.bo_nil, G.bo_cons, G.al_nil, G.al_cons, G.al_map, G.an_nil, G.an_cons, G.an_map, G.id_b, G.bo_map, G.d_max, G.d_min, G.d_listL, G.d_listT, G.d_p18, G.d_p13, G.d_p12, G.d_is, G.d_abs, G.d_repr, G.d_eqS, G.d_neS, G.d_eqI, G.d_neI, G.d_isi, G.isy_int_none, G.isy_int_bool, G.isy_int_int, G.isy_int_str, G.isy_int_list, G.isy_int_tuple, G.isy_int_dict, G.isy_bool_none, G.isy_bool_bool, G.isy_bool_int, G.isy_bool_str, G.isy_bool_list, G.isy_bool_tuple, G.isy_bool_dict, G.isy_tuple_none, G.isy_tuple_bool, G.isy_tuple_int, G.isy_tuple_str, G.isy_tuple_list, G.isy_tuple_tuple, G.isy_tuple_dict, G.isy_list_none, G.isy_list_bool, G.isy_list_int, G.isy_list_str, G.isy_list_list, G.isy_list_tuple, G.isy_list_dict, G.isy_str_none, G.isy_str_bool, G.isy_str_int, G.isy_str_str, G.isy_str_list, G.isy_str_tuple, G.isy_str_dict, G.isy_dict_none, G.isy_dict_bool, G.isy_dict_int, G.isy_dict_str, G.isy_dict_list, G.isy_dict_tuple, G.isy_dict_dict, G.it_t, G.it_f, G.b_tt, G.b_ft, G.b_nt, G.b_nf, G.b_ta, G.b_fa, G.b_at, G.b_to, G.b_fo, G.lI_0, G.lI_1, G.lI_2, G.lI_3, G.lI_4, G.lI_5, G.lI_m, G.bs_f, G.es_f, G.bb_tt, G.bb_tf, G.bb_ft, G.bb_ff, G.bq_s, G.r_dic, G.k_dic1, G.k_dic2, G.k_dic3, G.k_dic4, G.k_kD1, G.k_kD2, G.k_fl0, G.k_fl1, G.k_pr0, G.k_pr1, G.k_pr2, G.r_dic0, G.d_ixDi, G.d_ixDs, G.d_inGT, G.d_inGL, G.d_ninGT, G.d_ninGL, G.d_inGi, G.d_ninGi, G.k_vals, G.k_items, G.d_setDi, G.dg_nil, G.dg_i, G.dg_s, G.mg_0, G.mg_s, G.dpk_n, G.ky_i, G.ky_s, G.d_eqX, G.d_neX, G.d_inT, G.d_inL, G.d_ninT, G.d_ninL, G.ev_ii, G.ev_bb, G.ev_ss, G.ev_nn, G.ev_tt, G.ev_ll, G.ev_0, G.ev_c, G.ev_c0, G.ev_0c, G.ev_none_bool, G.ev_none_int, G.ev_none_str, G.ev_none_list, G.ev_none_tuple, G.ev_bool_none, G.ev_bool_str, G.ev_bool_list, G.ev_bool_tuple, G.ev_int_none, G.ev_int_str, G.ev_int_list, G.ev_int_tuple, G.ev_str_none, G.ev_str_bool, G.ev_str_int, G.ev_str_list, G.ev_str_tuple, G.ev_list_none, G.ev_list_bool, G.ev_list_int, G.ev_list_str, G.ev_list_tuple, G.ev_tuple_none, G.ev_tuple_bool, G.ev_tuple_int, G.ev_tuple_str, G.ev_tuple_list, G.dec_t, G.not_dec, G.k_popA, G.k_popZ, G.k_pop1, G.r_ext, G.k_ext1, G.k_ext2, G.k_ext3, G.k_ext4, G.r_items, G.k_itemsJ, G.d_listD, G.d_intI, G.d_intB, G.d_strI, G.r_subG, G.k_sub1, G.k_sub2, G.k_sub3, G.k_sub4, G.k_sub5, G.k_sub6, G.k_sub7, G.r_tupL1, G.r_tupL2, G.r_tupL3, G.r_tupL4, G.d_isB, G.d_isnB, G.d_isnN, G.d_revL, G.d_revT, G.r_permA, G.k_perm1, G.k_perm2, G.k_perm3a, G.k_perm3b, G.k_perm3c, G.k_perm3d, G.k_perm3e, Int.reduceEq, Int.reduceLE, Int.reduceLT, Int.reduceAdd, Int.reduceSub, Int.reduceMul, Int.reduceNeg, Nat.reduceAdd, List.nil_append, not_true_eq_false, not_false_eq_true, and_true, true_and, and_false, false_and, or_true, true_or, or_false, false_or, decide_true, decide_false, eq_self, Bool.and_true, Bool.and_false, $ls,*] at $h:ident)
/-! ### the laws' own search for a group -/
structure GS (gs : List Sym) (F n : Nat) (A : Bs) (ts : List Sym) : Prop where
  ok : A.ok
  bd : A.Bd n
  gA : ∀ a b, A.has a b → Gn gs (sh a b)
  sb : SB0 gs F ts
def mG (n : Nat) (A : Bs) (ts : List Sym) : Nat := A.meas n + (8 - ts.length)
structure GP (gs : List Sym) (F n : Nat) (A : Bs) (ts : List Sym) (o : Bool) (A' : Bs) (ts' : List Sym) (o' : Bool) : Prop where
  gs : GS gs F n A' ts'
  sA : ∀ x y, A.has x y → A'.has x y
  sT : ∀ t ∈ ts, t ∈ ts'
  ch : (A' = A ∧ ts' = ts ∧ o' = o) ∨ (o' = true ∧ mG n A' ts' < mG n A ts)
theorem GP.trans {gs : List Sym} {F n : Nat} {A A1 A2 : Bs} {ts ts1 ts2 : List Sym} {o o1 o2 : Bool} (h : GP gs F n A ts o A1 ts1 o1) (h' : GP gs F n A1 ts1 o1 A2 ts2 o2) : GP gs F n A ts o A2 ts2 o2 := by
  refine ⟨h'.gs, fun x y z => h'.sA x y (h.sA x y z), fun t z => h'.sT t (h.sT t z), ?_⟩
  rcases h.ch with ⟨e1, e2, e3⟩ | ⟨e1, e2⟩
  · subst e1 e2 e3; exact h'.ch
  · rcases h'.ch with ⟨f1, f2, f3⟩ | ⟨f1, f2⟩
    · subst f1 f2 f3; exact .inr ⟨e1, e2⟩
    · exact .inr ⟨f1, by omega⟩
/-- a sample and a generator lead to a sample, up to a step -/
def Fact (A : Bs) (ts : List Sym) (t g : Sym) : Prop := ∃ t' ∈ ts, t'.k = t.k.mul g.k ∧ A.has ((t.mul g).x - t'.x) ((t.mul g).y - t'.y)
theorem Fact.mono {A A' : Bs} {ts ts' : List Sym} {t g : Sym} (h : Fact A ts t g) (sA : ∀ x y, A.has x y → A'.has x y) (sT : ∀ t ∈ ts, t ∈ ts') : Fact A' ts' t g := by
  obtain ⟨t', h1, h2, h3⟩ := h
  exact ⟨t', sT _ h1, h2, sA _ _ h3⟩
end M
namespace M
open PySem PySem.Spec PyProof.Rows L2 G
local macro_rules
  | `(tactic| simp? [$ls,*]) => `(tactic| simp (maxSteps := 1000000) (disch := first | assumption | (simp (disch := decide +kernel) only [G.sl_nil, G.sl_cons, List.cons_append, List.nil_append, G.shN_str, G.shN_tup, G.shN_lst, G.shN_int, G.shN_bool, G.shN_none, G.shA_nil, G.shA_cons, G.b_ta, G.ky_i, G.ky_s]; done) | exact G.len_ok (by simp only [G.sl_nil, G.sl_cons]) | decide | decide +kernel | exact G.mulOk_l (by decide) | exact G.mulOk_r (by decide) | omega) only [G.rb_ok, G.rb_ex, G.rb_bad, G.rb_ite, G.lz, G.ls, G.sz, G.ss, G.r_seq, G.k_seq1, G.k_seq2, G.k_seq3, G.k_seq4, G.r_nx, G.r_bk, G.r_ct, G.r_retN, G.r_ret, G.k_ret, G.r_drop, G.k_drop, G.r_if, G.r_ife, G.k_if, G.r_asg, G.k_asg1, G.k_asg2, G.k_asg3, G.k_sl1, G.k_sl2, G.k_sh1, G.k_sh2, G.k_sh3, G.k_sh4, G.k_sh5, G.r_asgG, G.k_asgG, G.k_asgL, G.k_tg, G.r_nm, G.r_tup, G.r_tup1, G.r_tup3, G.r_tup4, G.r_nil, G.r_cons, G.r_V, G.k_V1, G.k_V2, G.k_V4, G.k_V3, G.r_C, G.p_val, G.p_fr, G.p_sl, G.pb_1, G.pb_2, G.pb_3, G.od_1, G.od_2, G.p_1, G.p_2, G.p_3, G.q_1, G.q_2, G.q_3, G.re_1, G.re_2, G.re_ite, G.st_1, G.st_2, G.st_3, G.r_op2, G.k_op2a, G.k_op2b, G.k_op2c, G.r_op1, G.k_op1, G.ob_some, G.r_said, G.k_said1, G.r_opN, G.k_opN, G.r_pk0, G.r_pk1, G.k_pk, G.r_anil, G.r_acons, G.k_acons, G.k_acons2, G.shs_v0, G.shs_v1, G.shs_v2, G.shs_v3, G.shs_v4, G.om_some, G.r_tupT, G.r_lstT, G.k_dt, G.k_dl, G.k_d1, G.k_d2, G.r_fB, G.k_fB, G.r_and, G.r_or, G.r_andV, G.r_orV, G.r_not, G.r_notV, G.k_not, G.k_notV, G.r_yes, G.r_ch, G.k_ch1, G.k_ch2, G.k_ch3, G.k_ch4, G.k_ch5, G.r_call, G.c1_nil, G.c1_t, G.c1_f, G.c1_s, G.c1_s1, G.c1_s2, G.k_ca, G.k_c1, G.k_c2, G.c2_nil, G.c2_v, G.c2_s, G.c2_s1, G.c2_s3, G.c2_s2, G.k_call, G.k_w1, G.k_w2, G.k_w3, G.k_wite, G.wb_nil, G.wb_none, G.wb_some, G.k_wb1, G.k_wb2, G.wbx_nil, G.wbx_none, G.ap_nil, G.ap_nil2, G.ap_cons, G.ma_nil, G.ma_cons, G.ds_nil, G.ds_none, G.ds_some, G.me_nil, G.me_none, G.me_some, G.ou_0, G.ou_s, G.ob_val, G.ob_own, G.ob_un, G.ob_exc, G.ob_prm, G.le_0, G.le_s, G.k_rf1, G.k_rf2, G.k_rf3, G.k_rf4, G.k_rs1, G.k_rs2, G.r_set, G.k_set1, G.k_set2, G.k_set3, G.k_set4, G.k_set5, G.k_set6, G.k_set7, G.k_set8, G.k_set9, G.r_mut, G.k_mu1, G.k_mu2, G.k_mu3, G.k_mu4, G.k_mu5, G.k_mu6, G.k_mu7, G.k_app, G.k_apps, G.r_par, G.k_par1, G.k_par2, G.k_par3, G.k_par4, G.k_par5, G.r_par3, G.k_p3a, G.k_p3b, G.r_parN, G.k_pn1, G.k_pn2, G.k_nx, G.ev_nil, G.ev_cons, G.k_ev1, G.k_ev2, G.rs_nil, G.rs_val, G.rs_fr, G.rs_sl, G.k_rsS1, G.k_rsS2, G.bn_nil, G.bn_val, G.bn_fr, G.r_rep, G.k_rp1, G.k_rp2, G.k_rp3, G.ixN_last, G.set_last, G.ix_last, G.r_for, G.k_for, G.fo_nil, G.fo_cons, G.k_fo0, G.k_fo1, G.k_fo2, G.k_fo3, G.k_fo4, G.r_turn, G.k_tu0, G.k_tu1, G.k_tu2, G.k_tu3, G.k_tu4, G.r_seqI, G.k_seqI, G.k_seqI1, G.k_seqI3, G.k_seqI5, G.k_seqI6, G.k_seqI4, G.k_seqI2, G.r_rng1, G.k_rng1, G.k_rng1b, G.r_rng2, G.k_rng2, G.k_rng2b, G.rgl_0, G.rgl_1, G.rgl_2, G.rgl_3, G.rgl_4, G.rgl_5, G.rgl_6, G.rgl_7, G.rgl_8, G.rgl_9, G.rgl_10, G.rgl_12, G.rgl_16, G.r1l_1, G.r1l_2, G.r1l_3, G.r1l_4, G.r1l_5, G.r1l_6, G.r1l_8, G.rpl_0, G.rpl_1, G.rpl_2, G.rpl_3, G.rpl_4, G.rpl_5, G.rpl_6, G.rpl_7, G.rpl_8, G.r_lc, G.k_lc, G.l_nil, G.l_cons, G.l_A, G.l_B, G.l_C, G.l_C2, G.l_C3, G.l_S1, G.l_S2, G.l_D, G.k_lc1, G.wi_nil, G.wi_cons, G.mulOk_l, G.mulOk_r, G.r_sl, G.k_sla, G.k_slb, G.k_slc, G.k_sld, G.pt_n, G.pt_s, G.k_pt, G.cu_t, G.cu_l, G.cu_1n, G.cu_2n, G.cu_n1, G.d_add, G.d_addT, G.d_addTs, G.d_addL, G.d_addLs, G.d_sub, G.d_mul, G.d_fdiv, G.d_mod, G.d_neg, G.d_cmp, G.d_ixT, G.d_ixL, G.at_0, G.at_1, G.at_2, G.at_3, G.d_lenL, G.d_lenT, G.d_tupL, G.d_tupT, G.d_all, G.k_all, G.d_any, G.k_any, G.bo_nil, G.bo_cons, G.al_nil, G.al_cons, G.al_map, G.an_nil, G.an_cons, G.an_map, G.id_b, G.bo_map, G.d_max, G.d_min, G.d_listL, G.d_listT, G.d_p18, G.d_p13, G.d_p12, G.d_is, G.d_abs, G.d_repr, G.d_eqS, G.d_neS, G.d_eqI, G.d_neI, G.d_isi, G.isy_int_none, G.isy_int_bool, G.isy_int_int, G.isy_int_str, G.isy_int_list, G.isy_int_tuple, G.isy_int_dict, G.isy_bool_none, G.isy_bool_bool, G.isy_bool_int, G.isy_bool_str, G.isy_bool_list, G.isy_bool_tuple, G.isy_bool_dict, G.isy_tuple_none, G.isy_tuple_bool, G.isy_tuple_int, G.isy_tuple_str, G.isy_tuple_list, G.isy_tuple_tuple, G.isy_tuple_dict, G.isy_list_none, G.isy_list_bool, G.isy_list_int, G.isy_list_str, G.isy_list_list, G.isy_list_tuple, G.isy_list_dict, G.isy_str_none, G.isy_str_bool, G.isy_str_int, G.isy_str_str, G.isy_str_list, G.isy_str_tuple, G.isy_str_dict, G.isy_dict_none, G.isy_dict_bool, G.isy_dict_int, G.isy_dict_str, G.isy_dict_list, G.isy_dict_tuple, G.isy_dict_dict, G.it_t, G.it_f, G.b_tt, G.b_ft, G.b_nt, G.b_nf, G.b_ta, G.b_fa, G.b_at, G.b_to, G.b_fo, G.lI_0, G.lI_1, G.lI_2, G.lI_3, G.lI_4, G.lI_5, G.lI_m, G.bs_f, G.es_f, G.bb_tt, G.bb_tf, G.bb_ft, G.bb_ff, G.bq_s, G.r_dic, G.k_dic1, G.k_dic2, G.k_dic3, G.k_dic4, G.k_kD1, G.k_kD2, G.k_fl0, G.k_fl1, G.k_pr0, G.k_pr1, G.k_pr2, G.r_dic0, G.d_ixDi, G.d_ixDs, G.d_inGT, G.d_inGL, G.d_ninGT, G.d_ninGL, G.d_inGi, G.d_ninGi, G.k_vals, G.k_items, G.d_setDi, G.dg_nil, G.dg_i, G.dg_s, G.mg_0, G.mg_s, G.dpk_n, G.ky_i, G.ky_s, G.d_eqX, G.d_neX, G.d_inT, G.d_inL, G.d_ninT, G.d_ninL, G.ev_ii, G.ev_bb, G.ev_ss, G.ev_nn, G.ev_tt, G.ev_ll, G.ev_0, G.ev_c, G.ev_c0, G.ev_0c, G.ev_none_bool, G.ev_none_int, G.ev_none_str, G.ev_none_list, G.ev_none_tuple, G.ev_bool_none, G.ev_bool_str, G.ev_bool_list, G.ev_bool_tuple, G.ev_int_none, G.ev_int_str, G.ev_int_list, G.ev_int_tuple, G.ev_str_none, G.ev_str_bool, G.ev_str_int, G.ev_str_list, G.ev_str_tuple, G.ev_list_none, G.ev_list_bool, G.ev_list_int, G.ev_list_str, G.ev_list_tuple, G.ev_tuple_none, G.ev_tuple_bool, G.ev_tuple_int, G.ev_tuple_str, G.ev_tuple_list, G.dec_t, G.not_dec, G.k_popA, G.k_popZ, G.k_pop1, G.r_ext, G.k_ext1, G.k_ext2, G.k_ext3, G.k_ext4, G.r_items, G.k_itemsJ, G.d_listD, G.d_intI, G.d_intB, G.d_strI, G.r_subG, G.k_sub1, G.k_sub2, G.k_sub3, G.k_sub4, G.k_sub5, G.k_sub6, G.k_sub7, G.r_tupL1, G.r_tupL2, G.r_tupL3, G.r_tupL4, G.d_isB, G.d_isnB, G.d_isnN, G.d_revL, G.d_revT, G.r_permA, G.k_perm1, G.k_perm2, G.k_perm3a, G.k_perm3b, G.k_perm3c, G.k_perm3d, G.k_perm3e, Int.reduceEq, Int.reduceLE, Int.reduceLT, Int.reduceAdd, Int.reduceSub, Int.reduceMul, Int.reduceNeg, Nat.reduceAdd, List.nil_append, not_true_eq_false, not_false_eq_true, and_true, true_and, and_false, false_and, or_true, true_or, or_false, false_or, decide_true, decide_false, eq_self, Bool.and_true, Bool.and_false, $ls,*])
  | `(tactic| simp? [$ls,*] at $h:ident) => `(tactic| simp (maxSteps := 1000000) (disch := first | assumption | (simp (disch := decide +kernel) only [G.sl_nil, G.sl_cons, List.cons_append, List.nil_append, G.shN_str, G.shN_tup, G.shN_lst, G.shN_int, G.shN_bool, G.shN_none, G.shA_nil, G.shA_cons, G.b_ta, G.ky_i, G.ky_s]; done) | exact G.len_ok (by simp only [G.sl_nil, G.sl_cons]) | decide | decide +kernel | exact G.mulOk_l (by decide) | exact G.mulOk_r (by decide) | omega) only [G.rb_ok, G.rb_ex, G.rb_bad, G.rb_ite, G.lz, G.ls, G.sz, G.ss, G.r_seq, G.k_seq1, G.k_seq2, G.k_seq3, G.k_seq4, G.r_nx, G.r_bk, G.r_ct, G.r_retN, G.r_ret, G.k_ret, G.r_drop, G.k_drop, G.r_if, G.r_ife, G.k_if, G.r_asg, G.k_asg1, G.k_asg2, G.k_asg3, G.k_sl1, G.k_sl2, G.k_sh1, G.k_sh2, G.k_sh3, G.k_sh4, G.k_sh5, G.r_asgG, G.k_asgG, G.k_asgL, G.k_tg, G.r_nm, G.r_tup, G.r_tup1, G.r_tup3, G.r_tup4, G.r_nil, G.r_cons, G.r_V, G.k_V1, G.k_V2, G.k_V4, G.k_V3, G.r_C, G.p_val, G.p_fr, G.p_sl, G.pb_1, G.pb_2, G.pb_3, G.od_1, G.od_2, G.p_1, G.p_2, G.p_3, G.q_1, G.q_2, G.q_3, G.re_1, G.re_2, G.re_ite, G.st_1, G.st_2, G.st_3, G.r_op2, G.k_op2a, G.k_op2b, G.k_op2c, G.r_op1, G.k_op1, G.ob_some, G.r_said, G.k_said1, G.r_opN, G.k_opN, G.r_pk0, G.r_pk1, G.k_pk, G.r_anil, G.r_acons, G.k_acons, G.k_acons2, G.shs_v0, G.shs_v1, G.shs_v2, G.shs_v3, G.shs_v4, G.om_some, G.r_tupT, G.r_lstT, G.k_dt, G.k_dl, G.k_d1, G.k_d2, G.r_fB, G.k_fB, G.r_and, G.r_or, G.r_andV, G.r_orV, G.r_not, G.r_notV, G.k_not, G.k_notV, G.r_yes, G.r_ch, G.k_ch1, G.k_ch2, G.k_ch3, G.k_ch4, G.k_ch5, G.r_call, G.c1_nil, G.c1_t, G.c1_f, G.c1_s, G.c1_s1, G.c1_s2, G.k_ca, G.k_c1, G.k_c2, G.c2_nil, G.c2_v, G.c2_s, G.c2_s1, G.c2_s3, G.c2_s2, G.k_call, G.k_w1, G.k_w2, G.k_w3, G.k_wite, G.wb_nil, G.wb_none, G.wb_some, G.k_wb1, G.k_wb2, G.wbx_nil, G.wbx_none, G.ap_nil, G.ap_nil2, G.ap_cons, G.ma_nil, G.ma_cons, G.ds_nil, G.ds_none, G.ds_some, G.me_nil, G.me_none, G.me_some, G.ou_0, G.ou_s, G.ob_val, G.ob_own, G.ob_un, G.ob_exc, G.ob_prm, G.le_0, G.le_s, G.k_rf1, G.k_rf2, G.k_rf3, G.k_rf4, G.k_rs1, G.k_rs2, G.r_set, G.k_set1, G.k_set2, G.k_set3, G.k_set4, G.k_set5, G.k_set6, G.k_set7, G.k_set8, G.k_set9, G.r_mut, G.k_mu1, G.k_mu2, G.k_mu3, G.k_mu4, G.k_mu5, G.k_mu6, G.k_mu7, G.k_app, G.k_apps, G.r_par, G.k_par1, G.k_par2, G.k_par3, G.k_par4, G.k_par5, G.r_par3, G.k_p3a, G.k_p3b, G.r_parN, G.k_pn1, G.k_pn2, G.k_nx, G.ev_nil, G.ev_cons, G.k_ev1, G.k_ev2, G.rs_nil, G.rs_val, G.rs_fr, G.rs_sl, G.k_rsS1, G.k_rsS2, G.bn_nil, G.bn_val, G.bn_fr, G.r_rep, G.k_rp1, G.k_rp2, G.k_rp3, G.ixN_last, G.set_last, G.ix_last, G.r_for, G.k_for, G.fo_nil, G.fo_cons, G.k_fo0, G.k_fo1, G.k_fo2, G.k_fo3, G.k_fo4, G.r_turn, G.k_tu0, G.k_tu1, G.k_tu2, G.k_tu3, G.k_tu4, G.r_seqI, G.k_seqI, G.k_seqI1, G.k_seqI3, G.k_seqI5, G.k_seqI6, G.k_seqI4, G.k_seqI2, G.r_rng1, G.k_rng1, G.k_rng1b, G.r_rng2, G.k_rng2, G.k_rng2b, G.rgl_0, G.rgl_1, G.rgl_2, G.rgl_3, G.rgl_4, G.rgl_5, G.rgl_6, G.rgl_7, G.rgl_8, G.rgl_9, G.rgl_10, G.rgl_12, G.rgl_16, G.r1l_1, G.r1l_2, G.r1l_3, G.r1l_4, G.r1l_5, G.r1l_6, G.r1l_8, G.rpl_0, G.rpl_1, G.rpl_2, G.rpl_3, G.rpl_4, G.rpl_5, G.rpl_6, G.rpl_7, G.rpl_8, G.r_lc, G.k_lc, G.l_nil, G.l_cons, G.l_A, G.l_B, G.l_C, G.l_C2, G.l_C3, G.l_S1, G.l_S2, G.l_D, G.k_lc1, G.wi_nil, G.wi_cons, G.mulOk_l, G.mulOk_r, G.r_sl, G.k_sla, G.k_slb, G.k_slc, G.k_sld, G.pt_n, G.pt_s, G.k_pt, G.cu_t, G.cu_l, G.cu_1n, G.cu_2n, G.cu_n1, G.d_add, G.d_addT, G.d_addTs, G.d_addL, G.d_addLs, G.d_sub, G.d_mul, G.d_fdiv, G.d_mod, G.d_neg, G.d_cmp, G.d_ixT, G.d_ixL, G.at_0, G.at_1, G.at_2, G.at_3, G.d_lenL, G.d_lenT, G.d_tupL, G.d_tupT, G.d_all, G.k_all, G.d_any, G.k_any, G.bo_nil, G.bo_cons, G.al_nil, G.al_cons, G.al_map, G.an_nil, G.an_cons, G.an_map, G.id_b, G.bo_map, G.d_max, G.d_min, G.d_listL, G.d_listT, G.d_p18, G.d_p13, G.d_p12, G.d_is, G.d_abs, G.d_repr, G.d_eqS, G.d_neS, G.d_eqI, G.d_neI, G.d_isi, G.isy_int_none, G.isy_int_bool, G.isy_int_int, G.isy_int_str, G.isy_int_list, G.isy_int_tuple, G.isy_int_dict, G.isy_bool_none, G.isy_bool_bool, G.isy_bool_int, G.isy_bool_str, G.isy_bool_list, G.isy_bool_tuple, G.isy_bool_dict, G.isy_tuple_none, G.isy_tuple_bool, G.isy_tuple_int, G.isy_tuple_str, G.isy_tuple_list, G.isy_tuple_tuple, G.isy_tuple_dict, G.isy_list_none, G.isy_list_bool, G.isy_list_int, G.isy_list_str, G.isy_list_list, G.isy_list_tuple, G.isy_list_dict, G.isy_str_none, G.isy_str_bool, G.isy_str_int, G.isy_str_str, G.isy_str_list, G.isy_str_tuple, G.isy_str_dict, G.isy_dict_none, G.isy_dict_bool, G.isy_dict_int, G.isy_dict_str, G.isy_dict_list, G.isy_dict_tuple, G.isy_dict_dict, G.it_t, G.it_f, G.b_tt, G.b_ft, G.b_nt, G.b_nf, G.b_ta, G.b_fa, G.b_at, G.b_to, G.b_fo, G.lI_0, G.lI_1, G.lI_2, G.lI_3, G.lI_4, G.lI_5, G.lI_m, G.bs_f, G.es_f, G.bb_tt, G.bb_tf, G.bb_ft, G.bb_ff, G.bq_s, G.r_dic, G.k_dic1, G.k_dic2, G.k_dic3, G.k_dic4, G.k_kD1, G.k_kD2, G.k_fl0, G.k_fl1, G.k_pr0, G.k_pr1, G.k_pr2, G.r_dic0, G.d_ixDi, G.d_ixDs, G.d_inGT, G.d_inGL, G.d_ninGT, G.d_ninGL, G.d_inGi, G.d_ninGi, G.k_vals, G.k_items, G.d_setDi, G.dg_nil, G.dg_i, G.dg_s, G.mg_0, G.mg_s, G.dpk_n, G.ky_i, G.ky_s, G.d_eqX, G.d_neX, G.d_inT, G.d_inL, G.d_ninT, G.d_ninL, G.ev_ii, G.ev_bb, G.ev_ss, G.ev_nn, G.ev_tt, G.ev_ll, G.ev_0, G.ev_c, G.ev_c0, G.ev_0c, G.ev_none_bool, G.ev_none_int, G.ev_none_str, G.ev_none_list, G.ev_none_tuple, G.ev_bool_none, G.ev_bool_str, G.ev_bool_list, G.ev_bool_tuple, G.ev_int_none, G.ev_int_str, G.ev_int_list, G.ev_int_tuple, G.ev_str_none, G.ev_str_bool, G.ev_str_int, G.ev_str_list, G.ev_str_tuple, G.ev_list_none, G.ev_list_bool, G.ev_list_int, G.ev_list_str, G.ev_list_tuple, G.ev_tuple_none, G.ev_tuple_bool, G.ev_tuple_int, G.ev_tuple_str, G.ev_tuple_list, G.dec_t, G.not_dec, G.k_popA, G.k_popZ, G.k_pop1, G.r_ext, G.k_ext1, G.k_ext2, G.k_ext3, G.k_ext4, G.r_items, G.k_itemsJ, G.d_listD, G.d_intI, G.d_intB, G.d_strI, G.r_subG, G.k_sub1, G.k_sub2, G.k_sub3, G.k_sub4, G.k_sub5, G.k_sub6, G.k_sub7, G.r_tupL1, G.r_tupL2, G.r_tupL3, G.r_tupL4, G.d_isB, G.d_isnB, G.d_isnN, G.d_revL, G.d_revT, G.r_permA, G.k_perm1, G.k_perm2, G.k_perm3a, G.k_perm3b, G.k_perm3c, G.k_perm3d, G.k_perm3e, Int.reduceEq, Int.reduceLE, Int.reduceLT, Int.reduceAdd, Int.reduceSub, Int.reduceMul, Int.reduceNeg, Nat.reduceAdd, List.nil_append, not_true_eq_false, not_false_eq_true, and_true, true_and, and_false, false_and, or_true, true_or, or_false, false_or, decide_true, decide_false, eq_self, Bool.and_true, Bool.and_false, $ls,*] at $h:ident)
end M
namespace M
open PySem PySem.Spec PyProof.Rows L2 G
local macro_rules
  | `(tactic| simp? [$ls,*]) => `(tactic| simp (maxSteps := 1000000) (disch := first | assumption | (simp (disch := decide +kernel) only [G.sl_nil, G.sl_cons, List.cons_append, List.nil_append, G.shN_str, G.shN_tup, G.shN_lst, G.shN_int, G.shN_bool, G.shN_none, G.shA_nil, G.shA_cons, G.b_ta, G.ky_i, G.ky_s]; done) | exact G.len_ok (by simp only [G.sl_nil, G.sl_cons]) | decide | decide +kernel | exact G.mulOk_l (by decide) | exact G.mulOk_r (by decide) | omega) only [G.rb_ok, G.rb_ex, G.rb_bad, G.rb_ite, G.lz, G.ls, G.sz, G.ss, G.r_seq, G.k_seq1, G.k_seq2, G.k_seq3, G.k_seq4, G.r_nx, G.r_bk, G.r_ct, G.r_retN, G.r_ret, G.k_ret, G.r_drop, G.k_drop, G.r_if, G.r_ife, G.k_if, G.r_asg, G.k_asg1, G.k_asg2, G.k_asg3, G.k_sl1, G.k_sl2, G.k_sh1, G.k_sh2, G.k_sh3, G.k_sh4, G.k_sh5, G.r_asgG, G.k_asgG, G.k_asgL, G.k_tg, G.r_nm, G.r_tup, G.r_tup1, G.r_tup3, G.r_tup4, G.r_nil, G.r_cons, G.r_V, G.k_V1, G.k_V2, G.k_V4, G.k_V3, G.r_C, G.p_val, G.p_fr, G.p_sl, G.pb_1, G.pb_2, G.pb_3, G.od_1, G.od_2, G.p_1, G.p_2, G.p_3, G.q_1, G.q_2, G.q_3, G.re_1, G.re_2, G.re_ite, G.st_1, G.st_2, G.st_3, G.r_op2, G.k_op2a, G.k_op2b, G.k_op2c, G.r_op1, G.k_op1, G.ob_some, G.r_said, G.k_said1, G.r_opN, G.k_opN, G.r_pk0, G.r_pk1, G.k_pk, G.r_anil, G.r_acons, G.k_acons, G.k_acons2, G.shs_v0, G.shs_v1, G.shs_v2, G.shs_v3, G.shs_v4, G.om_some, G.r_tupT, G.r_lstT, G.k_dt, G.k_dl, G.k_d1, G.k_d2, G.r_fB, G.k_fB, G.r_and, G.r_or, G.r_andV, G.r_orV, G.r_not, G.r_notV, G.k_not, G.k_notV, G.r_yes, G.r_ch, G.k_ch1, G.k_ch2, G.k_ch3, G.k_ch4, G.k_ch5, G.r_call, G.c1_nil, G.c1_t, G.c1_f, G.c1_s, G.c1_s1, G.c1_s2, G.k_ca, G.k_c1, G.k_c2, G.c2_nil, G.c2_v, G.c2_s, G.c2_s1, G.c2_s3, G.c2_s2, G.k_call, G.k_w1, G.k_w2, G.k_w3, G.k_wite, G.wb_nil, G.wb_none, G.wb_some, G.k_wb1, G.k_wb2, G.wbx_nil, G.wbx_none, G.ap_nil, G.ap_nil2, G.ap_cons, G.ma_nil, G.ma_cons, G.ds_nil, G.ds_none, G.ds_some, G.me_nil, G.me_none, G.me_some, G.ou_0, G.ou_s, G.ob_val, G.ob_own, G.ob_un, G.ob_exc, G.ob_prm, G.le_0, G.le_s, G.k_rf1, G.k_rf2, G.k_rf3, G.k_rf4, G.k_rs1, G.k_rs2, G.r_set, G.k_set1, G.k_set2, G.k_set3, G.k_set4, G.k_set5, G.k_set6, G.k_set7, G.k_set8, G.k_set9, G.r_mut, G.k_mu1, G.k_mu2, G.k_mu3, G.k_mu4, G.k_mu5, G.k_mu6, G.k_mu7, G.k_app, G.k_apps, G.r_par, G.k_par1, G.k_par2, G.k_par3, G.k_par4, G.k_par5, G.r_par3, G.k_p3a, G.k_p3b, G.r_parN, G.k_pn1, G.k_pn2, G.k_nx, G.ev_nil, G.ev_cons, G.k_ev1, G.k_ev2, G.rs_nil, G.rs_val, G.rs_fr, G.rs_sl, G.k_rsS1, G.k_rsS2, G.bn_nil, G.bn_val, G.bn_fr, G.r_rep, G.k_rp1, G.k_rp2, G.k_rp3, G.ixN_last, G.set_last, G.ix_last, G.r_for, G.k_for, G.fo_nil, G.fo_cons, G.k_fo0, G.k_fo1, G.k_fo2, G.k_fo3, G.k_fo4, G.r_turn, G.k_tu0, G.k_tu1, G.k_tu2, G.k_tu3, G.k_tu4, G.r_seqI, G.k_seqI, G.k_seqI1, G.k_seqI3, G.k_seqI5, G.k_seqI6, G.k_seqI4, G.k_seqI2, G.r_rng1, G.k_rng1, G.k_rng1b, G.r_rng2, G.k_rng2, G.k_rng2b, G.rgl_0, G.rgl_1, G.rgl_2, G.rgl_3, G.rgl_4, G.rgl_5, G.rgl_6, G.rgl_7, G.rgl_8, G.rgl_9, G.rgl_10, G.rgl_12, G.rgl_16, G.r1l_1, G.r1l_2, G.r1l_3, G.r1l_4, G.r1l_5, G.r1l_6, G.r1l_8, G.rpl_0, G.rpl_1, G.rpl_2, G.rpl_3, G.rpl_4, G.rpl_5, G.rpl_6, G.rpl_7, G.rpl_8, G.r_lc, G.k_lc, G.l_nil, G.l_cons, G.l_A, G.l_B, G.l_C, G.l_C2, G.l_C3, G.l_S1, G.l_S2, G.l_D, G.k_lc1, G.wi_nil, G.wi_cons, G.mulOk_l, G.mulOk_r, G.r_sl, G.k_sla, G.k_slb, G.k_slc, G.k_sld, G.pt_n, G.pt_s, G.k_pt, G.cu_t, G.cu_l, G.cu_1n, G.cu_2n, G.cu_n1, G.d_add, G.d_addT, G.d_addTs, G.d_addL, G.d_addLs, G.d_sub, G.d_mul, G.d_fdiv, G.d_mod, G.d_neg, G.d_cmp, G.d_ixT, G.d_ixL, G.at_0, G.at_1, G.at_2, G.at_3, G.d_lenL, G.d_lenT, G.d_tupL, G.d_tupT, G.d_all, G.k_all, G.d_any, G.k_any, G.bo_nil, G.bo_cons, G.al_nil, G.al_cons, G.al_map, G.an_nil, G.an_cons, G.an_map, G.id_b, G.bo_map, G.d_max, G.d_min, G.d_listL, G.d_listT, G.d_p18, G.d_p13, G.d_p12, G.d_is, G.d_abs, G.d_repr, G.d_eqS, G.d_neS, G.d_eqI, G.d_neI, G.d_isi, G.isy_int_none, G.isy_int_bool, G.isy_int_int, G.isy_int_str, G.isy_int_list, G.isy_int_tuple, G.isy_int_dict, G.isy_bool_none, G.isy_bool_bool, G.isy_bool_int, G.isy_bool_str, G.isy_bool_list, G.isy_bool_tuple, G.isy_bool_dict, G.isy_tuple_none, G.isy_tuple_bool, G.isy_tuple_int, G.isy_tuple_str, G.isy_tuple_list, G.isy_tuple_tuple, G.isy_tuple_dict, G.isy_list_none, G.isy_list_bool, G.isy_list_int, G.isy_list_str, G.isy_list_list, G.isy_list_tuple, G.isy_list_dict, G.isy_str_none, G.isy_str_bool, G.isy_str_int, G.isy_str_str, G.isy_str_list, G.isy_str_tuple, G.isy_str_dict, G.isy_dict_none, G.isy_dict_bool, G.isy_dict_int, G.isy_dict_str, G.isy_dict_list, G.isy_dict_tuple, G.isy_dict_dict, G.it_t, G.it_f, G.b_tt, G.b_ft, G.b_nt, G.b_nf, G.b_ta, G.b_fa, G.b_at, G.b_to, G.b_fo, G.lI_0, G.lI_1, G.lI_2, G.lI_3, G.lI_4, G.lI_5, G.lI_m, G.bs_f, G.es_f, G.bb_tt, G.bb_tf, G.bb_ft, G.bb_ff, G.bq_s, G.r_dic, G.k_dic1, G.k_dic2, G.k_dic3, G.k_dic4, G.k_kD1, G.k_kD2, G.k_fl0, G.k_fl1, G.k_pr0, G.k_pr1, G.k_pr2, G.r_dic0, G.d_ixDi, G.d_ixDs, G.d_inGT, G.d_inGL, G.d_ninGT, G.d_ninGL, G.d_inGi, G.d_ninGi, G.k_vals, G.k_items, G.d_setDi, G.dg_nil, G.dg_i, G.dg_s, G.mg_0, G.mg_s, G.dpk_n, G.ky_i, G.ky_s, G.d_eqX, G.d_neX, G.d_inT, G.d_inL, G.d_ninT, G.d_ninL, G.ev_ii, G.ev_bb, G.ev_ss, G.ev_nn, G.ev_tt, G.ev_ll, G.ev_0, G.ev_c, G.ev_c0, G.ev_0c, G.ev_none_bool, G.ev_none_int, G.ev_none_str, G.ev_none_list, G.ev_none_tuple, G.ev_bool_none, G.ev_bool_str, G.ev_bool_list, G.ev_bool_tuple, G.ev_int_none, G.ev_int_str, G.ev_int_list, G.ev_int_tuple, G.ev_str_none, G.ev_str_bool, G.ev_str_int, G.ev_str_list, G.ev_str_tuple, G.ev_list_none, G.ev_list_bool, G.ev_list_int, G.ev_list_str, G.ev_list_tuple, G.ev_tuple_none, G.ev_tuple_bool, G.ev_tuple_int, G.ev_tuple_str, G.ev_tuple_list, G.dec_t, G.not_dec, G.k_popA, G.k_popZ, G.k_pop1, G.r_ext, G.k_ext1, G.k_ext2, G.k_ext3, G.k_ext4, G.r_items, G.k_itemsJ, G.d_listD, G.d_intI, G.d_intB, G.d_strI, G.r_subG, G.k_sub1, G.k_sub2, G.k_sub3, G.k_sub4, G.k_sub5, G.k_sub6, G.k_sub7, G.r_tupL1, G.r_tupL2, G.r_tupL3, G.r_tupL4, G.d_isB, G.d_isnB, G.d_isnN, G.d_revL, G.d_revT, G.r_permA, G.k_perm1, G.k_perm2, G.k_perm3a, G.k_perm3b, G.k_perm3c, G.k_perm3d, G.k_perm3e, Int.reduceEq, Int.reduceLE, Int.reduceLT, Int.reduceAdd, Int.reduceSub, Int.reduceMul, Int.reduceNeg, Nat.reduceAdd, List.nil_append, not_true_eq_false, not_false_eq_true, and_true, true_and, and_false, false_and, or_true, true_or, or_false, false_or, decide_true, decide_false, eq_self, Bool.and_true, Bool.and_false, $ls,*])
  | `(tactic| simp? [$ls,*] at $h:ident) => `(tactic| simp (maxSteps := 1000000) (disch := first | assumption | (simp (disch := decide +kernel) only [G.sl_nil, G.sl_cons, List.cons_append, List.nil_append, G.shN_str, G.shN_tup, G.shN_lst, G.shN_int, G.shN_bool, G.shN_none, G.shA_nil, G.shA_cons, G.b_ta, G.ky_i, G.ky_s]; done) | exact G.len_ok (by simp only [G.sl_nil, G.sl_cons]) | decide | decide +kernel | exact G.mulOk_l (by decide) | exact G.mulOk_r (by decide) | omega) only [G.rb_ok, G.rb_ex, G.rb_bad, G.rb_ite, G.lz, G.ls, G.sz, G.ss, G.r_seq, G.k_seq1, G.k_seq2, G.k_seq3, G.k_seq4, G.r_nx, G.r_bk, G.r_ct, G.r_retN, G.r_ret, G.k_ret, G.r_drop, G.k_drop, G.r_if, G.r_ife, G.k_if, G.r_asg, G.k_asg1, G.k_asg2, G.k_asg3, G.k_sl1, G.k_sl2, G.k_sh1, G.k_sh2, G.k_sh3, G.k_sh4, G.k_sh5, G.r_asgG, G.k_asgG, G.k_asgL, G.k_tg, G.r_nm, G.r_tup, G.r_tup1, G.r_tup3, G.r_tup4, G.r_nil, G.r_cons, G.r_V, G.k_V1, G.k_V2, G.k_V4, G.k_V3, G.r_C, G.p_val, G.p_fr, G.p_sl, G.pb_1, G.pb_2, G.pb_3, G.od_1, G.od_2, G.p_1, G.p_2, G.p_3, G.q_1, G.q_2, G.q_3, G.re_1, G.re_2, G.re_ite, G.st_1, G.st_2, G.st_3, G.r_op2, G.k_op2a, G.k_op2b, G.k_op2c, G.r_op1, G.k_op1, G.ob_some, G.r_said, G.k_said1, G.r_opN, G.k_opN, G.r_pk0, G.r_pk1, G.k_pk, G.r_anil, G.r_acons, G.k_acons, G.k_acons2, G.shs_v0, G.shs_v1, G.shs_v2, G.shs_v3, G.shs_v4, G.om_some, G.r_tupT, G.r_lstT, G.k_dt, G.k_dl, G.k_d1, G.k_d2, G.r_fB, G.k_fB, G.r_and, G.r_or, G.r_andV, G.r_orV, G.r_not, G.r_notV, G.k_not, G.k_notV, G.r_yes, G.r_ch, G.k_ch1, G.k_ch2, G.k_ch3, G.k_ch4, G.k_ch5, G.r_call, G.c1_nil, G.c1_t, G.c1_f, G.c1_s, G.c1_s1, G.c1_s2, G.k_ca, G.k_c1, G.k_c2, G.c2_nil, G.c2_v, G.c2_s, G.c2_s1, G.c2_s3, G.c2_s2, G.k_call, G.k_w1, G.k_w2, G.k_w3, G.k_wite, G.wb_nil, G.wb_none, G.wb_some, G.k_wb1, G.k_wb2, G.wbx_nil, G.wbx_none, G.ap_nil, G.ap_nil2, G.ap_cons, G.ma_nil, G.ma_cons, G.ds_nil, G.ds_none, G.ds_some, G.me_nil, G.me_none, G.me_some, G.ou_0, G.ou_s, G.ob_val, G.ob_own, G.ob_un, G.ob_exc, G.ob_prm, G.le_0, G.le_s, G.k_rf1, G.k_rf2, G.k_rf3, G.k_rf4, G.k_rs1, G.k_rs2, G.r_set, G.k_set1, G.k_set2, G.k_set3, G.k_set4, G.k_set5, G.k_set6, G.k_set7, G.k_set8, G.k_set9, G.r_mut, G.k_mu1, G.k_mu2, G.k_mu3, G.k_mu4, G.k_mu5, G.k_mu6, G.k_mu7, G.k_app, G.k_apps, G.r_par, G.k_par1, G.k_par2, G.k_par3, G.k_par4, G.k_par5, G.r_par3, G.k_p3a, G.k_p3b, G.r_parN, G.k_pn1, G.k_pn2, G.k_nx, G.ev_nil, G.ev_cons, G.k_ev1, G.k_ev2, G.rs_nil, G.rs_val, G.rs_fr, G.rs_sl, G.k_rsS1, G.k_rsS2, G.bn_nil, G.bn_val, G.bn_fr, G.r_rep, G.k_rp1, G.k_rp2, G.k_rp3, G.ixN_last, G.set_last, G.ix_last, G.r_for, G.k_for, G.fo_nil, G.fo_cons, G.k_fo0, G.k_fo1, G.k_fo2, G.k_fo3, G.k_fo4, G.r_turn, G.k_tu0, G.k_tu1, G.k_tu2, G.k_tu3, G.k_tu4, G.r_seqI, G.k_seqI, G.k_seqI1, G.k_seqI3, G.k_seqI5, G.k_seqI6, G.k_seqI4, G.k_seqI2, G.r_rng1, G.k_rng1, G.k_rng1b, G.r_rng2, G.k_rng2, G.k_rng2b, G.rgl_0, G.rgl_1, G.rgl_2, G.rgl_3, G.rgl_4, G.rgl_5, G.rgl_6, G.rgl_7, G.rgl_8, G.rgl_9, G.rgl_10, G.rgl_12, G.rgl_16, G.r1l_1, G.r1l_2, G.r1l_3, G.r1l_4, G.r1l_5, G.r1l_6, G.r1l_8, G.rpl_0, G.rpl_1, G.rpl_2, G.rpl_3, G.rpl_4, G.rpl_5, G.rpl_6, G.rpl_7, G.rpl_8, G.r_lc, G.k_lc, G.l_nil, G.l_cons, G.l_A, G.l_B, G.l_C, G.l_C2, G.l_C3, G.l_S1, G.l_S2, G.l_D, G.k_lc1, G.wi_nil, G.wi_cons, G.mulOk_l, G.mulOk_r, G.r_sl, G.k_sla, G.k_slb, G.k_slc, G.k_sld, G.pt_n, G.pt_s, G.k_pt, G.cu_t, G.cu_l, G.cu_1n, G.cu_2n, G.cu_n1, G.d_add, G.d_addT, G.d_addTs, G.d_addL, G.d_addLs, G.d_sub, G.d_mul, G.d_fdiv, G.d_mod, G.d_neg, G.d_cmp, G.d_ixT, G.d_ixL, G.at_0, G.at_1, G.at_2, G.at_3, G.d_lenL, G.d_lenT, G.d_tupL, G.d_tupT, G.d_all, G.k_all, G.d_any, G.k_any, G.bo_nil, G.bo_cons, G.al_nil, G.al_cons, G.al_map, G.an_nil, G.an_cons, G.an_map, G.id_b, G.bo_map, G.d_max, G.d_min, G.d_listL, G.d_listT, G.d_p18, G.d_p13, G.d_p12, G.d_is, G.d_abs, G.d_repr, G.d_eqS, G.d_neS, G.d_eqI, G.d_neI, G.d_isi, G.isy_int_none, G.isy_int_bool, G.isy_int_int, G.isy_int_str, G.isy_int_list, G.isy_int_tuple, G.isy_int_dict, G.isy_bool_none, G.isy_bool_bool, G.isy_bool_int, G.isy_bool_str, G.isy_bool_list, G.isy_bool_tuple, G.isy_bool_dict, G.isy_tuple_none, G.isy_tuple_bool, G.isy_tuple_int, G.isy_tuple_str, G.isy_tuple_list, G.isy_tuple_tuple, G.isy_tuple_dict, G.isy_list_none, G.isy_list_bool, G.isy_list_int, G.isy_list_str, G.isy_list_list, G.isy_list_tuple, G.isy_list_dict, G.isy_str_none, G.isy_str_bool, G.isy_str_int, G.isy_str_str, G.isy_str_list, G.isy_str_tuple, G.isy_str_dict, G.isy_dict_none, G.isy_dict_bool, G.isy_dict_int, G.isy_dict_str, G.isy_dict_list, G.isy_dict_tuple, G.isy_dict_dict, G.it_t, G.it_f, G.b_tt, G.b_ft, G.b_nt, G.b_nf, G.b_ta, G.b_fa, G.b_at, G.b_to, G.b_fo, G.lI_0, G.lI_1, G.lI_2, G.lI_3, G.lI_4, G.lI_5, G.lI_m, G.bs_f, G.es_f, G.bb_tt, G.bb_tf, G.bb_ft, G.bb_ff, G.bq_s, G.r_dic, G.k_dic1, G.k_dic2, G.k_dic3, G.k_dic4, G.k_kD1, G.k_kD2, G.k_fl0, G.k_fl1, G.k_pr0, G.k_pr1, G.k_pr2, G.r_dic0, G.d_ixDi, G.d_ixDs, G.d_inGT, G.d_inGL, G.d_ninGT, G.d_ninGL, G.d_inGi, G.d_ninGi, G.k_vals, G.k_items, G.d_setDi, G.dg_nil, G.dg_i, G.dg_s, G.mg_0, G.mg_s, G.dpk_n, G.ky_i, G.ky_s, G.d_eqX, G.d_neX, G.d_inT, G.d_inL, G.d_ninT, G.d_ninL, G.ev_ii, G.ev_bb, G.ev_ss, G.ev_nn, G.ev_tt, G.ev_ll, G.ev_0, G.ev_c, G.ev_c0, G.ev_0c, G.ev_none_bool, G.ev_none_int, G.ev_none_str, G.ev_none_list, G.ev_none_tuple, G.ev_bool_none, G.ev_bool_str, G.ev_bool_list, G.ev_bool_tuple, G.ev_int_none, G.ev_int_str, G.ev_int_list, G.ev_int_tuple, G.ev_str_none, G.ev_str_bool, G.ev_str_int, G.ev_str_list, G.ev_str_tuple, G.ev_list_none, G.ev_list_bool, G.ev_list_int, G.ev_list_str, G.ev_list_tuple, G.ev_tuple_none, G.ev_tuple_bool, G.ev_tuple_int, G.ev_tuple_str, G.ev_tuple_list, G.dec_t, G.not_dec, G.k_popA, G.k_popZ, G.k_pop1, G.r_ext, G.k_ext1, G.k_ext2, G.k_ext3, G.k_ext4, G.r_items, G.k_itemsJ, G.d_listD, G.d_intI, G.d_intB, G.d_strI, G.r_subG, G.k_sub1, G.k_sub2, G.k_sub3, G.k_sub4, G.k_sub5, G.k_sub6, G.k_sub7, G.r_tupL1, G.r_tupL2, G.r_tupL3, G.r_tupL4, G.d_isB, G.d_isnB, G.d_isnN, G.d_revL, G.d_revT, G.r_permA, G.k_perm1, G.k_perm2, G.k_perm3a, G.k_perm3b, G.k_perm3c, G.k_perm3d, G.k_perm3e, Int.reduceEq, Int.reduceLE, Int.reduceLT, Int.reduceAdd, Int.reduceSub, Int.reduceMul, Int.reduceNeg, Nat.reduceAdd, List.nil_append, not_true_eq_false, not_false_eq_true, and_true, true_and, and_false, false_and, or_true, true_or, or_false, false_or, decide_true, decide_false, eq_self, Bool.and_true, Bool.and_false, $ls,*] at $h:ident)
/-! ### descriptions shown, compared -/
theorem rep_intS {i : Int} (h : Sm i) : PyData.showable (.int i) = true := by
  unfold PyData.showable
  exact decide_eq_true (Nat.lt_trans (log2_bd (by decide) h) (by decide))
theorem RP.intS {i : Int} (h : Sm i) : RP 0 1921 (.int i) := ⟨rep_intS h, by simp [PyData.depth], by simp [szD]⟩
theorem RP.sqS {x y : Int} (hx : Sm x) (hy : Sm y) : RP 1 6000 (SQ x y) := (RP.tup (mem2 (RP.intS hx) (RP.intS hy))).mono (by decide) (by simp)
theorem RP.bs {A : Bs} (h : A.Sm) : RP 2 20000 A.d := by
  rw [Bs.d_vs]
  refine (RP.tup (n := 1) (z := 6000) fun x hx => ?_).mono (by decide) ?_
  · obtain ⟨z, hz, rfl⟩ := List.mem_map.mp hx
    exact RP.sqS (h z hz).1 (h z hz).2
  · rw [List.length_map]
    have : A.vs.length ≤ 2 := by cases A <;> simp [Bs.vs]
    have := Nat.mul_le_mul_right 6002 this
    omega
theorem SB.of_k {ts : List Sym} (h : KSort ts) : (ts.map Sym.k).Nodup := by
  rw [List.Nodup, List.pairwise_map]
  exact h.imp fun {p q} hlt e => by rw [e] at hlt; omega
theorem KSort.len {ts : List Sym} (h : KSort ts) : ts.length ≤ 8 := kinds_len (SB.of_k h)
theorem Sym.Far.le {far : Int} {s : Sym} (h : s.Far far) : s.le far.natAbs := h
/-! ### describe, contains -/
theorem Ds.has_iff {D : Ds} (h : D.ok) (s : Sym) : D.has s ↔ D.b.reds s ∈ D.ms := by
  constructor
  · rintro ⟨t, ht, hk, hh⟩
    have e : D.b.red (s.x, s.y) = (t.x, t.y) := by
      rw [← Bs.red_of_rd h.b (h.rd t ht)]
      exact (Bs.red_iff h.b (s.x, s.y) (t.x, t.y)).mpr hh
    have : D.b.reds s = t := by
      unfold Bs.reds
      rw [e]
      exact Sym.ext' hk.symm rfl rfl
    rw [this]; exact ht
  · intro h2
    exact ⟨_, h2, rfl, Bs.red_has (B := D.b) (s.x, s.y)⟩
end M
namespace M
open PySem PySem.Spec PyProof.Rows L2 G
local macro_rules
  | `(tactic| simp? [$ls,*]) => `(tactic| simp (maxSteps := 1000000) (disch := first | assumption | (simp (disch := decide +kernel) only [G.sl_nil, G.sl_cons, List.cons_append, List.nil_append, G.shN_str, G.shN_tup, G.shN_lst, G.shN_int, G.shN_bool, G.shN_none, G.shA_nil, G.shA_cons, G.b_ta, G.ky_i, G.ky_s]; done) | exact G.len_ok (by simp only [G.sl_nil, G.sl_cons]) | decide | decide +kernel | exact G.mulOk_l (by decide) | exact G.mulOk_r (by decide) | omega) only [G.rb_ok, G.rb_ex, G.rb_bad, G.rb_ite, G.lz, G.ls, G.sz, G.ss, G.r_seq, G.k_seq1, G.k_seq2, G.k_seq3, G.k_seq4, G.r_nx, G.r_bk, G.r_ct, G.r_retN, G.r_ret, G.k_ret, G.r_drop, G.k_drop, G.r_if, G.r_ife, G.k_if, G.r_asg, G.k_asg1, G.k_asg2, G.k_asg3, G.k_sl1, G.k_sl2, G.k_sh1, G.k_sh2, G.k_sh3, G.k_sh4, G.k_sh5, G.r_asgG, G.k_asgG, G.k_asgL, G.k_tg, G.r_nm, G.r_tup, G.r_tup1, G.r_tup3, G.r_tup4, G.r_nil, G.r_cons, G.r_V, G.k_V1, G.k_V2, G.k_V4, G.k_V3, G.r_C, G.p_val, G.p_fr, G.p_sl, G.pb_1, G.pb_2, G.pb_3, G.od_1, G.od_2, G.p_1, G.p_2, G.p_3, G.q_1, G.q_2, G.q_3, G.re_1, G.re_2, G.re_ite, G.st_1, G.st_2, G.st_3, G.r_op2, G.k_op2a, G.k_op2b, G.k_op2c, G.r_op1, G.k_op1, G.ob_some, G.r_said, G.k_said1, G.r_opN, G.k_opN, G.r_pk0, G.r_pk1, G.k_pk, G.r_anil, G.r_acons, G.k_acons, G.k_acons2, G.shs_v0, G.shs_v1, G.shs_v2, G.shs_v3, G.shs_v4, G.om_some, G.r_tupT, G.r_lstT, G.k_dt, G.k_dl, G.k_d1, G.k_d2, G.r_fB, G.k_fB, G.r_and, G.r_or, G.r_andV, G.r_orV, G.r_not, G.r_notV, G.k_not, G.k_notV, G.r_yes, G.r_ch, G.k_ch1, G.k_ch2, G.k_ch3, G.k_ch4, G.k_ch5, G.r_call, G.c1_nil, G.c1_t, G.c1_f, G.c1_s, G.c1_s1, G.c1_s2, G.k_ca, G.k_c1, G.k_c2, G.c2_nil, G.c2_v, G.c2_s, G.c2_s1, G.c2_s3, G.c2_s2, G.k_call, G.k_w1, G.k_w2, G.k_w3, G.k_wite, G.wb_nil, G.wb_none, G.wb_some, G.k_wb1, G.k_wb2, G.wbx_nil, G.wbx_none, G.ap_nil, G.ap_nil2, G.ap_cons, G.ma_nil, G.ma_cons, G.ds_nil, G.ds_none, G.ds_some, G.me_nil, G.me_none, G.me_some, G.ou_0, G.ou_s, G.ob_val, G.ob_own, G.ob_un, G.ob_exc, G.ob_prm, G.le_0, G.le_s, G.k_rf1, G.k_rf2, G.k_rf3, G.k_rf4, G.k_rs1, G.k_rs2, G.r_set, G.k_set1, G.k_set2, G.k_set3, G.k_set4, G.k_set5, G.k_set6, G.k_set7, G.k_set8, G.k_set9, G.r_mut, G.k_mu1, G.k_mu2, G.k_mu3, G.k_mu4, G.k_mu5, G.k_mu6, G.k_mu7, G.k_app, G.k_apps, G.r_par, G.k_par1, G.k_par2, G.k_par3, G.k_par4, G.k_par5, G.r_par3, G.k_p3a, G.k_p3b, G.r_parN, G.k_pn1, G.k_pn2, G.k_nx, G.ev_nil, G.ev_cons, G.k_ev1, G.k_ev2, G.rs_nil, G.rs_val, G.rs_fr, G.rs_sl, G.k_rsS1, G.k_rsS2, G.bn_nil, G.bn_val, G.bn_fr, G.r_rep, G.k_rp1, G.k_rp2, G.k_rp3, G.ixN_last, G.set_last, G.ix_last, G.r_for, G.k_for, G.fo_nil, G.fo_cons, G.k_fo0, G.k_fo1, G.k_fo2, G.k_fo3, G.k_fo4, G.r_turn, G.k_tu0, G.k_tu1, G.k_tu2, G.k_tu3, G.k_tu4, G.r_seqI, G.k_seqI, G.k_seqI1, G.k_seqI3, G.k_seqI5, G.k_seqI6, G.k_seqI4, G.k_seqI2, G.r_rng1, G.k_rng1, G.k_rng1b, G.r_rng2, G.k_rng2, G.k_rng2b, G.rgl_0, G.rgl_1, G.rgl_2, G.rgl_3, G.rgl_4, G.rgl_5, G.rgl_6, G.rgl_7, G.rgl_8, G.rgl_9, G.rgl_10, G.rgl_12, G.rgl_16, G.r1l_1, G.r1l_2, G.r1l_3, G.r1l_4, G.r1l_5, G.r1l_6, G.r1l_8, G.rpl_0, G.rpl_1, G.rpl_2, G.rpl_3, G.rpl_4, G.rpl_5, G.rpl_6, G.rpl_7, G.rpl_8, G.r_lc, G.k_lc, G.l_nil, G.l_cons, G.l_A, G.l_B, G.l_C, G.l_C2, G.l_C3, G.l_S1, G.l_S2, G.l_D, G.k_lc1, G.wi_nil, G.wi_cons, G.mulOk_l, G.mulOk_r, G.r_sl, G.k_sla, G.k_slb, G.k_slc, G.k_sld, G.pt_n, G.pt_s, G.k_pt, G.cu_t, G.cu_l, G.cu_1n, G.cu_2n, G.cu_n1, G.d_add, G.d_addT, G.d_addTs, G.d_addL, G.d_addLs, G.d_sub, G.d_mul, G.d_fdiv, G.d_mod, G.d_neg, G.d_cmp, G.d_ixT, G.d_ixL, G.at_0, G.at_1, G.at_2, G.at_3, G.d_lenL, G.d_lenT, G.d_tupL, G.d_tupT, G.d_all, G.k_all, G.d_any, G.k_any, G.bo_nil, G.bo_cons, G.al_nil, G.al_cons, G.al_map, G.an_nil, G.an_cons, G.an_map, G.id_b, G.bo_map, G.d_max, G.d_min, G.d_listL, G.d_listT, G.d_p18, G.d_p13, G.d_p12, G.d_is, G.d_abs, G.d_repr, G.d_eqS, G.d_neS, G.d_eqI, G.d_neI, G.d_isi, G.isy_int_none, G.isy_int_bool, G.isy_int_int, G.isy_int_str, G.isy_int_list, G.isy_int_tuple, G.isy_int_dict, G.isy_bool_none, G.isy_bool_bool, G.isy_bool_int, G.isy_bool_str, G.isy_bool_list, G.isy_bool_tuple, G.isy_bool_dict, G.isy_tuple_none, G.isy_tuple_bool, G.isy_tuple_int, G.isy_tuple_str, G.isy_tuple_list, G.isy_tuple_tuple, G.isy_tuple_dict, G.isy_list_none, G.isy_list_bool, G.isy_list_int, G.isy_list_str, G.isy_list_list, G.isy_list_tuple, G.isy_list_dict, G.isy_str_none, G.isy_str_bool, G.isy_str_int, G.isy_str_str, G.isy_str_list, G.isy_str_tuple, G.isy_str_dict, G.isy_dict_none, G.isy_dict_bool, G.isy_dict_int, G.isy_dict_str, G.isy_dict_list, G.isy_dict_tuple, G.isy_dict_dict, G.it_t, G.it_f, G.b_tt, G.b_ft, G.b_nt, G.b_nf, G.b_ta, G.b_fa, G.b_at, G.b_to, G.b_fo, G.lI_0, G.lI_1, G.lI_2, G.lI_3, G.lI_4, G.lI_5, G.lI_m, G.bs_f, G.es_f, G.bb_tt, G.bb_tf, G.bb_ft, G.bb_ff, G.bq_s, G.r_dic, G.k_dic1, G.k_dic2, G.k_dic3, G.k_dic4, G.k_kD1, G.k_kD2, G.k_fl0, G.k_fl1, G.k_pr0, G.k_pr1, G.k_pr2, G.r_dic0, G.d_ixDi, G.d_ixDs, G.d_inGT, G.d_inGL, G.d_ninGT, G.d_ninGL, G.d_inGi, G.d_ninGi, G.k_vals, G.k_items, G.d_setDi, G.dg_nil, G.dg_i, G.dg_s, G.mg_0, G.mg_s, G.dpk_n, G.ky_i, G.ky_s, G.d_eqX, G.d_neX, G.d_inT, G.d_inL, G.d_ninT, G.d_ninL, G.ev_ii, G.ev_bb, G.ev_ss, G.ev_nn, G.ev_tt, G.ev_ll, G.ev_0, G.ev_c, G.ev_c0, G.ev_0c, G.ev_none_bool, G.ev_none_int, G.ev_none_str, G.ev_none_list, G.ev_none_tuple, G.ev_bool_none, G.ev_bool_str, G.ev_bool_list, G.ev_bool_tuple, G.ev_int_none, G.ev_int_str, G.ev_int_list, G.ev_int_tuple, G.ev_str_none, G.ev_str_bool, G.ev_str_int, G.ev_str_list, G.ev_str_tuple, G.ev_list_none, G.ev_list_bool, G.ev_list_int, G.ev_list_str, G.ev_list_tuple, G.ev_tuple_none, G.ev_tuple_bool, G.ev_tuple_int, G.ev_tuple_str, G.ev_tuple_list, G.dec_t, G.not_dec, G.k_popA, G.k_popZ, G.k_pop1, G.r_ext, G.k_ext1, G.k_ext2, G.k_ext3, G.k_ext4, G.r_items, G.k_itemsJ, G.d_listD, G.d_intI, G.d_intB, G.d_strI, G.r_subG, G.k_sub1, G.k_sub2, G.k_sub3, G.k_sub4, G.k_sub5, G.k_sub6, G.k_sub7, G.r_tupL1, G.r_tupL2, G.r_tupL3, G.r_tupL4, G.d_isB, G.d_isnB, G.d_isnN, G.d_revL, G.d_revT, G.r_permA, G.k_perm1, G.k_perm2, G.k_perm3a, G.k_perm3b, G.k_perm3c, G.k_perm3d, G.k_perm3e, Int.reduceEq, Int.reduceLE, Int.reduceLT, Int.reduceAdd, Int.reduceSub, Int.reduceMul, Int.reduceNeg, Nat.reduceAdd, List.nil_append, not_true_eq_false, not_false_eq_true, and_true, true_and, and_false, false_and, or_true, true_or, or_false, false_or, decide_true, decide_false, eq_self, Bool.and_true, Bool.and_false, $ls,*])
  | `(tactic| simp? [$ls,*] at $h:ident) => `(tactic| simp (maxSteps := 1000000) (disch := first | assumption | (simp (disch := decide +kernel) only [G.sl_nil, G.sl_cons, List.cons_append, List.nil_append, G.shN_str, G.shN_tup, G.shN_lst, G.shN_int, G.shN_bool, G.shN_none, G.shA_nil, G.shA_cons, G.b_ta, G.ky_i, G.ky_s]; done) | exact G.len_ok (by simp only [G.sl_nil, G.sl_cons]) | decide | decide +kernel | exact G.mulOk_l (by decide) | exact G.mulOk_r (by decide) | omega) only [G.rb_ok, G.rb_ex, G.rb_bad, G.rb_ite, G.lz, G.ls, G.sz, G.ss, G.r_seq, G.k_seq1, G.k_seq2, G.k_seq3, G.k_seq4, G.r_nx, G.r_bk, G.r_ct, G.r_retN, G.r_ret, G.k_ret, G.r_drop, G.k_drop, G.r_if, G.r_ife, G.k_if, G.r_asg, G.k_asg1, G.k_asg2, G.k_asg3, G.k_sl1, G.k_sl2, G.k_sh1, G.k_sh2, G.k_sh3, G.k_sh4, G.k_sh5, G.r_asgG, G.k_asgG, G.k_asgL, G.k_tg, G.r_nm, G.r_tup, G.r_tup1, G.r_tup3, G.r_tup4, G.r_nil, G.r_cons, G.r_V, G.k_V1, G.k_V2, G.k_V4, G.k_V3, G.r_C, G.p_val, G.p_fr, G.p_sl, G.pb_1, G.pb_2, G.pb_3, G.od_1, G.od_2, G.p_1, G.p_2, G.p_3, G.q_1, G.q_2, G.q_3, G.re_1, G.re_2, G.re_ite, G.st_1, G.st_2, G.st_3, G.r_op2, G.k_op2a, G.k_op2b, G.k_op2c, G.r_op1, G.k_op1, G.ob_some, G.r_said, G.k_said1, G.r_opN, G.k_opN, G.r_pk0, G.r_pk1, G.k_pk, G.r_anil, G.r_acons, G.k_acons, G.k_acons2, G.shs_v0, G.shs_v1, G.shs_v2, G.shs_v3, G.shs_v4, G.om_some, G.r_tupT, G.r_lstT, G.k_dt, G.k_dl, G.k_d1, G.k_d2, G.r_fB, G.k_fB, G.r_and, G.r_or, G.r_andV, G.r_orV, G.r_not, G.r_notV, G.k_not, G.k_notV, G.r_yes, G.r_ch, G.k_ch1, G.k_ch2, G.k_ch3, G.k_ch4, G.k_ch5, G.r_call, G.c1_nil, G.c1_t, G.c1_f, G.c1_s, G.c1_s1, G.c1_s2, G.k_ca, G.k_c1, G.k_c2, G.c2_nil, G.c2_v, G.c2_s, G.c2_s1, G.c2_s3, G.c2_s2, G.k_call, G.k_w1, G.k_w2, G.k_w3, G.k_wite, G.wb_nil, G.wb_none, G.wb_some, G.k_wb1, G.k_wb2, G.wbx_nil, G.wbx_none, G.ap_nil, G.ap_nil2, G.ap_cons, G.ma_nil, G.ma_cons, G.ds_nil, G.ds_none, G.ds_some, G.me_nil, G.me_none, G.me_some, G.ou_0, G.ou_s, G.ob_val, G.ob_own, G.ob_un, G.ob_exc, G.ob_prm, G.le_0, G.le_s, G.k_rf1, G.k_rf2, G.k_rf3, G.k_rf4, G.k_rs1, G.k_rs2, G.r_set, G.k_set1, G.k_set2, G.k_set3, G.k_set4, G.k_set5, G.k_set6, G.k_set7, G.k_set8, G.k_set9, G.r_mut, G.k_mu1, G.k_mu2, G.k_mu3, G.k_mu4, G.k_mu5, G.k_mu6, G.k_mu7, G.k_app, G.k_apps, G.r_par, G.k_par1, G.k_par2, G.k_par3, G.k_par4, G.k_par5, G.r_par3, G.k_p3a, G.k_p3b, G.r_parN, G.k_pn1, G.k_pn2, G.k_nx, G.ev_nil, G.ev_cons, G.k_ev1, G.k_ev2, G.rs_nil, G.rs_val, G.rs_fr, G.rs_sl, G.k_rsS1, G.k_rsS2, G.bn_nil, G.bn_val, G.bn_fr, G.r_rep, G.k_rp1, G.k_rp2, G.k_rp3, G.ixN_last, G.set_last, G.ix_last, G.r_for, G.k_for, G.fo_nil, G.fo_cons, G.k_fo0, G.k_fo1, G.k_fo2, G.k_fo3, G.k_fo4, G.r_turn, G.k_tu0, G.k_tu1, G.k_tu2, G.k_tu3, G.k_tu4, G.r_seqI, G.k_seqI, G.k_seqI1, G.k_seqI3, G.k_seqI5, G.k_seqI6, G.k_seqI4, G.k_seqI2, G.r_rng1, G.k_rng1, G.k_rng1b, G.r_rng2, G.k_rng2, G.k_rng2b, G.rgl_0, G.rgl_1, G.rgl_2, G.rgl_3, G.rgl_4, G.rgl_5, G.rgl_6, G.rgl_7, G.rgl_8, G.rgl_9, G.rgl_10, G.rgl_12, G.rgl_16, G.r1l_1, G.r1l_2, G.r1l_3, G.r1l_4, G.r1l_5, G.r1l_6, G.r1l_8, G.rpl_0, G.rpl_1, G.rpl_2, G.rpl_3, G.rpl_4, G.rpl_5, G.rpl_6, G.rpl_7, G.rpl_8, G.r_lc, G.k_lc, G.l_nil, G.l_cons, G.l_A, G.l_B, G.l_C, G.l_C2, G.l_C3, G.l_S1, G.l_S2, G.l_D, G.k_lc1, G.wi_nil, G.wi_cons, G.mulOk_l, G.mulOk_r, G.r_sl, G.k_sla, G.k_slb, G.k_slc, G.k_sld, G.pt_n, G.pt_s, G.k_pt, G.cu_t, G.cu_l, G.cu_1n, G.cu_2n, G.cu_n1, G.d_add, G.d_addT, G.d_addTs, G.d_addL, G.d_addLs, G.d_sub, G.d_mul, G.d_fdiv, G.d_mod, G.d_neg, G.d_cmp, G.d_ixT, G.d_ixL, G.at_0, G.at_1, G.at_2, G.at_3, G.d_lenL, G.d_lenT, G.d_tupL, G.d_tupT, G.d_all, G.k_all, G.d_any, G.k_any, G.bo_nil, G.bo_cons, G.al_nil, G.al_cons, G.al_map, G.an_nil, G.an_cons, G.an_map, G.id_b, G.bo_map, G.d_max, G.d_min, G.d_listL, G.d_listT, G.d_p18, G.d_p13, G.d_p12, G.d_is, G.d_abs, G.d_repr, G.d_eqS, G.d_neS, G.d_eqI, G.d_neI, G.d_isi, G.isy_int_none, G.isy_int_bool, G.isy_int_int, G.isy_int_str, G.isy_int_list, G.isy_int_tuple, G.isy_int_dict, G.isy_bool_none, G.isy_bool_bool, G.isy_bool_int, G.isy_bool_str, G.isy_bool_list, G.isy_bool_tuple, G.isy_bool_dict, G.isy_tuple_none, G.isy_tuple_bool, G.isy_tuple_int, G.isy_tuple_str, G.isy_tuple_list, G.isy_tuple_tuple, G.isy_tuple_dict, G.isy_list_none, G.isy_list_bool, G.isy_list_int, G.isy_list_str, G.isy_list_list, G.isy_list_tuple, G.isy_list_dict, G.isy_str_none, G.isy_str_bool, G.isy_str_int, G.isy_str_str, G.isy_str_list, G.isy_str_tuple, G.isy_str_dict, G.isy_dict_none, G.isy_dict_bool, G.isy_dict_int, G.isy_dict_str, G.isy_dict_list, G.isy_dict_tuple, G.isy_dict_dict, G.it_t, G.it_f, G.b_tt, G.b_ft, G.b_nt, G.b_nf, G.b_ta, G.b_fa, G.b_at, G.b_to, G.b_fo, G.lI_0, G.lI_1, G.lI_2, G.lI_3, G.lI_4, G.lI_5, G.lI_m, G.bs_f, G.es_f, G.bb_tt, G.bb_tf, G.bb_ft, G.bb_ff, G.bq_s, G.r_dic, G.k_dic1, G.k_dic2, G.k_dic3, G.k_dic4, G.k_kD1, G.k_kD2, G.k_fl0, G.k_fl1, G.k_pr0, G.k_pr1, G.k_pr2, G.r_dic0, G.d_ixDi, G.d_ixDs, G.d_inGT, G.d_inGL, G.d_ninGT, G.d_ninGL, G.d_inGi, G.d_ninGi, G.k_vals, G.k_items, G.d_setDi, G.dg_nil, G.dg_i, G.dg_s, G.mg_0, G.mg_s, G.dpk_n, G.ky_i, G.ky_s, G.d_eqX, G.d_neX, G.d_inT, G.d_inL, G.d_ninT, G.d_ninL, G.ev_ii, G.ev_bb, G.ev_ss, G.ev_nn, G.ev_tt, G.ev_ll, G.ev_0, G.ev_c, G.ev_c0, G.ev_0c, G.ev_none_bool, G.ev_none_int, G.ev_none_str, G.ev_none_list, G.ev_none_tuple, G.ev_bool_none, G.ev_bool_str, G.ev_bool_list, G.ev_bool_tuple, G.ev_int_none, G.ev_int_str, G.ev_int_list, G.ev_int_tuple, G.ev_str_none, G.ev_str_bool, G.ev_str_int, G.ev_str_list, G.ev_str_tuple, G.ev_list_none, G.ev_list_bool, G.ev_list_int, G.ev_list_str, G.ev_list_tuple, G.ev_tuple_none, G.ev_tuple_bool, G.ev_tuple_int, G.ev_tuple_str, G.ev_tuple_list, G.dec_t, G.not_dec, G.k_popA, G.k_popZ, G.k_pop1, G.r_ext, G.k_ext1, G.k_ext2, G.k_ext3, G.k_ext4, G.r_items, G.k_itemsJ, G.d_listD, G.d_intI, G.d_intB, G.d_strI, G.r_subG, G.k_sub1, G.k_sub2, G.k_sub3, G.k_sub4, G.k_sub5, G.k_sub6, G.k_sub7, G.r_tupL1, G.r_tupL2, G.r_tupL3, G.r_tupL4, G.d_isB, G.d_isnB, G.d_isnN, G.d_revL, G.d_revT, G.r_permA, G.k_perm1, G.k_perm2, G.k_perm3a, G.k_perm3b, G.k_perm3c, G.k_perm3d, G.k_perm3e, Int.reduceEq, Int.reduceLE, Int.reduceLT, Int.reduceAdd, Int.reduceSub, Int.reduceMul, Int.reduceNeg, Nat.reduceAdd, List.nil_append, not_true_eq_false, not_false_eq_true, and_true, true_and, and_false, false_and, or_true, true_or, or_false, false_or, decide_true, decide_false, eq_self, Bool.and_true, Bool.and_false, $ls,*] at $h:ident)
/-! ### representatives -/
/-! ### what carries a square to another one -/
end M
namespace M
open PySem PySem.Spec PyProof.Rows L2 G
local macro_rules
  | `(tactic| simp? [$ls,*]) => `(tactic| simp (maxSteps := 1000000) (disch := first | assumption | (simp (disch := decide +kernel) only [G.sl_nil, G.sl_cons, List.cons_append, List.nil_append, G.shN_str, G.shN_tup, G.shN_lst, G.shN_int, G.shN_bool, G.shN_none, G.shA_nil, G.shA_cons, G.b_ta, G.ky_i, G.ky_s]; done) | exact G.len_ok (by simp only [G.sl_nil, G.sl_cons]) | decide | decide +kernel | exact G.mulOk_l (by decide) | exact G.mulOk_r (by decide) | omega) only [G.rb_ok, G.rb_ex, G.rb_bad, G.rb_ite, G.lz, G.ls, G.sz, G.ss, G.r_seq, G.k_seq1, G.k_seq2, G.k_seq3, G.k_seq4, G.r_nx, G.r_bk, G.r_ct, G.r_retN, G.r_ret, G.k_ret, G.r_drop, G.k_drop, G.r_if, G.r_ife, G.k_if, G.r_asg, G.k_asg1, G.k_asg2, G.k_asg3, G.k_sl1, G.k_sl2, G.k_sh1, G.k_sh2, G.k_sh3, G.k_sh4, G.k_sh5, G.r_asgG, G.k_asgG, G.k_asgL, G.k_tg, G.r_nm, G.r_tup, G.r_tup1, G.r_tup3, G.r_tup4, G.r_nil, G.r_cons, G.r_V, G.k_V1, G.k_V2, G.k_V4, G.k_V3, G.r_C, G.p_val, G.p_fr, G.p_sl, G.pb_1, G.pb_2, G.pb_3, G.od_1, G.od_2, G.p_1, G.p_2, G.p_3, G.q_1, G.q_2, G.q_3, G.re_1, G.re_2, G.re_ite, G.st_1, G.st_2, G.st_3, G.r_op2, G.k_op2a, G.k_op2b, G.k_op2c, G.r_op1, G.k_op1, G.ob_some, G.r_said, G.k_said1, G.r_opN, G.k_opN, G.r_pk0, G.r_pk1, G.k_pk, G.r_anil, G.r_acons, G.k_acons, G.k_acons2, G.shs_v0, G.shs_v1, G.shs_v2, G.shs_v3, G.shs_v4, G.om_some, G.r_tupT, G.r_lstT, G.k_dt, G.k_dl, G.k_d1, G.k_d2, G.r_fB, G.k_fB, G.r_and, G.r_or, G.r_andV, G.r_orV, G.r_not, G.r_notV, G.k_not, G.k_notV, G.r_yes, G.r_ch, G.k_ch1, G.k_ch2, G.k_ch3, G.k_ch4, G.k_ch5, G.r_call, G.c1_nil, G.c1_t, G.c1_f, G.c1_s, G.c1_s1, G.c1_s2, G.k_ca, G.k_c1, G.k_c2, G.c2_nil, G.c2_v, G.c2_s, G.c2_s1, G.c2_s3, G.c2_s2, G.k_call, G.k_w1, G.k_w2, G.k_w3, G.k_wite, G.wb_nil, G.wb_none, G.wb_some, G.k_wb1, G.k_wb2, G.wbx_nil, G.wbx_none, G.ap_nil, G.ap_nil2, G.ap_cons, G.ma_nil, G.ma_cons, G.ds_nil, G.ds_none, G.ds_some, G.me_nil, G.me_none, G.me_some, G.ou_0, G.ou_s, G.ob_val, G.ob_own, G.ob_un, G.ob_exc, G.ob_prm, G.le_0, G.le_s, G.k_rf1, G.k_rf2, G.k_rf3, G.k_rf4, G.k_rs1, G.k_rs2, G.r_set, G.k_set1, G.k_set2, G.k_set3, G.k_set4, G.k_set5, G.k_set6, G.k_set7, G.k_set8, G.k_set9, G.r_mut, G.k_mu1, G.k_mu2, G.k_mu3, G.k_mu4, G.k_mu5, G.k_mu6, G.k_mu7, G.k_app, G.k_apps, G.r_par, G.k_par1, G.k_par2, G.k_par3, G.k_par4, G.k_par5, G.r_par3, G.k_p3a, G.k_p3b, G.r_parN, G.k_pn1, G.k_pn2, G.k_nx, G.ev_nil, G.ev_cons, G.k_ev1, G.k_ev2, G.rs_nil, G.rs_val, G.rs_fr, G.rs_sl, G.k_rsS1, G.k_rsS2, G.bn_nil, G.bn_val, G.bn_fr, G.r_rep, G.k_rp1, G.k_rp2, G.k_rp3, G.ixN_last, G.set_last, G.ix_last, G.r_for, G.k_for, G.fo_nil, G.fo_cons, G.k_fo0, G.k_fo1, G.k_fo2, G.k_fo3, G.k_fo4, G.r_turn, G.k_tu0, G.k_tu1, G.k_tu2, G.k_tu3, G.k_tu4, G.r_seqI, G.k_seqI, G.k_seqI1, G.k_seqI3, G.k_seqI5, G.k_seqI6, G.k_seqI4, G.k_seqI2, G.r_rng1, G.k_rng1, G.k_rng1b, G.r_rng2, G.k_rng2, G.k_rng2b, G.rgl_0, G.rgl_1, G.rgl_2, G.rgl_3, G.rgl_4, G.rgl_5, G.rgl_6, G.rgl_7, G.rgl_8, G.rgl_9, G.rgl_10, G.rgl_12, G.rgl_16, G.r1l_1, G.r1l_2, G.r1l_3, G.r1l_4, G.r1l_5, G.r1l_6, G.r1l_8, G.rpl_0, G.rpl_1, G.rpl_2, G.rpl_3, G.rpl_4, G.rpl_5, G.rpl_6, G.rpl_7, G.rpl_8, G.r_lc, G.k_lc, G.l_nil, G.l_cons, G.l_A, G.l_B, G.l_C, G.l_C2, G.l_C3, G.l_S1, G.l_S2, G.l_D, G.k_lc1, G.wi_nil, G.wi_cons, G.mulOk_l, G.mulOk_r, G.r_sl, G.k_sla, G.k_slb, G.k_slc, G.k_sld, G.pt_n, G.pt_s, G.k_pt, G.cu_t, G.cu_l, G.cu_1n, G.cu_2n, G.cu_n1, G.d_add, G.d_addT, G.d_addTs, G.d_addL, G.d_addLs, G.d_sub, G.d_mul, G.d_fdiv, G.d_mod, G.d_neg, G.d_cmp, G.d_ixT, G.d_ixL, G.at_0, G.at_1, G.at_2, G.at_3, G.d_lenL, G.d_lenT, G.d_tupL, G.d_tupT, G.d_all, G.k_all, G.d_any, G.k_any, G.bo_nil, G.bo_cons, G.al_nil, G.al_cons, G.al_map, G.an_nil, G.an_cons, G.an_map, G.id_b, G.bo_map, G.d_max, G.d_min, G.d_listL, G.d_listT, G.d_p18, G.d_p13, G.d_p12, G.d_is, G.d_abs, G.d_repr, G.d_eqS, G.d_neS, G.d_eqI, G.d_neI, G.d_isi, G.isy_int_none, G.isy_int_bool, G.isy_int_int, G.isy_int_str, G.isy_int_list, G.isy_int_tuple, G.isy_int_dict, G.isy_bool_none, G.isy_bool_bool, G.isy_bool_int, G.isy_bool_str, G.isy_bool_list, G.isy_bool_tuple, G.isy_bool_dict, G.isy_tuple_none, G.isy_tuple_bool, G.isy_tuple_int, G.isy_tuple_str, G.isy_tuple_list, G.isy_tuple_tuple, G.isy_tuple_dict, G.isy_list_none, G.isy_list_bool, G.isy_list_int, G.isy_list_str, G.isy_list_list, G.isy_list_tuple, G.isy_list_dict, G.isy_str_none, G.isy_str_bool, G.isy_str_int, G.isy_str_str, G.isy_str_list, G.isy_str_tuple, G.isy_str_dict, G.isy_dict_none, G.isy_dict_bool, G.isy_dict_int, G.isy_dict_str, G.isy_dict_list, G.isy_dict_tuple, G.isy_dict_dict, G.it_t, G.it_f, G.b_tt, G.b_ft, G.b_nt, G.b_nf, G.b_ta, G.b_fa, G.b_at, G.b_to, G.b_fo, G.lI_0, G.lI_1, G.lI_2, G.lI_3, G.lI_4, G.lI_5, G.lI_m, G.bs_f, G.es_f, G.bb_tt, G.bb_tf, G.bb_ft, G.bb_ff, G.bq_s, G.r_dic, G.k_dic1, G.k_dic2, G.k_dic3, G.k_dic4, G.k_kD1, G.k_kD2, G.k_fl0, G.k_fl1, G.k_pr0, G.k_pr1, G.k_pr2, G.r_dic0, G.d_ixDi, G.d_ixDs, G.d_inGT, G.d_inGL, G.d_ninGT, G.d_ninGL, G.d_inGi, G.d_ninGi, G.k_vals, G.k_items, G.d_setDi, G.dg_nil, G.dg_i, G.dg_s, G.mg_0, G.mg_s, G.dpk_n, G.ky_i, G.ky_s, G.d_eqX, G.d_neX, G.d_inT, G.d_inL, G.d_ninT, G.d_ninL, G.ev_ii, G.ev_bb, G.ev_ss, G.ev_nn, G.ev_tt, G.ev_ll, G.ev_0, G.ev_c, G.ev_c0, G.ev_0c, G.ev_none_bool, G.ev_none_int, G.ev_none_str, G.ev_none_list, G.ev_none_tuple, G.ev_bool_none, G.ev_bool_str, G.ev_bool_list, G.ev_bool_tuple, G.ev_int_none, G.ev_int_str, G.ev_int_list, G.ev_int_tuple, G.ev_str_none, G.ev_str_bool, G.ev_str_int, G.ev_str_list, G.ev_str_tuple, G.ev_list_none, G.ev_list_bool, G.ev_list_int, G.ev_list_str, G.ev_list_tuple, G.ev_tuple_none, G.ev_tuple_bool, G.ev_tuple_int, G.ev_tuple_str, G.ev_tuple_list, G.dec_t, G.not_dec, G.k_popA, G.k_popZ, G.k_pop1, G.r_ext, G.k_ext1, G.k_ext2, G.k_ext3, G.k_ext4, G.r_items, G.k_itemsJ, G.d_listD, G.d_intI, G.d_intB, G.d_strI, G.r_subG, G.k_sub1, G.k_sub2, G.k_sub3, G.k_sub4, G.k_sub5, G.k_sub6, G.k_sub7, G.r_tupL1, G.r_tupL2, G.r_tupL3, G.r_tupL4, G.d_isB, G.d_isnB, G.d_isnN, G.d_revL, G.d_revT, G.r_permA, G.k_perm1, G.k_perm2, G.k_perm3a, G.k_perm3b, G.k_perm3c, G.k_perm3d, G.k_perm3e, Int.reduceEq, Int.reduceLE, Int.reduceLT, Int.reduceAdd, Int.reduceSub, Int.reduceMul, Int.reduceNeg, Nat.reduceAdd, List.nil_append, not_true_eq_false, not_false_eq_true, and_true, true_and, and_false, false_and, or_true, true_or, or_false, false_or, decide_true, decide_false, eq_self, Bool.and_true, Bool.and_false, $ls,*])
  | `(tactic| simp? [$ls,*] at $h:ident) => `(tactic| simp (maxSteps := 1000000) (disch := first | assumption | (simp (disch := decide +kernel) only [G.sl_nil, G.sl_cons, List.cons_append, List.nil_append, G.shN_str, G.shN_tup, G.shN_lst, G.shN_int, G.shN_bool, G.shN_none, G.shA_nil, G.shA_cons, G.b_ta, G.ky_i, G.ky_s]; done) | exact G.len_ok (by simp only [G.sl_nil, G.sl_cons]) | decide | decide +kernel | exact G.mulOk_l (by decide) | exact G.mulOk_r (by decide) | omega) only [G.rb_ok, G.rb_ex, G.rb_bad, G.rb_ite, G.lz, G.ls, G.sz, G.ss, G.r_seq, G.k_seq1, G.k_seq2, G.k_seq3, G.k_seq4, G.r_nx, G.r_bk, G.r_ct, G.r_retN, G.r_ret, G.k_ret, G.r_drop, G.k_drop, G.r_if, G.r_ife, G.k_if, G.r_asg, G.k_asg1, G.k_asg2, G.k_asg3, G.k_sl1, G.k_sl2, G.k_sh1, G.k_sh2, G.k_sh3, G.k_sh4, G.k_sh5, G.r_asgG, G.k_asgG, G.k_asgL, G.k_tg, G.r_nm, G.r_tup, G.r_tup1, G.r_tup3, G.r_tup4, G.r_nil, G.r_cons, G.r_V, G.k_V1, G.k_V2, G.k_V4, G.k_V3, G.r_C, G.p_val, G.p_fr, G.p_sl, G.pb_1, G.pb_2, G.pb_3, G.od_1, G.od_2, G.p_1, G.p_2, G.p_3, G.q_1, G.q_2, G.q_3, G.re_1, G.re_2, G.re_ite, G.st_1, G.st_2, G.st_3, G.r_op2, G.k_op2a, G.k_op2b, G.k_op2c, G.r_op1, G.k_op1, G.ob_some, G.r_said, G.k_said1, G.r_opN, G.k_opN, G.r_pk0, G.r_pk1, G.k_pk, G.r_anil, G.r_acons, G.k_acons, G.k_acons2, G.shs_v0, G.shs_v1, G.shs_v2, G.shs_v3, G.shs_v4, G.om_some, G.r_tupT, G.r_lstT, G.k_dt, G.k_dl, G.k_d1, G.k_d2, G.r_fB, G.k_fB, G.r_and, G.r_or, G.r_andV, G.r_orV, G.r_not, G.r_notV, G.k_not, G.k_notV, G.r_yes, G.r_ch, G.k_ch1, G.k_ch2, G.k_ch3, G.k_ch4, G.k_ch5, G.r_call, G.c1_nil, G.c1_t, G.c1_f, G.c1_s, G.c1_s1, G.c1_s2, G.k_ca, G.k_c1, G.k_c2, G.c2_nil, G.c2_v, G.c2_s, G.c2_s1, G.c2_s3, G.c2_s2, G.k_call, G.k_w1, G.k_w2, G.k_w3, G.k_wite, G.wb_nil, G.wb_none, G.wb_some, G.k_wb1, G.k_wb2, G.wbx_nil, G.wbx_none, G.ap_nil, G.ap_nil2, G.ap_cons, G.ma_nil, G.ma_cons, G.ds_nil, G.ds_none, G.ds_some, G.me_nil, G.me_none, G.me_some, G.ou_0, G.ou_s, G.ob_val, G.ob_own, G.ob_un, G.ob_exc, G.ob_prm, G.le_0, G.le_s, G.k_rf1, G.k_rf2, G.k_rf3, G.k_rf4, G.k_rs1, G.k_rs2, G.r_set, G.k_set1, G.k_set2, G.k_set3, G.k_set4, G.k_set5, G.k_set6, G.k_set7, G.k_set8, G.k_set9, G.r_mut, G.k_mu1, G.k_mu2, G.k_mu3, G.k_mu4, G.k_mu5, G.k_mu6, G.k_mu7, G.k_app, G.k_apps, G.r_par, G.k_par1, G.k_par2, G.k_par3, G.k_par4, G.k_par5, G.r_par3, G.k_p3a, G.k_p3b, G.r_parN, G.k_pn1, G.k_pn2, G.k_nx, G.ev_nil, G.ev_cons, G.k_ev1, G.k_ev2, G.rs_nil, G.rs_val, G.rs_fr, G.rs_sl, G.k_rsS1, G.k_rsS2, G.bn_nil, G.bn_val, G.bn_fr, G.r_rep, G.k_rp1, G.k_rp2, G.k_rp3, G.ixN_last, G.set_last, G.ix_last, G.r_for, G.k_for, G.fo_nil, G.fo_cons, G.k_fo0, G.k_fo1, G.k_fo2, G.k_fo3, G.k_fo4, G.r_turn, G.k_tu0, G.k_tu1, G.k_tu2, G.k_tu3, G.k_tu4, G.r_seqI, G.k_seqI, G.k_seqI1, G.k_seqI3, G.k_seqI5, G.k_seqI6, G.k_seqI4, G.k_seqI2, G.r_rng1, G.k_rng1, G.k_rng1b, G.r_rng2, G.k_rng2, G.k_rng2b, G.rgl_0, G.rgl_1, G.rgl_2, G.rgl_3, G.rgl_4, G.rgl_5, G.rgl_6, G.rgl_7, G.rgl_8, G.rgl_9, G.rgl_10, G.rgl_12, G.rgl_16, G.r1l_1, G.r1l_2, G.r1l_3, G.r1l_4, G.r1l_5, G.r1l_6, G.r1l_8, G.rpl_0, G.rpl_1, G.rpl_2, G.rpl_3, G.rpl_4, G.rpl_5, G.rpl_6, G.rpl_7, G.rpl_8, G.r_lc, G.k_lc, G.l_nil, G.l_cons, G.l_A, G.l_B, G.l_C, G.l_C2, G.l_C3, G.l_S1, G.l_S2, G.l_D, G.k_lc1, G.wi_nil, G.wi_cons, G.mulOk_l, G.mulOk_r, G.r_sl, G.k_sla, G.k_slb, G.k_slc, G.k_sld, G.pt_n, G.pt_s, G.k_pt, G.cu_t, G.cu_l, G.cu_1n, G.cu_2n, G.cu_n1, G.d_add, G.d_addT, G.d_addTs, G.d_addL, G.d_addLs, G.d_sub, G.d_mul, G.d_fdiv, G.d_mod, G.d_neg, G.d_cmp, G.d_ixT, G.d_ixL, G.at_0, G.at_1, G.at_2, G.at_3, G.d_lenL, G.d_lenT, G.d_tupL, G.d_tupT, G.d_all, G.k_all, G.d_any, G.k_any, G.bo_nil, G.bo_cons, G.al_nil, G.al_cons, G.al_map, G.an_nil, G.an_cons, G.an_map, G.id_b, G.bo_map, G.d_max, G.d_min, G.d_listL, G.d_listT, G.d_p18, G.d_p13, G.d_p12, G.d_is, G.d_abs, G.d_repr, G.d_eqS, G.d_neS, G.d_eqI, G.d_neI, G.d_isi, G.isy_int_none, G.isy_int_bool, G.isy_int_int, G.isy_int_str, G.isy_int_list, G.isy_int_tuple, G.isy_int_dict, G.isy_bool_none, G.isy_bool_bool, G.isy_bool_int, G.isy_bool_str, G.isy_bool_list, G.isy_bool_tuple, G.isy_bool_dict, G.isy_tuple_none, G.isy_tuple_bool, G.isy_tuple_int, G.isy_tuple_str, G.isy_tuple_list, G.isy_tuple_tuple, G.isy_tuple_dict, G.isy_list_none, G.isy_list_bool, G.isy_list_int, G.isy_list_str, G.isy_list_list, G.isy_list_tuple, G.isy_list_dict, G.isy_str_none, G.isy_str_bool, G.isy_str_int, G.isy_str_str, G.isy_str_list, G.isy_str_tuple, G.isy_str_dict, G.isy_dict_none, G.isy_dict_bool, G.isy_dict_int, G.isy_dict_str, G.isy_dict_list, G.isy_dict_tuple, G.isy_dict_dict, G.it_t, G.it_f, G.b_tt, G.b_ft, G.b_nt, G.b_nf, G.b_ta, G.b_fa, G.b_at, G.b_to, G.b_fo, G.lI_0, G.lI_1, G.lI_2, G.lI_3, G.lI_4, G.lI_5, G.lI_m, G.bs_f, G.es_f, G.bb_tt, G.bb_tf, G.bb_ft, G.bb_ff, G.bq_s, G.r_dic, G.k_dic1, G.k_dic2, G.k_dic3, G.k_dic4, G.k_kD1, G.k_kD2, G.k_fl0, G.k_fl1, G.k_pr0, G.k_pr1, G.k_pr2, G.r_dic0, G.d_ixDi, G.d_ixDs, G.d_inGT, G.d_inGL, G.d_ninGT, G.d_ninGL, G.d_inGi, G.d_ninGi, G.k_vals, G.k_items, G.d_setDi, G.dg_nil, G.dg_i, G.dg_s, G.mg_0, G.mg_s, G.dpk_n, G.ky_i, G.ky_s, G.d_eqX, G.d_neX, G.d_inT, G.d_inL, G.d_ninT, G.d_ninL, G.ev_ii, G.ev_bb, G.ev_ss, G.ev_nn, G.ev_tt, G.ev_ll, G.ev_0, G.ev_c, G.ev_c0, G.ev_0c, G.ev_none_bool, G.ev_none_int, G.ev_none_str, G.ev_none_list, G.ev_none_tuple, G.ev_bool_none, G.ev_bool_str, G.ev_bool_list, G.ev_bool_tuple, G.ev_int_none, G.ev_int_str, G.ev_int_list, G.ev_int_tuple, G.ev_str_none, G.ev_str_bool, G.ev_str_int, G.ev_str_list, G.ev_str_tuple, G.ev_list_none, G.ev_list_bool, G.ev_list_int, G.ev_list_str, G.ev_list_tuple, G.ev_tuple_none, G.ev_tuple_bool, G.ev_tuple_int, G.ev_tuple_str, G.ev_tuple_list, G.dec_t, G.not_dec, G.k_popA, G.k_popZ, G.k_pop1, G.r_ext, G.k_ext1, G.k_ext2, G.k_ext3, G.k_ext4, G.r_items, G.k_itemsJ, G.d_listD, G.d_intI, G.d_intB, G.d_strI, G.r_subG, G.k_sub1, G.k_sub2, G.k_sub3, G.k_sub4, G.k_sub5, G.k_sub6, G.k_sub7, G.r_tupL1, G.r_tupL2, G.r_tupL3, G.r_tupL4, G.d_isB, G.d_isnB, G.d_isnN, G.d_revL, G.d_revT, G.r_permA, G.k_perm1, G.k_perm2, G.k_perm3a, G.k_perm3b, G.k_perm3c, G.k_perm3d, G.k_perm3e, Int.reduceEq, Int.reduceLE, Int.reduceLT, Int.reduceAdd, Int.reduceSub, Int.reduceMul, Int.reduceNeg, Nat.reduceAdd, List.nil_append, not_true_eq_false, not_false_eq_true, and_true, true_and, and_false, false_and, or_true, true_or, or_false, false_or, decide_true, decide_false, eq_self, Bool.and_true, Bool.and_false, $ls,*] at $h:ident)
/-! ### words drawn -/
end M
namespace M
open PySem PySem.Spec PyProof.Rows L2 G
local macro_rules
  | `(tactic| simp? [$ls,*]) => `(tactic| simp (maxSteps := 1000000) (disch := first | assumption | (simp (disch := decide +kernel) only [G.sl_nil, G.sl_cons, List.cons_append, List.nil_append, G.shN_str, G.shN_tup, G.shN_lst, G.shN_int, G.shN_bool, G.shN_none, G.shA_nil, G.shA_cons, G.b_ta, G.ky_i, G.ky_s]; done) | exact G.len_ok (by simp only [G.sl_nil, G.sl_cons]) | decide | decide +kernel | exact G.mulOk_l (by decide) | exact G.mulOk_r (by decide) | omega) only [G.rb_ok, G.rb_ex, G.rb_bad, G.rb_ite, G.lz, G.ls, G.sz, G.ss, G.r_seq, G.k_seq1, G.k_seq2, G.k_seq3, G.k_seq4, G.r_nx, G.r_bk, G.r_ct, G.r_retN, G.r_ret, G.k_ret, G.r_drop, G.k_drop, G.r_if, G.r_ife, G.k_if, G.r_asg, G.k_asg1, G.k_asg2, G.k_asg3, G.k_sl1, G.k_sl2, G.k_sh1, G.k_sh2, G.k_sh3, G.k_sh4, G.k_sh5, G.r_asgG, G.k_asgG, G.k_asgL, G.k_tg, G.r_nm, G.r_tup, G.r_tup1, G.r_tup3, G.r_tup4, G.r_nil, G.r_cons, G.r_V, G.k_V1, G.k_V2, G.k_V4, G.k_V3, G.r_C, G.p_val, G.p_fr, G.p_sl, G.pb_1, G.pb_2, G.pb_3, G.od_1, G.od_2, G.p_1, G.p_2, G.p_3, G.q_1, G.q_2, G.q_3, G.re_1, G.re_2, G.re_ite, G.st_1, G.st_2, G.st_3, G.r_op2, G.k_op2a, G.k_op2b, G.k_op2c, G.r_op1, G.k_op1, G.ob_some, G.r_said, G.k_said1, G.r_opN, G.k_opN, G.r_pk0, G.r_pk1, G.k_pk, G.r_anil, G.r_acons, G.k_acons, G.k_acons2, G.shs_v0, G.shs_v1, G.shs_v2, G.shs_v3, G.shs_v4, G.om_some, G.r_tupT, G.r_lstT, G.k_dt, G.k_dl, G.k_d1, G.k_d2, G.r_fB, G.k_fB, G.r_and, G.r_or, G.r_andV, G.r_orV, G.r_not, G.r_notV, G.k_not, G.k_notV, G.r_yes, G.r_ch, G.k_ch1, G.k_ch2, G.k_ch3, G.k_ch4, G.k_ch5, G.r_call, G.c1_nil, G.c1_t, G.c1_f, G.c1_s, G.c1_s1, G.c1_s2, G.k_ca, G.k_c1, G.k_c2, G.c2_nil, G.c2_v, G.c2_s, G.c2_s1, G.c2_s3, G.c2_s2, G.k_call, G.k_w1, G.k_w2, G.k_w3, G.k_wite, G.wb_nil, G.wb_none, G.wb_some, G.k_wb1, G.k_wb2, G.wbx_nil, G.wbx_none, G.ap_nil, G.ap_nil2, G.ap_cons, G.ma_nil, G.ma_cons, G.ds_nil, G.ds_none, G.ds_some, G.me_nil, G.me_none, G.me_some, G.ou_0, G.ou_s, G.ob_val, G.ob_own, G.ob_un, G.ob_exc, G.ob_prm, G.le_0, G.le_s, G.k_rf1, G.k_rf2, G.k_rf3, G.k_rf4, G.k_rs1, G.k_rs2, G.r_set, G.k_set1, G.k_set2, G.k_set3, G.k_set4, G.k_set5, G.k_set6, G.k_set7, G.k_set8, G.k_set9, G.r_mut, G.k_mu1, G.k_mu2, G.k_mu3, G.k_mu4, G.k_mu5, G.k_mu6, G.k_mu7, G.k_app, G.k_apps, G.r_par, G.k_par1, G.k_par2, G.k_par3, G.k_par4, G.k_par5, G.r_par3, G.k_p3a, G.k_p3b, G.r_parN, G.k_pn1, G.k_pn2, G.k_nx, G.ev_nil, G.ev_cons, G.k_ev1, G.k_ev2, G.rs_nil, G.rs_val, G.rs_fr, G.rs_sl, G.k_rsS1, G.k_rsS2, G.bn_nil, G.bn_val, G.bn_fr, G.r_rep, G.k_rp1, G.k_rp2, G.k_rp3, G.ixN_last, G.set_last, G.ix_last, G.r_for, G.k_for, G.fo_nil, G.fo_cons, G.k_fo0, G.k_fo1, G.k_fo2, G.k_fo3, G.k_fo4, G.r_turn, G.k_tu0, G.k_tu1, G.k_tu2, G.k_tu3, G.k_tu4, G.r_seqI, G.k_seqI, G.k_seqI1, G.k_seqI3, G.k_seqI5, G.k_seqI6, G.k_seqI4, G.k_seqI2, G.r_rng1, G.k_rng1, G.k_rng1b, G.r_rng2, G.k_rng2, G.k_rng2b, G.rgl_0, G.rgl_1, G.rgl_2, G.rgl_3, G.rgl_4, G.rgl_5, G.rgl_6, G.rgl_7, G.rgl_8, G.rgl_9, G.rgl_10, G.rgl_12, G.rgl_16, G.r1l_1, G.r1l_2, G.r1l_3, G.r1l_4, G.r1l_5, G.r1l_6, G.r1l_8, G.rpl_0, G.rpl_1, G.rpl_2, G.rpl_3, G.rpl_4, G.rpl_5, G.rpl_6, G.rpl_7, G.rpl_8, G.r_lc, G.k_lc, G.l_nil, G.l_cons, G.l_A, G.l_B, G.l_C, G.l_C2, G.l_C3, G.l_S1, G.l_S2, G.l_D, G.k_lc1, G.wi_nil, G.wi_cons, G.mulOk_l, G.mulOk_r, G.r_sl, G.k_sla, G.k_slb, G.k_slc, G.k_sld, G.pt_n, G.pt_s, G.k_pt, G.cu_t, G.cu_l, G.cu_1n, G.cu_2n, G.cu_n1, G.d_add, G.d_addT, G.d_addTs, G.d_addL, G.d_addLs, G.d_sub, G.d_mul, G.d_fdiv, G.d_mod, G.d_neg, G.d_cmp, G.d_ixT, G.d_ixL, G.at_0, G.at_1, G.at_2, G.at_3, G.d_lenL, G.d_lenT, G.d_tupL, G.d_tupT, G.d_all, G.k_all, G.d_any, G.k_any, G.bo_nil, G.bo_cons, G.al_nil, G.al_cons, G.al_map, G.an_nil, G.an_cons, G.an_map, G.id_b, G.bo_map, G.d_max, G.d_min, G.d_listL, G.d_listT, G.d_p18, G.d_p13, G.d_p12, G.d_is, G.d_abs, G.d_repr, G.d_eqS, G.d_neS, G.d_eqI, G.d_neI, G.d_isi, G.isy_int_none, G.isy_int_bool, G.isy_int_int, G.isy_int_str, G.isy_int_list, G.isy_int_tuple, G.isy_int_dict, G.isy_bool_none, G.isy_bool_bool, G.isy_bool_int, G.isy_bool_str, G.isy_bool_list, G.isy_bool_tuple, G.isy_bool_dict, G.isy_tuple_none, G.isy_tuple_bool, G.isy_tuple_int, G.isy_tuple_str, G.isy_tuple_list, G.isy_tuple_tuple, G.isy_tuple_dict, G.isy_list_none, G.isy_list_bool, G.isy_list_int, G.isy_list_str, G.isy_list_list, G.isy_list_tuple, G.isy_list_dict, G.isy_str_none, G.isy_str_bool, G.isy_str_int, G.isy_str_str, G.isy_str_list, G.isy_str_tuple, G.isy_str_dict, G.isy_dict_none, G.isy_dict_bool, G.isy_dict_int, G.isy_dict_str, G.isy_dict_list, G.isy_dict_tuple, G.isy_dict_dict, G.it_t, G.it_f, G.b_tt, G.b_ft, G.b_nt, G.b_nf, G.b_ta, G.b_fa, G.b_at, G.b_to, G.b_fo, G.lI_0, G.lI_1, G.lI_2, G.lI_3, G.lI_4, G.lI_5, G.lI_m, G.bs_f, G.es_f, G.bb_tt, G.bb_tf, G.bb_ft, G.bb_ff, G.bq_s, G.r_dic, G.k_dic1, G.k_dic2, G.k_dic3, G.k_dic4, G.k_kD1, G.k_kD2, G.k_fl0, G.k_fl1, G.k_pr0, G.k_pr1, G.k_pr2, G.r_dic0, G.d_ixDi, G.d_ixDs, G.d_inGT, G.d_inGL, G.d_ninGT, G.d_ninGL, G.d_inGi, G.d_ninGi, G.k_vals, G.k_items, G.d_setDi, G.dg_nil, G.dg_i, G.dg_s, G.mg_0, G.mg_s, G.dpk_n, G.ky_i, G.ky_s, G.d_eqX, G.d_neX, G.d_inT, G.d_inL, G.d_ninT, G.d_ninL, G.ev_ii, G.ev_bb, G.ev_ss, G.ev_nn, G.ev_tt, G.ev_ll, G.ev_0, G.ev_c, G.ev_c0, G.ev_0c, G.ev_none_bool, G.ev_none_int, G.ev_none_str, G.ev_none_list, G.ev_none_tuple, G.ev_bool_none, G.ev_bool_str, G.ev_bool_list, G.ev_bool_tuple, G.ev_int_none, G.ev_int_str, G.ev_int_list, G.ev_int_tuple, G.ev_str_none, G.ev_str_bool, G.ev_str_int, G.ev_str_list, G.ev_str_tuple, G.ev_list_none, G.ev_list_bool, G.ev_list_int, G.ev_list_str, G.ev_list_tuple, G.ev_tuple_none, G.ev_tuple_bool, G.ev_tuple_int, G.ev_tuple_str, G.ev_tuple_list, G.dec_t, G.not_dec, G.k_popA, G.k_popZ, G.k_pop1, G.r_ext, G.k_ext1, G.k_ext2, G.k_ext3, G.k_ext4, G.r_items, G.k_itemsJ, G.d_listD, G.d_intI, G.d_intB, G.d_strI, G.r_subG, G.k_sub1, G.k_sub2, G.k_sub3, G.k_sub4, G.k_sub5, G.k_sub6, G.k_sub7, G.r_tupL1, G.r_tupL2, G.r_tupL3, G.r_tupL4, G.d_isB, G.d_isnB, G.d_isnN, G.d_revL, G.d_revT, G.r_permA, G.k_perm1, G.k_perm2, G.k_perm3a, G.k_perm3b, G.k_perm3c, G.k_perm3d, G.k_perm3e, Int.reduceEq, Int.reduceLE, Int.reduceLT, Int.reduceAdd, Int.reduceSub, Int.reduceMul, Int.reduceNeg, Nat.reduceAdd, List.nil_append, not_true_eq_false, not_false_eq_true, and_true, true_and, and_false, false_and, or_true, true_or, or_false, false_or, decide_true, decide_false, eq_self, Bool.and_true, Bool.and_false, $ls,*])
  | `(tactic| simp? [$ls,*] at $h:ident) => `(tactic| simp (maxSteps := 1000000) (disch := first | assumption | (simp (disch := decide +kernel) only [G.sl_nil, G.sl_cons, List.cons_append, List.nil_append, G.shN_str, G.shN_tup, G.shN_lst, G.shN_int, G.shN_bool, G.shN_none, G.shA_nil, G.shA_cons, G.b_ta, G.ky_i, G.ky_s]; done) | exact G.len_ok (by simp only [G.sl_nil, G.sl_cons]) | decide | decide +kernel | exact G.mulOk_l (by decide) | exact G.mulOk_r (by decide) | omega) only [G.rb_ok, G.rb_ex, G.rb_bad, G.rb_ite, G.lz, G.ls, G.sz, G.ss, G.r_seq, G.k_seq1, G.k_seq2, G.k_seq3, G.k_seq4, G.r_nx, G.r_bk, G.r_ct, G.r_retN, G.r_ret, G.k_ret, G.r_drop, G.k_drop, G.r_if, G.r_ife, G.k_if, G.r_asg, G.k_asg1, G.k_asg2, G.k_asg3, G.k_sl1, G.k_sl2, G.k_sh1, G.k_sh2, G.k_sh3, G.k_sh4, G.k_sh5, G.r_asgG, G.k_asgG, G.k_asgL, G.k_tg, G.r_nm, G.r_tup, G.r_tup1, G.r_tup3, G.r_tup4, G.r_nil, G.r_cons, G.r_V, G.k_V1, G.k_V2, G.k_V4, G.k_V3, G.r_C, G.p_val, G.p_fr, G.p_sl, G.pb_1, G.pb_2, G.pb_3, G.od_1, G.od_2, G.p_1, G.p_2, G.p_3, G.q_1, G.q_2, G.q_3, G.re_1, G.re_2, G.re_ite, G.st_1, G.st_2, G.st_3, G.r_op2, G.k_op2a, G.k_op2b, G.k_op2c, G.r_op1, G.k_op1, G.ob_some, G.r_said, G.k_said1, G.r_opN, G.k_opN, G.r_pk0, G.r_pk1, G.k_pk, G.r_anil, G.r_acons, G.k_acons, G.k_acons2, G.shs_v0, G.shs_v1, G.shs_v2, G.shs_v3, G.shs_v4, G.om_some, G.r_tupT, G.r_lstT, G.k_dt, G.k_dl, G.k_d1, G.k_d2, G.r_fB, G.k_fB, G.r_and, G.r_or, G.r_andV, G.r_orV, G.r_not, G.r_notV, G.k_not, G.k_notV, G.r_yes, G.r_ch, G.k_ch1, G.k_ch2, G.k_ch3, G.k_ch4, G.k_ch5, G.r_call, G.c1_nil, G.c1_t, G.c1_f, G.c1_s, G.c1_s1, G.c1_s2, G.k_ca, G.k_c1, G.k_c2, G.c2_nil, G.c2_v, G.c2_s, G.c2_s1, G.c2_s3, G.c2_s2, G.k_call, G.k_w1, G.k_w2, G.k_w3, G.k_wite, G.wb_nil, G.wb_none, G.wb_some, G.k_wb1, G.k_wb2, G.wbx_nil, G.wbx_none, G.ap_nil, G.ap_nil2, G.ap_cons, G.ma_nil, G.ma_cons, G.ds_nil, G.ds_none, G.ds_some, G.me_nil, G.me_none, G.me_some, G.ou_0, G.ou_s, G.ob_val, G.ob_own, G.ob_un, G.ob_exc, G.ob_prm, G.le_0, G.le_s, G.k_rf1, G.k_rf2, G.k_rf3, G.k_rf4, G.k_rs1, G.k_rs2, G.r_set, G.k_set1, G.k_set2, G.k_set3, G.k_set4, G.k_set5, G.k_set6, G.k_set7, G.k_set8, G.k_set9, G.r_mut, G.k_mu1, G.k_mu2, G.k_mu3, G.k_mu4, G.k_mu5, G.k_mu6, G.k_mu7, G.k_app, G.k_apps, G.r_par, G.k_par1, G.k_par2, G.k_par3, G.k_par4, G.k_par5, G.r_par3, G.k_p3a, G.k_p3b, G.r_parN, G.k_pn1, G.k_pn2, G.k_nx, G.ev_nil, G.ev_cons, G.k_ev1, G.k_ev2, G.rs_nil, G.rs_val, G.rs_fr, G.rs_sl, G.k_rsS1, G.k_rsS2, G.bn_nil, G.bn_val, G.bn_fr, G.r_rep, G.k_rp1, G.k_rp2, G.k_rp3, G.ixN_last, G.set_last, G.ix_last, G.r_for, G.k_for, G.fo_nil, G.fo_cons, G.k_fo0, G.k_fo1, G.k_fo2, G.k_fo3, G.k_fo4, G.r_turn, G.k_tu0, G.k_tu1, G.k_tu2, G.k_tu3, G.k_tu4, G.r_seqI, G.k_seqI, G.k_seqI1, G.k_seqI3, G.k_seqI5, G.k_seqI6, G.k_seqI4, G.k_seqI2, G.r_rng1, G.k_rng1, G.k_rng1b, G.r_rng2, G.k_rng2, G.k_rng2b, G.rgl_0, G.rgl_1, G.rgl_2, G.rgl_3, G.rgl_4, G.rgl_5, G.rgl_6, G.rgl_7, G.rgl_8, G.rgl_9, G.rgl_10, G.rgl_12, G.rgl_16, G.r1l_1, G.r1l_2, G.r1l_3, G.r1l_4, G.r1l_5, G.r1l_6, G.r1l_8, G.rpl_0, G.rpl_1, G.rpl_2, G.rpl_3, G.rpl_4, G.rpl_5, G.rpl_6, G.rpl_7, G.rpl_8, G.r_lc, G.k_lc, G.l_nil, G.l_cons, G.l_A, G.l_B, G.l_C, G.l_C2, G.l_C3, G.l_S1, G.l_S2, G.l_D, G.k_lc1, G.wi_nil, G.wi_cons, G.mulOk_l, G.mulOk_r, G.r_sl, G.k_sla, G.k_slb, G.k_slc, G.k_sld, G.pt_n, G.pt_s, G.k_pt, G.cu_t, G.cu_l, G.cu_1n, G.cu_2n, G.cu_n1, G.d_add, G.d_addT, G.d_addTs, G.d_addL, G.d_addLs, G.d_sub, G.d_mul, G.d_fdiv, G.d_mod, G.d_neg, G.d_cmp, G.d_ixT, G.d_ixL, G.at_0, G.at_1, G.at_2, G.at_3, G.d_lenL, G.d_lenT, G.d_tupL, G.d_tupT, G.d_all, G.k_all, G.d_any, G.k_any, G.bo_nil, G.bo_cons, G.al_nil, G.al_cons, G.al_map, G.an_nil, G.an_cons, G.an_map, G.id_b, G.bo_map, G.d_max, G.d_min, G.d_listL, G.d_listT, G.d_p18, G.d_p13, G.d_p12, G.d_is, G.d_abs, G.d_repr, G.d_eqS, G.d_neS, G.d_eqI, G.d_neI, G.d_isi, G.isy_int_none, G.isy_int_bool, G.isy_int_int, G.isy_int_str, G.isy_int_list, G.isy_int_tuple, G.isy_int_dict, G.isy_bool_none, G.isy_bool_bool, G.isy_bool_int, G.isy_bool_str, G.isy_bool_list, G.isy_bool_tuple, G.isy_bool_dict, G.isy_tuple_none, G.isy_tuple_bool, G.isy_tuple_int, G.isy_tuple_str, G.isy_tuple_list, G.isy_tuple_tuple, G.isy_tuple_dict, G.isy_list_none, G.isy_list_bool, G.isy_list_int, G.isy_list_str, G.isy_list_list, G.isy_list_tuple, G.isy_list_dict, G.isy_str_none, G.isy_str_bool, G.isy_str_int, G.isy_str_str, G.isy_str_list, G.isy_str_tuple, G.isy_str_dict, G.isy_dict_none, G.isy_dict_bool, G.isy_dict_int, G.isy_dict_str, G.isy_dict_list, G.isy_dict_tuple, G.isy_dict_dict, G.it_t, G.it_f, G.b_tt, G.b_ft, G.b_nt, G.b_nf, G.b_ta, G.b_fa, G.b_at, G.b_to, G.b_fo, G.lI_0, G.lI_1, G.lI_2, G.lI_3, G.lI_4, G.lI_5, G.lI_m, G.bs_f, G.es_f, G.bb_tt, G.bb_tf, G.bb_ft, G.bb_ff, G.bq_s, G.r_dic, G.k_dic1, G.k_dic2, G.k_dic3, G.k_dic4, G.k_kD1, G.k_kD2, G.k_fl0, G.k_fl1, G.k_pr0, G.k_pr1, G.k_pr2, G.r_dic0, G.d_ixDi, G.d_ixDs, G.d_inGT, G.d_inGL, G.d_ninGT, G.d_ninGL, G.d_inGi, G.d_ninGi, G.k_vals, G.k_items, G.d_setDi, G.dg_nil, G.dg_i, G.dg_s, G.mg_0, G.mg_s, G.dpk_n, G.ky_i, G.ky_s, G.d_eqX, G.d_neX, G.d_inT, G.d_inL, G.d_ninT, G.d_ninL, G.ev_ii, G.ev_bb, G.ev_ss, G.ev_nn, G.ev_tt, G.ev_ll, G.ev_0, G.ev_c, G.ev_c0, G.ev_0c, G.ev_none_bool, G.ev_none_int, G.ev_none_str, G.ev_none_list, G.ev_none_tuple, G.ev_bool_none, G.ev_bool_str, G.ev_bool_list, G.ev_bool_tuple, G.ev_int_none, G.ev_int_str, G.ev_int_list, G.ev_int_tuple, G.ev_str_none, G.ev_str_bool, G.ev_str_int, G.ev_str_list, G.ev_str_tuple, G.ev_list_none, G.ev_list_bool, G.ev_list_int, G.ev_list_str, G.ev_list_tuple, G.ev_tuple_none, G.ev_tuple_bool, G.ev_tuple_int, G.ev_tuple_str, G.ev_tuple_list, G.dec_t, G.not_dec, G.k_popA, G.k_popZ, G.k_pop1, G.r_ext, G.k_ext1, G.k_ext2, G.k_ext3, G.k_ext4, G.r_items, G.k_itemsJ, G.d_listD, G.d_intI, G.d_intB, G.d_strI, G.r_subG, G.k_sub1, G.k_sub2, G.k_sub3, G.k_sub4, G.k_sub5, G.k_sub6, G.k_sub7, G.r_tupL1, G.r_tupL2, G.r_tupL3, G.r_tupL4, G.d_isB, G.d_isnB, G.d_isnN, G.d_revL, G.d_revT, G.r_permA, G.k_perm1, G.k_perm2, G.k_perm3a, G.k_perm3b, G.k_perm3c, G.k_perm3d, G.k_perm3e, Int.reduceEq, Int.reduceLE, Int.reduceLT, Int.reduceAdd, Int.reduceSub, Int.reduceMul, Int.reduceNeg, Nat.reduceAdd, List.nil_append, not_true_eq_false, not_false_eq_true, and_true, true_and, and_false, false_and, or_true, true_or, or_false, false_or, decide_true, decide_false, eq_self, Bool.and_true, Bool.and_false, $ls,*] at $h:ident)
/-! ### two groups -/
instance dsDec : DecidableEq Ds := fun A B => decidable_of_iff (A.b = B.b ∧ A.ms = B.ms) ⟨fun h => by cases A; cases B; cases h.1; cases h.2; rfl, fun h => by rw [h]; exact ⟨rfl, rfl⟩⟩
abbrev Ds.B (D : Ds) (s : Sym) : Bool := decide (D.b.reds s ∈ D.ms)
def outs (gs : List Sym) (D : Ds) : List Sym := gs.filter fun g => !D.B g
end M
namespace M
open PySem PySem.Spec PyProof.Rows L2 G
local macro_rules
  | `(tactic| simp? [$ls,*]) => `(tactic| simp (maxSteps := 1000000) (disch := first | assumption | (simp (disch := decide +kernel) only [G.sl_nil, G.sl_cons, List.cons_append, List.nil_append, G.shN_str, G.shN_tup, G.shN_lst, G.shN_int, G.shN_bool, G.shN_none, G.shA_nil, G.shA_cons, G.b_ta, G.ky_i, G.ky_s]; done) | exact G.len_ok (by simp only [G.sl_nil, G.sl_cons]) | decide | decide +kernel | exact G.mulOk_l (by decide) | exact G.mulOk_r (by decide) | omega) only [G.rb_ok, G.rb_ex, G.rb_bad, G.rb_ite, G.lz, G.ls, G.sz, G.ss, G.r_seq, G.k_seq1, G.k_seq2, G.k_seq3, G.k_seq4, G.r_nx, G.r_bk, G.r_ct, G.r_retN, G.r_ret, G.k_ret, G.r_drop, G.k_drop, G.r_if, G.r_ife, G.k_if, G.r_asg, G.k_asg1, G.k_asg2, G.k_asg3, G.k_sl1, G.k_sl2, G.k_sh1, G.k_sh2, G.k_sh3, G.k_sh4, G.k_sh5, G.r_asgG, G.k_asgG, G.k_asgL, G.k_tg, G.r_nm, G.r_tup, G.r_tup1, G.r_tup3, G.r_tup4, G.r_nil, G.r_cons, G.r_V, G.k_V1, G.k_V2, G.k_V4, G.k_V3, G.r_C, G.p_val, G.p_fr, G.p_sl, G.pb_1, G.pb_2, G.pb_3, G.od_1, G.od_2, G.p_1, G.p_2, G.p_3, G.q_1, G.q_2, G.q_3, G.re_1, G.re_2, G.re_ite, G.st_1, G.st_2, G.st_3, G.r_op2, G.k_op2a, G.k_op2b, G.k_op2c, G.r_op1, G.k_op1, G.ob_some, G.r_said, G.k_said1, G.r_opN, G.k_opN, G.r_pk0, G.r_pk1, G.k_pk, G.r_anil, G.r_acons, G.k_acons, G.k_acons2, G.shs_v0, G.shs_v1, G.shs_v2, G.shs_v3, G.shs_v4, G.om_some, G.r_tupT, G.r_lstT, G.k_dt, G.k_dl, G.k_d1, G.k_d2, G.r_fB, G.k_fB, G.r_and, G.r_or, G.r_andV, G.r_orV, G.r_not, G.r_notV, G.k_not, G.k_notV, G.r_yes, G.r_ch, G.k_ch1, G.k_ch2, G.k_ch3, G.k_ch4, G.k_ch5, G.r_call, G.c1_nil, G.c1_t, G.c1_f, G.c1_s, G.c1_s1, G.c1_s2, G.k_ca, G.k_c1, G.k_c2, G.c2_nil, G.c2_v, G.c2_s, G.c2_s1, G.c2_s3, G.c2_s2, G.k_call, G.k_w1, G.k_w2, G.k_w3, G.k_wite, G.wb_nil, G.wb_none, G.wb_some, G.k_wb1, G.k_wb2, G.wbx_nil, G.wbx_none, G.ap_nil, G.ap_nil2, G.ap_cons, G.ma_nil, G.ma_cons, G.ds_nil, G.ds_none, G.ds_some, G.me_nil, G.me_none, G.me_some, G.ou_0, G.ou_s, G.ob_val, G.ob_own, G.ob_un, G.ob_exc, G.ob_prm, G.le_0, G.le_s, G.k_rf1, G.k_rf2, G.k_rf3, G.k_rf4, G.k_rs1, G.k_rs2, G.r_set, G.k_set1, G.k_set2, G.k_set3, G.k_set4, G.k_set5, G.k_set6, G.k_set7, G.k_set8, G.k_set9, G.r_mut, G.k_mu1, G.k_mu2, G.k_mu3, G.k_mu4, G.k_mu5, G.k_mu6, G.k_mu7, G.k_app, G.k_apps, G.r_par, G.k_par1, G.k_par2, G.k_par3, G.k_par4, G.k_par5, G.r_par3, G.k_p3a, G.k_p3b, G.r_parN, G.k_pn1, G.k_pn2, G.k_nx, G.ev_nil, G.ev_cons, G.k_ev1, G.k_ev2, G.rs_nil, G.rs_val, G.rs_fr, G.rs_sl, G.k_rsS1, G.k_rsS2, G.bn_nil, G.bn_val, G.bn_fr, G.r_rep, G.k_rp1, G.k_rp2, G.k_rp3, G.ixN_last, G.set_last, G.ix_last, G.r_for, G.k_for, G.fo_nil, G.fo_cons, G.k_fo0, G.k_fo1, G.k_fo2, G.k_fo3, G.k_fo4, G.r_turn, G.k_tu0, G.k_tu1, G.k_tu2, G.k_tu3, G.k_tu4, G.r_seqI, G.k_seqI, G.k_seqI1, G.k_seqI3, G.k_seqI5, G.k_seqI6, G.k_seqI4, G.k_seqI2, G.r_rng1, G.k_rng1, G.k_rng1b, G.r_rng2, G.k_rng2, G.k_rng2b, G.rgl_0, G.rgl_1, G.rgl_2, G.rgl_3, G.rgl_4, G.rgl_5, G.rgl_6, G.rgl_7, G.rgl_8, G.rgl_9, G.rgl_10, G.rgl_12, G.rgl_16, G.r1l_1, G.r1l_2, G.r1l_3, G.r1l_4, G.r1l_5, G.r1l_6, G.r1l_8, G.rpl_0, G.rpl_1, G.rpl_2, G.rpl_3, G.rpl_4, G.rpl_5, G.rpl_6, G.rpl_7, G.rpl_8, G.r_lc, G.k_lc, G.l_nil, G.l_cons, G.l_A, G.l_B, G.l_C, G.l_C2, G.l_C3, G.l_S1, G.l_S2, G.l_D, G.k_lc1, G.wi_nil, G.wi_cons, G.mulOk_l, G.mulOk_r, G.r_sl, G.k_sla, G.k_slb, G.k_slc, G.k_sld, G.pt_n, G.pt_s, G.k_pt, G.cu_t, G.cu_l, G.cu_1n, G.cu_2n, G.cu_n1, G.d_add, G.d_addT, G.d_addTs, G.d_addL, G.d_addLs, G.d_sub, G.d_mul, G.d_fdiv, G.d_mod, G.d_neg, G.d_cmp, G.d_ixT, G.d_ixL, G.at_0, G.at_1, G.at_2, G.at_3, G.d_lenL, G.d_lenT, G.d_tupL, G.d_tupT, G.d_all, G.k_all, G.d_any, G.k_any, G.bo_nil, G.bo_cons, G.al_nil, G.al_cons, G.al_map, G.an_nil, G.an_cons, G.an_map, G.id_b, G.bo_map, G.d_max, G.d_min, G.d_listL, G.d_listT, G.d_p18, G.d_p13, G.d_p12, G.d_is, G.d_abs, G.d_repr, G.d_eqS, G.d_neS, G.d_eqI, G.d_neI, G.d_isi, G.isy_int_none, G.isy_int_bool, G.isy_int_int, G.isy_int_str, G.isy_int_list, G.isy_int_tuple, G.isy_int_dict, G.isy_bool_none, G.isy_bool_bool, G.isy_bool_int, G.isy_bool_str, G.isy_bool_list, G.isy_bool_tuple, G.isy_bool_dict, G.isy_tuple_none, G.isy_tuple_bool, G.isy_tuple_int, G.isy_tuple_str, G.isy_tuple_list, G.isy_tuple_tuple, G.isy_tuple_dict, G.isy_list_none, G.isy_list_bool, G.isy_list_int, G.isy_list_str, G.isy_list_list, G.isy_list_tuple, G.isy_list_dict, G.isy_str_none, G.isy_str_bool, G.isy_str_int, G.isy_str_str, G.isy_str_list, G.isy_str_tuple, G.isy_str_dict, G.isy_dict_none, G.isy_dict_bool, G.isy_dict_int, G.isy_dict_str, G.isy_dict_list, G.isy_dict_tuple, G.isy_dict_dict, G.it_t, G.it_f, G.b_tt, G.b_ft, G.b_nt, G.b_nf, G.b_ta, G.b_fa, G.b_at, G.b_to, G.b_fo, G.lI_0, G.lI_1, G.lI_2, G.lI_3, G.lI_4, G.lI_5, G.lI_m, G.bs_f, G.es_f, G.bb_tt, G.bb_tf, G.bb_ft, G.bb_ff, G.bq_s, G.r_dic, G.k_dic1, G.k_dic2, G.k_dic3, G.k_dic4, G.k_kD1, G.k_kD2, G.k_fl0, G.k_fl1, G.k_pr0, G.k_pr1, G.k_pr2, G.r_dic0, G.d_ixDi, G.d_ixDs, G.d_inGT, G.d_inGL, G.d_ninGT, G.d_ninGL, G.d_inGi, G.d_ninGi, G.k_vals, G.k_items, G.d_setDi, G.dg_nil, G.dg_i, G.dg_s, G.mg_0, G.mg_s, G.dpk_n, G.ky_i, G.ky_s, G.d_eqX, G.d_neX, G.d_inT, G.d_inL, G.d_ninT, G.d_ninL, G.ev_ii, G.ev_bb, G.ev_ss, G.ev_nn, G.ev_tt, G.ev_ll, G.ev_0, G.ev_c, G.ev_c0, G.ev_0c, G.ev_none_bool, G.ev_none_int, G.ev_none_str, G.ev_none_list, G.ev_none_tuple, G.ev_bool_none, G.ev_bool_str, G.ev_bool_list, G.ev_bool_tuple, G.ev_int_none, G.ev_int_str, G.ev_int_list, G.ev_int_tuple, G.ev_str_none, G.ev_str_bool, G.ev_str_int, G.ev_str_list, G.ev_str_tuple, G.ev_list_none, G.ev_list_bool, G.ev_list_int, G.ev_list_str, G.ev_list_tuple, G.ev_tuple_none, G.ev_tuple_bool, G.ev_tuple_int, G.ev_tuple_str, G.ev_tuple_list, G.dec_t, G.not_dec, G.k_popA, G.k_popZ, G.k_pop1, G.r_ext, G.k_ext1, G.k_ext2, G.k_ext3, G.k_ext4, G.r_items, G.k_itemsJ, G.d_listD, G.d_intI, G.d_intB, G.d_strI, G.r_subG, G.k_sub1, G.k_sub2, G.k_sub3, G.k_sub4, G.k_sub5, G.k_sub6, G.k_sub7, G.r_tupL1, G.r_tupL2, G.r_tupL3, G.r_tupL4, G.d_isB, G.d_isnB, G.d_isnN, G.d_revL, G.d_revT, G.r_permA, G.k_perm1, G.k_perm2, G.k_perm3a, G.k_perm3b, G.k_perm3c, G.k_perm3d, G.k_perm3e, Int.reduceEq, Int.reduceLE, Int.reduceLT, Int.reduceAdd, Int.reduceSub, Int.reduceMul, Int.reduceNeg, Nat.reduceAdd, List.nil_append, not_true_eq_false, not_false_eq_true, and_true, true_and, and_false, false_and, or_true, true_or, or_false, false_or, decide_true, decide_false, eq_self, Bool.and_true, Bool.and_false, $ls,*])
  | `(tactic| simp? [$ls,*] at $h:ident) => `(tactic| simp (maxSteps := 1000000) (disch := first | assumption | (simp (disch := decide +kernel) only [G.sl_nil, G.sl_cons, List.cons_append, List.nil_append, G.shN_str, G.shN_tup, G.shN_lst, G.shN_int, G.shN_bool, G.shN_none, G.shA_nil, G.shA_cons, G.b_ta, G.ky_i, G.ky_s]; done) | exact G.len_ok (by simp only [G.sl_nil, G.sl_cons]) | decide | decide +kernel | exact G.mulOk_l (by decide) | exact G.mulOk_r (by decide) | omega) only [G.rb_ok, G.rb_ex, G.rb_bad, G.rb_ite, G.lz, G.ls, G.sz, G.ss, G.r_seq, G.k_seq1, G.k_seq2, G.k_seq3, G.k_seq4, G.r_nx, G.r_bk, G.r_ct, G.r_retN, G.r_ret, G.k_ret, G.r_drop, G.k_drop, G.r_if, G.r_ife, G.k_if, G.r_asg, G.k_asg1, G.k_asg2, G.k_asg3, G.k_sl1, G.k_sl2, G.k_sh1, G.k_sh2, G.k_sh3, G.k_sh4, G.k_sh5, G.r_asgG, G.k_asgG, G.k_asgL, G.k_tg, G.r_nm, G.r_tup, G.r_tup1, G.r_tup3, G.r_tup4, G.r_nil, G.r_cons, G.r_V, G.k_V1, G.k_V2, G.k_V4, G.k_V3, G.r_C, G.p_val, G.p_fr, G.p_sl, G.pb_1, G.pb_2, G.pb_3, G.od_1, G.od_2, G.p_1, G.p_2, G.p_3, G.q_1, G.q_2, G.q_3, G.re_1, G.re_2, G.re_ite, G.st_1, G.st_2, G.st_3, G.r_op2, G.k_op2a, G.k_op2b, G.k_op2c, G.r_op1, G.k_op1, G.ob_some, G.r_said, G.k_said1, G.r_opN, G.k_opN, G.r_pk0, G.r_pk1, G.k_pk, G.r_anil, G.r_acons, G.k_acons, G.k_acons2, G.shs_v0, G.shs_v1, G.shs_v2, G.shs_v3, G.shs_v4, G.om_some, G.r_tupT, G.r_lstT, G.k_dt, G.k_dl, G.k_d1, G.k_d2, G.r_fB, G.k_fB, G.r_and, G.r_or, G.r_andV, G.r_orV, G.r_not, G.r_notV, G.k_not, G.k_notV, G.r_yes, G.r_ch, G.k_ch1, G.k_ch2, G.k_ch3, G.k_ch4, G.k_ch5, G.r_call, G.c1_nil, G.c1_t, G.c1_f, G.c1_s, G.c1_s1, G.c1_s2, G.k_ca, G.k_c1, G.k_c2, G.c2_nil, G.c2_v, G.c2_s, G.c2_s1, G.c2_s3, G.c2_s2, G.k_call, G.k_w1, G.k_w2, G.k_w3, G.k_wite, G.wb_nil, G.wb_none, G.wb_some, G.k_wb1, G.k_wb2, G.wbx_nil, G.wbx_none, G.ap_nil, G.ap_nil2, G.ap_cons, G.ma_nil, G.ma_cons, G.ds_nil, G.ds_none, G.ds_some, G.me_nil, G.me_none, G.me_some, G.ou_0, G.ou_s, G.ob_val, G.ob_own, G.ob_un, G.ob_exc, G.ob_prm, G.le_0, G.le_s, G.k_rf1, G.k_rf2, G.k_rf3, G.k_rf4, G.k_rs1, G.k_rs2, G.r_set, G.k_set1, G.k_set2, G.k_set3, G.k_set4, G.k_set5, G.k_set6, G.k_set7, G.k_set8, G.k_set9, G.r_mut, G.k_mu1, G.k_mu2, G.k_mu3, G.k_mu4, G.k_mu5, G.k_mu6, G.k_mu7, G.k_app, G.k_apps, G.r_par, G.k_par1, G.k_par2, G.k_par3, G.k_par4, G.k_par5, G.r_par3, G.k_p3a, G.k_p3b, G.r_parN, G.k_pn1, G.k_pn2, G.k_nx, G.ev_nil, G.ev_cons, G.k_ev1, G.k_ev2, G.rs_nil, G.rs_val, G.rs_fr, G.rs_sl, G.k_rsS1, G.k_rsS2, G.bn_nil, G.bn_val, G.bn_fr, G.r_rep, G.k_rp1, G.k_rp2, G.k_rp3, G.ixN_last, G.set_last, G.ix_last, G.r_for, G.k_for, G.fo_nil, G.fo_cons, G.k_fo0, G.k_fo1, G.k_fo2, G.k_fo3, G.k_fo4, G.r_turn, G.k_tu0, G.k_tu1, G.k_tu2, G.k_tu3, G.k_tu4, G.r_seqI, G.k_seqI, G.k_seqI1, G.k_seqI3, G.k_seqI5, G.k_seqI6, G.k_seqI4, G.k_seqI2, G.r_rng1, G.k_rng1, G.k_rng1b, G.r_rng2, G.k_rng2, G.k_rng2b, G.rgl_0, G.rgl_1, G.rgl_2, G.rgl_3, G.rgl_4, G.rgl_5, G.rgl_6, G.rgl_7, G.rgl_8, G.rgl_9, G.rgl_10, G.rgl_12, G.rgl_16, G.r1l_1, G.r1l_2, G.r1l_3, G.r1l_4, G.r1l_5, G.r1l_6, G.r1l_8, G.rpl_0, G.rpl_1, G.rpl_2, G.rpl_3, G.rpl_4, G.rpl_5, G.rpl_6, G.rpl_7, G.rpl_8, G.r_lc, G.k_lc, G.l_nil, G.l_cons, G.l_A, G.l_B, G.l_C, G.l_C2, G.l_C3, G.l_S1, G.l_S2, G.l_D, G.k_lc1, G.wi_nil, G.wi_cons, G.mulOk_l, G.mulOk_r, G.r_sl, G.k_sla, G.k_slb, G.k_slc, G.k_sld, G.pt_n, G.pt_s, G.k_pt, G.cu_t, G.cu_l, G.cu_1n, G.cu_2n, G.cu_n1, G.d_add, G.d_addT, G.d_addTs, G.d_addL, G.d_addLs, G.d_sub, G.d_mul, G.d_fdiv, G.d_mod, G.d_neg, G.d_cmp, G.d_ixT, G.d_ixL, G.at_0, G.at_1, G.at_2, G.at_3, G.d_lenL, G.d_lenT, G.d_tupL, G.d_tupT, G.d_all, G.k_all, G.d_any, G.k_any, G.bo_nil, G.bo_cons, G.al_nil, G.al_cons, G.al_map, G.an_nil, G.an_cons, G.an_map, G.id_b, G.bo_map, G.d_max, G.d_min, G.d_listL, G.d_listT, G.d_p18, G.d_p13, G.d_p12, G.d_is, G.d_abs, G.d_repr, G.d_eqS, G.d_neS, G.d_eqI, G.d_neI, G.d_isi, G.isy_int_none, G.isy_int_bool, G.isy_int_int, G.isy_int_str, G.isy_int_list, G.isy_int_tuple, G.isy_int_dict, G.isy_bool_none, G.isy_bool_bool, G.isy_bool_int, G.isy_bool_str, G.isy_bool_list, G.isy_bool_tuple, G.isy_bool_dict, G.isy_tuple_none, G.isy_tuple_bool, G.isy_tuple_int, G.isy_tuple_str, G.isy_tuple_list, G.isy_tuple_tuple, G.isy_tuple_dict, G.isy_list_none, G.isy_list_bool, G.isy_list_int, G.isy_list_str, G.isy_list_list, G.isy_list_tuple, G.isy_list_dict, G.isy_str_none, G.isy_str_bool, G.isy_str_int, G.isy_str_str, G.isy_str_list, G.isy_str_tuple, G.isy_str_dict, G.isy_dict_none, G.isy_dict_bool, G.isy_dict_int, G.isy_dict_str, G.isy_dict_list, G.isy_dict_tuple, G.isy_dict_dict, G.it_t, G.it_f, G.b_tt, G.b_ft, G.b_nt, G.b_nf, G.b_ta, G.b_fa, G.b_at, G.b_to, G.b_fo, G.lI_0, G.lI_1, G.lI_2, G.lI_3, G.lI_4, G.lI_5, G.lI_m, G.bs_f, G.es_f, G.bb_tt, G.bb_tf, G.bb_ft, G.bb_ff, G.bq_s, G.r_dic, G.k_dic1, G.k_dic2, G.k_dic3, G.k_dic4, G.k_kD1, G.k_kD2, G.k_fl0, G.k_fl1, G.k_pr0, G.k_pr1, G.k_pr2, G.r_dic0, G.d_ixDi, G.d_ixDs, G.d_inGT, G.d_inGL, G.d_ninGT, G.d_ninGL, G.d_inGi, G.d_ninGi, G.k_vals, G.k_items, G.d_setDi, G.dg_nil, G.dg_i, G.dg_s, G.mg_0, G.mg_s, G.dpk_n, G.ky_i, G.ky_s, G.d_eqX, G.d_neX, G.d_inT, G.d_inL, G.d_ninT, G.d_ninL, G.ev_ii, G.ev_bb, G.ev_ss, G.ev_nn, G.ev_tt, G.ev_ll, G.ev_0, G.ev_c, G.ev_c0, G.ev_0c, G.ev_none_bool, G.ev_none_int, G.ev_none_str, G.ev_none_list, G.ev_none_tuple, G.ev_bool_none, G.ev_bool_str, G.ev_bool_list, G.ev_bool_tuple, G.ev_int_none, G.ev_int_str, G.ev_int_list, G.ev_int_tuple, G.ev_str_none, G.ev_str_bool, G.ev_str_int, G.ev_str_list, G.ev_str_tuple, G.ev_list_none, G.ev_list_bool, G.ev_list_int, G.ev_list_str, G.ev_list_tuple, G.ev_tuple_none, G.ev_tuple_bool, G.ev_tuple_int, G.ev_tuple_str, G.ev_tuple_list, G.dec_t, G.not_dec, G.k_popA, G.k_popZ, G.k_pop1, G.r_ext, G.k_ext1, G.k_ext2, G.k_ext3, G.k_ext4, G.r_items, G.k_itemsJ, G.d_listD, G.d_intI, G.d_intB, G.d_strI, G.r_subG, G.k_sub1, G.k_sub2, G.k_sub3, G.k_sub4, G.k_sub5, G.k_sub6, G.k_sub7, G.r_tupL1, G.r_tupL2, G.r_tupL3, G.r_tupL4, G.d_isB, G.d_isnB, G.d_isnN, G.d_revL, G.d_revT, G.r_permA, G.k_perm1, G.k_perm2, G.k_perm3a, G.k_perm3b, G.k_perm3c, G.k_perm3d, G.k_perm3e, Int.reduceEq, Int.reduceLE, Int.reduceLT, Int.reduceAdd, Int.reduceSub, Int.reduceMul, Int.reduceNeg, Nat.reduceAdd, List.nil_append, not_true_eq_false, not_false_eq_true, and_true, true_and, and_false, false_and, or_true, true_or, or_false, false_or, decide_true, decide_false, eq_self, Bool.and_true, Bool.and_false, $ls,*] at $h:ident)
/-! ### is_basis, is_description at any value -/
/-! ### members -/
instance (ts : List Sym) : Decidable (KSort ts) := inferInstanceAs (Decidable (ts.Pairwise fun s t => s.k.i < t.k.i))
/-! ### the description -/
end M
namespace M
open PySem PySem.Spec PyProof.Rows L2 G
local macro_rules
  | `(tactic| simp? [$ls,*]) => `(tactic| simp (maxSteps := 1000000) (disch := first | assumption | (simp (disch := decide +kernel) only [G.sl_nil, G.sl_cons, List.cons_append, List.nil_append, G.shN_str, G.shN_tup, G.shN_lst, G.shN_int, G.shN_bool, G.shN_none, G.shA_nil, G.shA_cons, G.b_ta, G.ky_i, G.ky_s]; done) | exact G.len_ok (by simp only [G.sl_nil, G.sl_cons]) | decide | decide +kernel | exact G.mulOk_l (by decide) | exact G.mulOk_r (by decide) | omega) only [G.rb_ok, G.rb_ex, G.rb_bad, G.rb_ite, G.lz, G.ls, G.sz, G.ss, G.r_seq, G.k_seq1, G.k_seq2, G.k_seq3, G.k_seq4, G.r_nx, G.r_bk, G.r_ct, G.r_retN, G.r_ret, G.k_ret, G.r_drop, G.k_drop, G.r_if, G.r_ife, G.k_if, G.r_asg, G.k_asg1, G.k_asg2, G.k_asg3, G.k_sl1, G.k_sl2, G.k_sh1, G.k_sh2, G.k_sh3, G.k_sh4, G.k_sh5, G.r_asgG, G.k_asgG, G.k_asgL, G.k_tg, G.r_nm, G.r_tup, G.r_tup1, G.r_tup3, G.r_tup4, G.r_nil, G.r_cons, G.r_V, G.k_V1, G.k_V2, G.k_V4, G.k_V3, G.r_C, G.p_val, G.p_fr, G.p_sl, G.pb_1, G.pb_2, G.pb_3, G.od_1, G.od_2, G.p_1, G.p_2, G.p_3, G.q_1, G.q_2, G.q_3, G.re_1, G.re_2, G.re_ite, G.st_1, G.st_2, G.st_3, G.r_op2, G.k_op2a, G.k_op2b, G.k_op2c, G.r_op1, G.k_op1, G.ob_some, G.r_said, G.k_said1, G.r_opN, G.k_opN, G.r_pk0, G.r_pk1, G.k_pk, G.r_anil, G.r_acons, G.k_acons, G.k_acons2, G.shs_v0, G.shs_v1, G.shs_v2, G.shs_v3, G.shs_v4, G.om_some, G.r_tupT, G.r_lstT, G.k_dt, G.k_dl, G.k_d1, G.k_d2, G.r_fB, G.k_fB, G.r_and, G.r_or, G.r_andV, G.r_orV, G.r_not, G.r_notV, G.k_not, G.k_notV, G.r_yes, G.r_ch, G.k_ch1, G.k_ch2, G.k_ch3, G.k_ch4, G.k_ch5, G.r_call, G.c1_nil, G.c1_t, G.c1_f, G.c1_s, G.c1_s1, G.c1_s2, G.k_ca, G.k_c1, G.k_c2, G.c2_nil, G.c2_v, G.c2_s, G.c2_s1, G.c2_s3, G.c2_s2, G.k_call, G.k_w1, G.k_w2, G.k_w3, G.k_wite, G.wb_nil, G.wb_none, G.wb_some, G.k_wb1, G.k_wb2, G.wbx_nil, G.wbx_none, G.ap_nil, G.ap_nil2, G.ap_cons, G.ma_nil, G.ma_cons, G.ds_nil, G.ds_none, G.ds_some, G.me_nil, G.me_none, G.me_some, G.ou_0, G.ou_s, G.ob_val, G.ob_own, G.ob_un, G.ob_exc, G.ob_prm, G.le_0, G.le_s, G.k_rf1, G.k_rf2, G.k_rf3, G.k_rf4, G.k_rs1, G.k_rs2, G.r_set, G.k_set1, G.k_set2, G.k_set3, G.k_set4, G.k_set5, G.k_set6, G.k_set7, G.k_set8, G.k_set9, G.r_mut, G.k_mu1, G.k_mu2, G.k_mu3, G.k_mu4, G.k_mu5, G.k_mu6, G.k_mu7, G.k_app, G.k_apps, G.r_par, G.k_par1, G.k_par2, G.k_par3, G.k_par4, G.k_par5, G.r_par3, G.k_p3a, G.k_p3b, G.r_parN, G.k_pn1, G.k_pn2, G.k_nx, G.ev_nil, G.ev_cons, G.k_ev1, G.k_ev2, G.rs_nil, G.rs_val, G.rs_fr, G.rs_sl, G.k_rsS1, G.k_rsS2, G.bn_nil, G.bn_val, G.bn_fr, G.r_rep, G.k_rp1, G.k_rp2, G.k_rp3, G.ixN_last, G.set_last, G.ix_last, G.r_for, G.k_for, G.fo_nil, G.fo_cons, G.k_fo0, G.k_fo1, G.k_fo2, G.k_fo3, G.k_fo4, G.r_turn, G.k_tu0, G.k_tu1, G.k_tu2, G.k_tu3, G.k_tu4, G.r_seqI, G.k_seqI, G.k_seqI1, G.k_seqI3, G.k_seqI5, G.k_seqI6, G.k_seqI4, G.k_seqI2, G.r_rng1, G.k_rng1, G.k_rng1b, G.r_rng2, G.k_rng2, G.k_rng2b, G.rgl_0, G.rgl_1, G.rgl_2, G.rgl_3, G.rgl_4, G.rgl_5, G.rgl_6, G.rgl_7, G.rgl_8, G.rgl_9, G.rgl_10, G.rgl_12, G.rgl_16, G.r1l_1, G.r1l_2, G.r1l_3, G.r1l_4, G.r1l_5, G.r1l_6, G.r1l_8, G.rpl_0, G.rpl_1, G.rpl_2, G.rpl_3, G.rpl_4, G.rpl_5, G.rpl_6, G.rpl_7, G.rpl_8, G.r_lc, G.k_lc, G.l_nil, G.l_cons, G.l_A, G.l_B, G.l_C, G.l_C2, G.l_C3, G.l_S1, G.l_S2, G.l_D, G.k_lc1, G.wi_nil, G.wi_cons, G.mulOk_l, G.mulOk_r, G.r_sl, G.k_sla, G.k_slb, G.k_slc, G.k_sld, G.pt_n, G.pt_s, G.k_pt, G.cu_t, G.cu_l, G.cu_1n, G.cu_2n, G.cu_n1, G.d_add, G.d_addT, G.d_addTs, G.d_addL, G.d_addLs, G.d_sub, G.d_mul, G.d_fdiv, G.d_mod, G.d_neg, G.d_cmp, G.d_ixT, G.d_ixL, G.at_0, G.at_1, G.at_2, G.at_3, G.d_lenL, G.d_lenT, G.d_tupL, G.d_tupT, G.d_all, G.k_all, G.d_any, G.k_any, G.bo_nil, G.bo_cons, G.al_nil, G.al_cons, G.al_map, G.an_nil, G.an_cons, G.an_map, G.id_b, G.bo_map, G.d_max, G.d_min, G.d_listL, G.d_listT, G.d_p18, G.d_p13, G.d_p12, G.d_is, G.d_abs, G.d_repr, G.d_eqS, G.d_neS, G.d_eqI, G.d_neI, G.d_isi, G.isy_int_none, G.isy_int_bool, G.isy_int_int, G.isy_int_str, G.isy_int_list, G.isy_int_tuple, G.isy_int_dict, G.isy_bool_none, G.isy_bool_bool, G.isy_bool_int, G.isy_bool_str, G.isy_bool_list, G.isy_bool_tuple, G.isy_bool_dict, G.isy_tuple_none, G.isy_tuple_bool, G.isy_tuple_int, G.isy_tuple_str, G.isy_tuple_list, G.isy_tuple_tuple, G.isy_tuple_dict, G.isy_list_none, G.isy_list_bool, G.isy_list_int, G.isy_list_str, G.isy_list_list, G.isy_list_tuple, G.isy_list_dict, G.isy_str_none, G.isy_str_bool, G.isy_str_int, G.isy_str_str, G.isy_str_list, G.isy_str_tuple, G.isy_str_dict, G.isy_dict_none, G.isy_dict_bool, G.isy_dict_int, G.isy_dict_str, G.isy_dict_list, G.isy_dict_tuple, G.isy_dict_dict, G.it_t, G.it_f, G.b_tt, G.b_ft, G.b_nt, G.b_nf, G.b_ta, G.b_fa, G.b_at, G.b_to, G.b_fo, G.lI_0, G.lI_1, G.lI_2, G.lI_3, G.lI_4, G.lI_5, G.lI_m, G.bs_f, G.es_f, G.bb_tt, G.bb_tf, G.bb_ft, G.bb_ff, G.bq_s, G.r_dic, G.k_dic1, G.k_dic2, G.k_dic3, G.k_dic4, G.k_kD1, G.k_kD2, G.k_fl0, G.k_fl1, G.k_pr0, G.k_pr1, G.k_pr2, G.r_dic0, G.d_ixDi, G.d_ixDs, G.d_inGT, G.d_inGL, G.d_ninGT, G.d_ninGL, G.d_inGi, G.d_ninGi, G.k_vals, G.k_items, G.d_setDi, G.dg_nil, G.dg_i, G.dg_s, G.mg_0, G.mg_s, G.dpk_n, G.ky_i, G.ky_s, G.d_eqX, G.d_neX, G.d_inT, G.d_inL, G.d_ninT, G.d_ninL, G.ev_ii, G.ev_bb, G.ev_ss, G.ev_nn, G.ev_tt, G.ev_ll, G.ev_0, G.ev_c, G.ev_c0, G.ev_0c, G.ev_none_bool, G.ev_none_int, G.ev_none_str, G.ev_none_list, G.ev_none_tuple, G.ev_bool_none, G.ev_bool_str, G.ev_bool_list, G.ev_bool_tuple, G.ev_int_none, G.ev_int_str, G.ev_int_list, G.ev_int_tuple, G.ev_str_none, G.ev_str_bool, G.ev_str_int, G.ev_str_list, G.ev_str_tuple, G.ev_list_none, G.ev_list_bool, G.ev_list_int, G.ev_list_str, G.ev_list_tuple, G.ev_tuple_none, G.ev_tuple_bool, G.ev_tuple_int, G.ev_tuple_str, G.ev_tuple_list, G.dec_t, G.not_dec, G.k_popA, G.k_popZ, G.k_pop1, G.r_ext, G.k_ext1, G.k_ext2, G.k_ext3, G.k_ext4, G.r_items, G.k_itemsJ, G.d_listD, G.d_intI, G.d_intB, G.d_strI, G.r_subG, G.k_sub1, G.k_sub2, G.k_sub3, G.k_sub4, G.k_sub5, G.k_sub6, G.k_sub7, G.r_tupL1, G.r_tupL2, G.r_tupL3, G.r_tupL4, G.d_isB, G.d_isnB, G.d_isnN, G.d_revL, G.d_revT, G.r_permA, G.k_perm1, G.k_perm2, G.k_perm3a, G.k_perm3b, G.k_perm3c, G.k_perm3d, G.k_perm3e, Int.reduceEq, Int.reduceLE, Int.reduceLT, Int.reduceAdd, Int.reduceSub, Int.reduceMul, Int.reduceNeg, Nat.reduceAdd, List.nil_append, not_true_eq_false, not_false_eq_true, and_true, true_and, and_false, false_and, or_true, true_or, or_false, false_or, decide_true, decide_false, eq_self, Bool.and_true, Bool.and_false, $ls,*])
  | `(tactic| simp? [$ls,*] at $h:ident) => `(tactic| simp (maxSteps := 1000000) (disch := first | assumption | (simp (disch := decide +kernel) only [G.sl_nil, G.sl_cons, List.cons_append, List.nil_append, G.shN_str, G.shN_tup, G.shN_lst, G.shN_int, G.shN_bool, G.shN_none, G.shA_nil, G.shA_cons, G.b_ta, G.ky_i, G.ky_s]; done) | exact G.len_ok (by simp only [G.sl_nil, G.sl_cons]) | decide | decide +kernel | exact G.mulOk_l (by decide) | exact G.mulOk_r (by decide) | omega) only [G.rb_ok, G.rb_ex, G.rb_bad, G.rb_ite, G.lz, G.ls, G.sz, G.ss, G.r_seq, G.k_seq1, G.k_seq2, G.k_seq3, G.k_seq4, G.r_nx, G.r_bk, G.r_ct, G.r_retN, G.r_ret, G.k_ret, G.r_drop, G.k_drop, G.r_if, G.r_ife, G.k_if, G.r_asg, G.k_asg1, G.k_asg2, G.k_asg3, G.k_sl1, G.k_sl2, G.k_sh1, G.k_sh2, G.k_sh3, G.k_sh4, G.k_sh5, G.r_asgG, G.k_asgG, G.k_asgL, G.k_tg, G.r_nm, G.r_tup, G.r_tup1, G.r_tup3, G.r_tup4, G.r_nil, G.r_cons, G.r_V, G.k_V1, G.k_V2, G.k_V4, G.k_V3, G.r_C, G.p_val, G.p_fr, G.p_sl, G.pb_1, G.pb_2, G.pb_3, G.od_1, G.od_2, G.p_1, G.p_2, G.p_3, G.q_1, G.q_2, G.q_3, G.re_1, G.re_2, G.re_ite, G.st_1, G.st_2, G.st_3, G.r_op2, G.k_op2a, G.k_op2b, G.k_op2c, G.r_op1, G.k_op1, G.ob_some, G.r_said, G.k_said1, G.r_opN, G.k_opN, G.r_pk0, G.r_pk1, G.k_pk, G.r_anil, G.r_acons, G.k_acons, G.k_acons2, G.shs_v0, G.shs_v1, G.shs_v2, G.shs_v3, G.shs_v4, G.om_some, G.r_tupT, G.r_lstT, G.k_dt, G.k_dl, G.k_d1, G.k_d2, G.r_fB, G.k_fB, G.r_and, G.r_or, G.r_andV, G.r_orV, G.r_not, G.r_notV, G.k_not, G.k_notV, G.r_yes, G.r_ch, G.k_ch1, G.k_ch2, G.k_ch3, G.k_ch4, G.k_ch5, G.r_call, G.c1_nil, G.c1_t, G.c1_f, G.c1_s, G.c1_s1, G.c1_s2, G.k_ca, G.k_c1, G.k_c2, G.c2_nil, G.c2_v, G.c2_s, G.c2_s1, G.c2_s3, G.c2_s2, G.k_call, G.k_w1, G.k_w2, G.k_w3, G.k_wite, G.wb_nil, G.wb_none, G.wb_some, G.k_wb1, G.k_wb2, G.wbx_nil, G.wbx_none, G.ap_nil, G.ap_nil2, G.ap_cons, G.ma_nil, G.ma_cons, G.ds_nil, G.ds_none, G.ds_some, G.me_nil, G.me_none, G.me_some, G.ou_0, G.ou_s, G.ob_val, G.ob_own, G.ob_un, G.ob_exc, G.ob_prm, G.le_0, G.le_s, G.k_rf1, G.k_rf2, G.k_rf3, G.k_rf4, G.k_rs1, G.k_rs2, G.r_set, G.k_set1, G.k_set2, G.k_set3, G.k_set4, G.k_set5, G.k_set6, G.k_set7, G.k_set8, G.k_set9, G.r_mut, G.k_mu1, G.k_mu2, G.k_mu3, G.k_mu4, G.k_mu5, G.k_mu6, G.k_mu7, G.k_app, G.k_apps, G.r_par, G.k_par1, G.k_par2, G.k_par3, G.k_par4, G.k_par5, G.r_par3, G.k_p3a, G.k_p3b, G.r_parN, G.k_pn1, G.k_pn2, G.k_nx, G.ev_nil, G.ev_cons, G.k_ev1, G.k_ev2, G.rs_nil, G.rs_val, G.rs_fr, G.rs_sl, G.k_rsS1, G.k_rsS2, G.bn_nil, G.bn_val, G.bn_fr, G.r_rep, G.k_rp1, G.k_rp2, G.k_rp3, G.ixN_last, G.set_last, G.ix_last, G.r_for, G.k_for, G.fo_nil, G.fo_cons, G.k_fo0, G.k_fo1, G.k_fo2, G.k_fo3, G.k_fo4, G.r_turn, G.k_tu0, G.k_tu1, G.k_tu2, G.k_tu3, G.k_tu4, G.r_seqI, G.k_seqI, G.k_seqI1, G.k_seqI3, G.k_seqI5, G.k_seqI6, G.k_seqI4, G.k_seqI2, G.r_rng1, G.k_rng1, G.k_rng1b, G.r_rng2, G.k_rng2, G.k_rng2b, G.rgl_0, G.rgl_1, G.rgl_2, G.rgl_3, G.rgl_4, G.rgl_5, G.rgl_6, G.rgl_7, G.rgl_8, G.rgl_9, G.rgl_10, G.rgl_12, G.rgl_16, G.r1l_1, G.r1l_2, G.r1l_3, G.r1l_4, G.r1l_5, G.r1l_6, G.r1l_8, G.rpl_0, G.rpl_1, G.rpl_2, G.rpl_3, G.rpl_4, G.rpl_5, G.rpl_6, G.rpl_7, G.rpl_8, G.r_lc, G.k_lc, G.l_nil, G.l_cons, G.l_A, G.l_B, G.l_C, G.l_C2, G.l_C3, G.l_S1, G.l_S2, G.l_D, G.k_lc1, G.wi_nil, G.wi_cons, G.mulOk_l, G.mulOk_r, G.r_sl, G.k_sla, G.k_slb, G.k_slc, G.k_sld, G.pt_n, G.pt_s, G.k_pt, G.cu_t, G.cu_l, G.cu_1n, G.cu_2n, G.cu_n1, G.d_add, G.d_addT, G.d_addTs, G.d_addL, G.d_addLs, G.d_sub, G.d_mul, G.d_fdiv, G.d_mod, G.d_neg, G.d_cmp, G.d_ixT, G.d_ixL, G.at_0, G.at_1, G.at_2, G.at_3, G.d_lenL, G.d_lenT, G.d_tupL, G.d_tupT, G.d_all, G.k_all, G.d_any, G.k_any, G.bo_nil, G.bo_cons, G.al_nil, G.al_cons, G.al_map, G.an_nil, G.an_cons, G.an_map, G.id_b, G.bo_map, G.d_max, G.d_min, G.d_listL, G.d_listT, G.d_p18, G.d_p13, G.d_p12, G.d_is, G.d_abs, G.d_repr, G.d_eqS, G.d_neS, G.d_eqI, G.d_neI, G.d_isi, G.isy_int_none, G.isy_int_bool, G.isy_int_int, G.isy_int_str, G.isy_int_list, G.isy_int_tuple, G.isy_int_dict, G.isy_bool_none, G.isy_bool_bool, G.isy_bool_int, G.isy_bool_str, G.isy_bool_list, G.isy_bool_tuple, G.isy_bool_dict, G.isy_tuple_none, G.isy_tuple_bool, G.isy_tuple_int, G.isy_tuple_str, G.isy_tuple_list, G.isy_tuple_tuple, G.isy_tuple_dict, G.isy_list_none, G.isy_list_bool, G.isy_list_int, G.isy_list_str, G.isy_list_list, G.isy_list_tuple, G.isy_list_dict, G.isy_str_none, G.isy_str_bool, G.isy_str_int, G.isy_str_str, G.isy_str_list, G.isy_str_tuple, G.isy_str_dict, G.isy_dict_none, G.isy_dict_bool, G.isy_dict_int, G.isy_dict_str, G.isy_dict_list, G.isy_dict_tuple, G.isy_dict_dict, G.it_t, G.it_f, G.b_tt, G.b_ft, G.b_nt, G.b_nf, G.b_ta, G.b_fa, G.b_at, G.b_to, G.b_fo, G.lI_0, G.lI_1, G.lI_2, G.lI_3, G.lI_4, G.lI_5, G.lI_m, G.bs_f, G.es_f, G.bb_tt, G.bb_tf, G.bb_ft, G.bb_ff, G.bq_s, G.r_dic, G.k_dic1, G.k_dic2, G.k_dic3, G.k_dic4, G.k_kD1, G.k_kD2, G.k_fl0, G.k_fl1, G.k_pr0, G.k_pr1, G.k_pr2, G.r_dic0, G.d_ixDi, G.d_ixDs, G.d_inGT, G.d_inGL, G.d_ninGT, G.d_ninGL, G.d_inGi, G.d_ninGi, G.k_vals, G.k_items, G.d_setDi, G.dg_nil, G.dg_i, G.dg_s, G.mg_0, G.mg_s, G.dpk_n, G.ky_i, G.ky_s, G.d_eqX, G.d_neX, G.d_inT, G.d_inL, G.d_ninT, G.d_ninL, G.ev_ii, G.ev_bb, G.ev_ss, G.ev_nn, G.ev_tt, G.ev_ll, G.ev_0, G.ev_c, G.ev_c0, G.ev_0c, G.ev_none_bool, G.ev_none_int, G.ev_none_str, G.ev_none_list, G.ev_none_tuple, G.ev_bool_none, G.ev_bool_str, G.ev_bool_list, G.ev_bool_tuple, G.ev_int_none, G.ev_int_str, G.ev_int_list, G.ev_int_tuple, G.ev_str_none, G.ev_str_bool, G.ev_str_int, G.ev_str_list, G.ev_str_tuple, G.ev_list_none, G.ev_list_bool, G.ev_list_int, G.ev_list_str, G.ev_list_tuple, G.ev_tuple_none, G.ev_tuple_bool, G.ev_tuple_int, G.ev_tuple_str, G.ev_tuple_list, G.dec_t, G.not_dec, G.k_popA, G.k_popZ, G.k_pop1, G.r_ext, G.k_ext1, G.k_ext2, G.k_ext3, G.k_ext4, G.r_items, G.k_itemsJ, G.d_listD, G.d_intI, G.d_intB, G.d_strI, G.r_subG, G.k_sub1, G.k_sub2, G.k_sub3, G.k_sub4, G.k_sub5, G.k_sub6, G.k_sub7, G.r_tupL1, G.r_tupL2, G.r_tupL3, G.r_tupL4, G.d_isB, G.d_isnB, G.d_isnN, G.d_revL, G.d_revT, G.r_permA, G.k_perm1, G.k_perm2, G.k_perm3a, G.k_perm3b, G.k_perm3c, G.k_perm3d, G.k_perm3e, Int.reduceEq, Int.reduceLE, Int.reduceLT, Int.reduceAdd, Int.reduceSub, Int.reduceMul, Int.reduceNeg, Nat.reduceAdd, List.nil_append, not_true_eq_false, not_false_eq_true, and_true, true_and, and_false, false_and, or_true, true_or, or_false, false_or, decide_true, decide_false, eq_self, Bool.and_true, Bool.and_false, $ls,*] at $h:ident)
/-! ### kinds that are composed of some kinds -/
def KG (ks : List Kd) (x : Kd) : Prop := ∃ l : List Kd, (∀ k ∈ l, k ∈ ks) ∧ x = l.foldl Kd.mul .k0
theorem KG.one (ks : List Kd) : KG ks .k0 := ⟨[], fun _ h => (nomatch h), rfl⟩
theorem KG.mul {ks : List Kd} {x k : Kd} (h : KG ks x) (hk : k ∈ ks) : KG ks (x.mul k) := by
  obtain ⟨l, h1, rfl⟩ := h
  refine ⟨l ++ [k], fun z hz => ?_, by rw [List.foldl_append]; rfl⟩
  rcases List.mem_append.mp hz with q | q
  · exact h1 z q
  · rw [List.mem_singleton.mp q]; exact hk
theorem KG.of {ks : List Kd} {k : Kd} (hk : k ∈ ks) : KG ks k := by
  have := (KG.one ks).mul hk
  rwa [Kd.k0_mul] at this
/-! ### generators of a description -/
def kgC (l : List Kd) : List Kd := (List.range 3).foldl (fun F _ => (F ++ F.flatMap fun x => l.map x.mul).eraseDups) [.k0]
theorem kgC_KG (l : List Kd) : ∀ x ∈ kgC l, KG l x := by
  have step : ∀ (n : Nat) (F : List Kd), (∀ x ∈ F, KG l x) → ∀ x ∈ (List.range n).foldl (fun F _ => (F ++ F.flatMap fun x => l.map x.mul).eraseDups) F, KG l x := by
    intro n
    induction n with
    | zero => intro F h; exact h
    | succ n ih =>
      intro F h
      rw [List.range_succ, List.foldl_append]
      intro x hx
      have hx := List.mem_eraseDups.mp hx
      rcases List.mem_append.mp hx with q | q
      · exact ih F h x q
      · obtain ⟨y, hy, q⟩ := List.mem_flatMap.mp q
        obtain ⟨k, hk, rfl⟩ := List.mem_map.mp q
        exact (ih F h y hy).mul hk
  exact step 3 [.k0] fun x hx => by rw [List.mem_singleton.mp hx]; exact KG.one l
def allK8 : List Kd := [.k0, .k1, .k2, .k3, .k4, .k5, .k6, .k7]
theorem mem_allK8 (k : Kd) : k ∈ allK8 := by cases k <;> decide
theorem no_four : (allK8.all fun a => allK8.all fun b => allK8.all fun c => allK8.all fun d => decide (a ∈ kgC []) || (decide (b ∈ kgC [a]) || (decide (c ∈ kgC [a, b]) || decide (d ∈ kgC [a, b, c])))) = true := by decide +kernel
/-- each kind is not composed of those before it -/
def Ind (l : List Kd) : Prop := ∀ i k, l[i]? = some k → ¬ KG (l.take i) k
theorem Ind.le {l : List Kd} (h : Ind l) : l.length ≤ 3 := by
  match l, h with
  | [], _ => exact Nat.zero_le _
  | [_], _ => simp
  | [_, _], _ => simp
  | [_, _, _], _ => simp
  | a :: b :: c :: d :: r, h =>
    exfalso
    have q := no_four
    simp only [List.all_eq_true] at q
    have q := q a (mem_allK8 a) b (mem_allK8 b) c (mem_allK8 c) d (mem_allK8 d)
    simp only [Bool.or_eq_true, decide_eq_true_eq] at q
    rcases q with q | q | q | q
    · exact h 0 a rfl (kgC_KG _ _ q)
    · exact h 1 b rfl (kgC_KG _ _ q)
    · exact h 2 c rfl (kgC_KG _ _ q)
    · exact h 3 d rfl (kgC_KG _ _ q)
theorem KG.mono {l m : List Kd} {x : Kd} (h : KG l x) (hs : ∀ k ∈ l, k ∈ m) : KG m x := by
  obtain ⟨a, h1, h2⟩ := h
  exact ⟨a, fun k hk => hs k (h1 k hk), h2⟩
structure Chs (ms C : List Sym) : Prop where
  sub : ∀ m ∈ C, m ∈ ms
  ind : Ind (C.map Sym.k)
theorem Chs.le {ms C : List Sym} (h : Chs ms C) : C.length ≤ 3 := by have := h.ind.le; rwa [List.length_map] at this
end M
namespace M
open PySem PySem.Spec PyProof.Rows L2 G
local macro_rules
  | `(tactic| simp? [$ls,*]) => `(tactic| simp (maxSteps := 1000000) (disch := first | assumption | (simp (disch := decide +kernel) only [G.sl_nil, G.sl_cons, List.cons_append, List.nil_append, G.shN_str, G.shN_tup, G.shN_lst, G.shN_int, G.shN_bool, G.shN_none, G.shA_nil, G.shA_cons, G.b_ta, G.ky_i, G.ky_s]; done) | exact G.len_ok (by simp only [G.sl_nil, G.sl_cons]) | decide | decide +kernel | exact G.mulOk_l (by decide) | exact G.mulOk_r (by decide) | omega) only [G.rb_ok, G.rb_ex, G.rb_bad, G.rb_ite, G.lz, G.ls, G.sz, G.ss, G.r_seq, G.k_seq1, G.k_seq2, G.k_seq3, G.k_seq4, G.r_nx, G.r_bk, G.r_ct, G.r_retN, G.r_ret, G.k_ret, G.r_drop, G.k_drop, G.r_if, G.r_ife, G.k_if, G.r_asg, G.k_asg1, G.k_asg2, G.k_asg3, G.k_sl1, G.k_sl2, G.k_sh1, G.k_sh2, G.k_sh3, G.k_sh4, G.k_sh5, G.r_asgG, G.k_asgG, G.k_asgL, G.k_tg, G.r_nm, G.r_tup, G.r_tup1, G.r_tup3, G.r_tup4, G.r_nil, G.r_cons, G.r_V, G.k_V1, G.k_V2, G.k_V4, G.k_V3, G.r_C, G.p_val, G.p_fr, G.p_sl, G.pb_1, G.pb_2, G.pb_3, G.od_1, G.od_2, G.p_1, G.p_2, G.p_3, G.q_1, G.q_2, G.q_3, G.re_1, G.re_2, G.re_ite, G.st_1, G.st_2, G.st_3, G.r_op2, G.k_op2a, G.k_op2b, G.k_op2c, G.r_op1, G.k_op1, G.ob_some, G.r_said, G.k_said1, G.r_opN, G.k_opN, G.r_pk0, G.r_pk1, G.k_pk, G.r_anil, G.r_acons, G.k_acons, G.k_acons2, G.shs_v0, G.shs_v1, G.shs_v2, G.shs_v3, G.shs_v4, G.om_some, G.r_tupT, G.r_lstT, G.k_dt, G.k_dl, G.k_d1, G.k_d2, G.r_fB, G.k_fB, G.r_and, G.r_or, G.r_andV, G.r_orV, G.r_not, G.r_notV, G.k_not, G.k_notV, G.r_yes, G.r_ch, G.k_ch1, G.k_ch2, G.k_ch3, G.k_ch4, G.k_ch5, G.r_call, G.c1_nil, G.c1_t, G.c1_f, G.c1_s, G.c1_s1, G.c1_s2, G.k_ca, G.k_c1, G.k_c2, G.c2_nil, G.c2_v, G.c2_s, G.c2_s1, G.c2_s3, G.c2_s2, G.k_call, G.k_w1, G.k_w2, G.k_w3, G.k_wite, G.wb_nil, G.wb_none, G.wb_some, G.k_wb1, G.k_wb2, G.wbx_nil, G.wbx_none, G.ap_nil, G.ap_nil2, G.ap_cons, G.ma_nil, G.ma_cons, G.ds_nil, G.ds_none, G.ds_some, G.me_nil, G.me_none, G.me_some, G.ou_0, G.ou_s, G.ob_val, G.ob_own, G.ob_un, G.ob_exc, G.ob_prm, G.le_0, G.le_s, G.k_rf1, G.k_rf2, G.k_rf3, G.k_rf4, G.k_rs1, G.k_rs2, G.r_set, G.k_set1, G.k_set2, G.k_set3, G.k_set4, G.k_set5, G.k_set6, G.k_set7, G.k_set8, G.k_set9, G.r_mut, G.k_mu1, G.k_mu2, G.k_mu3, G.k_mu4, G.k_mu5, G.k_mu6, G.k_mu7, G.k_app, G.k_apps, G.r_par, G.k_par1, G.k_par2, G.k_par3, G.k_par4, G.k_par5, G.r_par3, G.k_p3a, G.k_p3b, G.r_parN, G.k_pn1, G.k_pn2, G.k_nx, G.ev_nil, G.ev_cons, G.k_ev1, G.k_ev2, G.rs_nil, G.rs_val, G.rs_fr, G.rs_sl, G.k_rsS1, G.k_rsS2, G.bn_nil, G.bn_val, G.bn_fr, G.r_rep, G.k_rp1, G.k_rp2, G.k_rp3, G.ixN_last, G.set_last, G.ix_last, G.r_for, G.k_for, G.fo_nil, G.fo_cons, G.k_fo0, G.k_fo1, G.k_fo2, G.k_fo3, G.k_fo4, G.r_turn, G.k_tu0, G.k_tu1, G.k_tu2, G.k_tu3, G.k_tu4, G.r_seqI, G.k_seqI, G.k_seqI1, G.k_seqI3, G.k_seqI5, G.k_seqI6, G.k_seqI4, G.k_seqI2, G.r_rng1, G.k_rng1, G.k_rng1b, G.r_rng2, G.k_rng2, G.k_rng2b, G.rgl_0, G.rgl_1, G.rgl_2, G.rgl_3, G.rgl_4, G.rgl_5, G.rgl_6, G.rgl_7, G.rgl_8, G.rgl_9, G.rgl_10, G.rgl_12, G.rgl_16, G.r1l_1, G.r1l_2, G.r1l_3, G.r1l_4, G.r1l_5, G.r1l_6, G.r1l_8, G.rpl_0, G.rpl_1, G.rpl_2, G.rpl_3, G.rpl_4, G.rpl_5, G.rpl_6, G.rpl_7, G.rpl_8, G.r_lc, G.k_lc, G.l_nil, G.l_cons, G.l_A, G.l_B, G.l_C, G.l_C2, G.l_C3, G.l_S1, G.l_S2, G.l_D, G.k_lc1, G.wi_nil, G.wi_cons, G.mulOk_l, G.mulOk_r, G.r_sl, G.k_sla, G.k_slb, G.k_slc, G.k_sld, G.pt_n, G.pt_s, G.k_pt, G.cu_t, G.cu_l, G.cu_1n, G.cu_2n, G.cu_n1, G.d_add, G.d_addT, G.d_addTs, G.d_addL, G.d_addLs, G.d_sub, G.d_mul, G.d_fdiv, G.d_mod, G.d_neg, G.d_cmp, G.d_ixT, G.d_ixL, G.at_0, G.at_1, G.at_2, G.at_3, G.d_lenL, G.d_lenT, G.d_tupL, G.d_tupT, G.d_all, G.k_all, G.d_any, G.k_any, G.bo_nil, G.bo_cons, G.al_nil, G.al_cons, G.al_map, G.an_nil, G.an_cons, G.an_map, G.id_b, G.bo_map, G.d_max, G.d_min, G.d_listL, G.d_listT, G.d_p18, G.d_p13, G.d_p12, G.d_is, G.d_abs, G.d_repr, G.d_eqS, G.d_neS, G.d_eqI, G.d_neI, G.d_isi, G.isy_int_none, G.isy_int_bool, G.isy_int_int, G.isy_int_str, G.isy_int_list, G.isy_int_tuple, G.isy_int_dict, G.isy_bool_none, G.isy_bool_bool, G.isy_bool_int, G.isy_bool_str, G.isy_bool_list, G.isy_bool_tuple, G.isy_bool_dict, G.isy_tuple_none, G.isy_tuple_bool, G.isy_tuple_int, G.isy_tuple_str, G.isy_tuple_list, G.isy_tuple_tuple, G.isy_tuple_dict, G.isy_list_none, G.isy_list_bool, G.isy_list_int, G.isy_list_str, G.isy_list_list, G.isy_list_tuple, G.isy_list_dict, G.isy_str_none, G.isy_str_bool, G.isy_str_int, G.isy_str_str, G.isy_str_list, G.isy_str_tuple, G.isy_str_dict, G.isy_dict_none, G.isy_dict_bool, G.isy_dict_int, G.isy_dict_str, G.isy_dict_list, G.isy_dict_tuple, G.isy_dict_dict, G.it_t, G.it_f, G.b_tt, G.b_ft, G.b_nt, G.b_nf, G.b_ta, G.b_fa, G.b_at, G.b_to, G.b_fo, G.lI_0, G.lI_1, G.lI_2, G.lI_3, G.lI_4, G.lI_5, G.lI_m, G.bs_f, G.es_f, G.bb_tt, G.bb_tf, G.bb_ft, G.bb_ff, G.bq_s, G.r_dic, G.k_dic1, G.k_dic2, G.k_dic3, G.k_dic4, G.k_kD1, G.k_kD2, G.k_fl0, G.k_fl1, G.k_pr0, G.k_pr1, G.k_pr2, G.r_dic0, G.d_ixDi, G.d_ixDs, G.d_inGT, G.d_inGL, G.d_ninGT, G.d_ninGL, G.d_inGi, G.d_ninGi, G.k_vals, G.k_items, G.d_setDi, G.dg_nil, G.dg_i, G.dg_s, G.mg_0, G.mg_s, G.dpk_n, G.ky_i, G.ky_s, G.d_eqX, G.d_neX, G.d_inT, G.d_inL, G.d_ninT, G.d_ninL, G.ev_ii, G.ev_bb, G.ev_ss, G.ev_nn, G.ev_tt, G.ev_ll, G.ev_0, G.ev_c, G.ev_c0, G.ev_0c, G.ev_none_bool, G.ev_none_int, G.ev_none_str, G.ev_none_list, G.ev_none_tuple, G.ev_bool_none, G.ev_bool_str, G.ev_bool_list, G.ev_bool_tuple, G.ev_int_none, G.ev_int_str, G.ev_int_list, G.ev_int_tuple, G.ev_str_none, G.ev_str_bool, G.ev_str_int, G.ev_str_list, G.ev_str_tuple, G.ev_list_none, G.ev_list_bool, G.ev_list_int, G.ev_list_str, G.ev_list_tuple, G.ev_tuple_none, G.ev_tuple_bool, G.ev_tuple_int, G.ev_tuple_str, G.ev_tuple_list, G.dec_t, G.not_dec, G.k_popA, G.k_popZ, G.k_pop1, G.r_ext, G.k_ext1, G.k_ext2, G.k_ext3, G.k_ext4, G.r_items, G.k_itemsJ, G.d_listD, G.d_intI, G.d_intB, G.d_strI, G.r_subG, G.k_sub1, G.k_sub2, G.k_sub3, G.k_sub4, G.k_sub5, G.k_sub6, G.k_sub7, G.r_tupL1, G.r_tupL2, G.r_tupL3, G.r_tupL4, G.d_isB, G.d_isnB, G.d_isnN, G.d_revL, G.d_revT, G.r_permA, G.k_perm1, G.k_perm2, G.k_perm3a, G.k_perm3b, G.k_perm3c, G.k_perm3d, G.k_perm3e, Int.reduceEq, Int.reduceLE, Int.reduceLT, Int.reduceAdd, Int.reduceSub, Int.reduceMul, Int.reduceNeg, Nat.reduceAdd, List.nil_append, not_true_eq_false, not_false_eq_true, and_true, true_and, and_false, false_and, or_true, true_or, or_false, false_or, decide_true, decide_false, eq_self, Bool.and_true, Bool.and_false, $ls,*])
  | `(tactic| simp? [$ls,*] at $h:ident) => `(tactic| simp (maxSteps := 1000000) (disch := first | assumption | (simp (disch := decide +kernel) only [G.sl_nil, G.sl_cons, List.cons_append, List.nil_append, G.shN_str, G.shN_tup, G.shN_lst, G.shN_int, G.shN_bool, G.shN_none, G.shA_nil, G.shA_cons, G.b_ta, G.ky_i, G.ky_s]; done) | exact G.len_ok (by simp only [G.sl_nil, G.sl_cons]) | decide | decide +kernel | exact G.mulOk_l (by decide) | exact G.mulOk_r (by decide) | omega) only [G.rb_ok, G.rb_ex, G.rb_bad, G.rb_ite, G.lz, G.ls, G.sz, G.ss, G.r_seq, G.k_seq1, G.k_seq2, G.k_seq3, G.k_seq4, G.r_nx, G.r_bk, G.r_ct, G.r_retN, G.r_ret, G.k_ret, G.r_drop, G.k_drop, G.r_if, G.r_ife, G.k_if, G.r_asg, G.k_asg1, G.k_asg2, G.k_asg3, G.k_sl1, G.k_sl2, G.k_sh1, G.k_sh2, G.k_sh3, G.k_sh4, G.k_sh5, G.r_asgG, G.k_asgG, G.k_asgL, G.k_tg, G.r_nm, G.r_tup, G.r_tup1, G.r_tup3, G.r_tup4, G.r_nil, G.r_cons, G.r_V, G.k_V1, G.k_V2, G.k_V4, G.k_V3, G.r_C, G.p_val, G.p_fr, G.p_sl, G.pb_1, G.pb_2, G.pb_3, G.od_1, G.od_2, G.p_1, G.p_2, G.p_3, G.q_1, G.q_2, G.q_3, G.re_1, G.re_2, G.re_ite, G.st_1, G.st_2, G.st_3, G.r_op2, G.k_op2a, G.k_op2b, G.k_op2c, G.r_op1, G.k_op1, G.ob_some, G.r_said, G.k_said1, G.r_opN, G.k_opN, G.r_pk0, G.r_pk1, G.k_pk, G.r_anil, G.r_acons, G.k_acons, G.k_acons2, G.shs_v0, G.shs_v1, G.shs_v2, G.shs_v3, G.shs_v4, G.om_some, G.r_tupT, G.r_lstT, G.k_dt, G.k_dl, G.k_d1, G.k_d2, G.r_fB, G.k_fB, G.r_and, G.r_or, G.r_andV, G.r_orV, G.r_not, G.r_notV, G.k_not, G.k_notV, G.r_yes, G.r_ch, G.k_ch1, G.k_ch2, G.k_ch3, G.k_ch4, G.k_ch5, G.r_call, G.c1_nil, G.c1_t, G.c1_f, G.c1_s, G.c1_s1, G.c1_s2, G.k_ca, G.k_c1, G.k_c2, G.c2_nil, G.c2_v, G.c2_s, G.c2_s1, G.c2_s3, G.c2_s2, G.k_call, G.k_w1, G.k_w2, G.k_w3, G.k_wite, G.wb_nil, G.wb_none, G.wb_some, G.k_wb1, G.k_wb2, G.wbx_nil, G.wbx_none, G.ap_nil, G.ap_nil2, G.ap_cons, G.ma_nil, G.ma_cons, G.ds_nil, G.ds_none, G.ds_some, G.me_nil, G.me_none, G.me_some, G.ou_0, G.ou_s, G.ob_val, G.ob_own, G.ob_un, G.ob_exc, G.ob_prm, G.le_0, G.le_s, G.k_rf1, G.k_rf2, G.k_rf3, G.k_rf4, G.k_rs1, G.k_rs2, G.r_set, G.k_set1, G.k_set2, G.k_set3, G.k_set4, G.k_set5, G.k_set6, G.k_set7, G.k_set8, G.k_set9, G.r_mut, G.k_mu1, G.k_mu2, G.k_mu3, G.k_mu4, G.k_mu5, G.k_mu6, G.k_mu7, G.k_app, G.k_apps, G.r_par, G.k_par1, G.k_par2, G.k_par3, G.k_par4, G.k_par5, G.r_par3, G.k_p3a, G.k_p3b, G.r_parN, G.k_pn1, G.k_pn2, G.k_nx, G.ev_nil, G.ev_cons, G.k_ev1, G.k_ev2, G.rs_nil, G.rs_val, G.rs_fr, G.rs_sl, G.k_rsS1, G.k_rsS2, G.bn_nil, G.bn_val, G.bn_fr, G.r_rep, G.k_rp1, G.k_rp2, G.k_rp3, G.ixN_last, G.set_last, G.ix_last, G.r_for, G.k_for, G.fo_nil, G.fo_cons, G.k_fo0, G.k_fo1, G.k_fo2, G.k_fo3, G.k_fo4, G.r_turn, G.k_tu0, G.k_tu1, G.k_tu2, G.k_tu3, G.k_tu4, G.r_seqI, G.k_seqI, G.k_seqI1, G.k_seqI3, G.k_seqI5, G.k_seqI6, G.k_seqI4, G.k_seqI2, G.r_rng1, G.k_rng1, G.k_rng1b, G.r_rng2, G.k_rng2, G.k_rng2b, G.rgl_0, G.rgl_1, G.rgl_2, G.rgl_3, G.rgl_4, G.rgl_5, G.rgl_6, G.rgl_7, G.rgl_8, G.rgl_9, G.rgl_10, G.rgl_12, G.rgl_16, G.r1l_1, G.r1l_2, G.r1l_3, G.r1l_4, G.r1l_5, G.r1l_6, G.r1l_8, G.rpl_0, G.rpl_1, G.rpl_2, G.rpl_3, G.rpl_4, G.rpl_5, G.rpl_6, G.rpl_7, G.rpl_8, G.r_lc, G.k_lc, G.l_nil, G.l_cons, G.l_A, G.l_B, G.l_C, G.l_C2, G.l_C3, G.l_S1, G.l_S2, G.l_D, G.k_lc1, G.wi_nil, G.wi_cons, G.mulOk_l, G.mulOk_r, G.r_sl, G.k_sla, G.k_slb, G.k_slc, G.k_sld, G.pt_n, G.pt_s, G.k_pt, G.cu_t, G.cu_l, G.cu_1n, G.cu_2n, G.cu_n1, G.d_add, G.d_addT, G.d_addTs, G.d_addL, G.d_addLs, G.d_sub, G.d_mul, G.d_fdiv, G.d_mod, G.d_neg, G.d_cmp, G.d_ixT, G.d_ixL, G.at_0, G.at_1, G.at_2, G.at_3, G.d_lenL, G.d_lenT, G.d_tupL, G.d_tupT, G.d_all, G.k_all, G.d_any, G.k_any, G.bo_nil, G.bo_cons, G.al_nil, G.al_cons, G.al_map, G.an_nil, G.an_cons, G.an_map, G.id_b, G.bo_map, G.d_max, G.d_min, G.d_listL, G.d_listT, G.d_p18, G.d_p13, G.d_p12, G.d_is, G.d_abs, G.d_repr, G.d_eqS, G.d_neS, G.d_eqI, G.d_neI, G.d_isi, G.isy_int_none, G.isy_int_bool, G.isy_int_int, G.isy_int_str, G.isy_int_list, G.isy_int_tuple, G.isy_int_dict, G.isy_bool_none, G.isy_bool_bool, G.isy_bool_int, G.isy_bool_str, G.isy_bool_list, G.isy_bool_tuple, G.isy_bool_dict, G.isy_tuple_none, G.isy_tuple_bool, G.isy_tuple_int, G.isy_tuple_str, G.isy_tuple_list, G.isy_tuple_tuple, G.isy_tuple_dict, G.isy_list_none, G.isy_list_bool, G.isy_list_int, G.isy_list_str, G.isy_list_list, G.isy_list_tuple, G.isy_list_dict, G.isy_str_none, G.isy_str_bool, G.isy_str_int, G.isy_str_str, G.isy_str_list, G.isy_str_tuple, G.isy_str_dict, G.isy_dict_none, G.isy_dict_bool, G.isy_dict_int, G.isy_dict_str, G.isy_dict_list, G.isy_dict_tuple, G.isy_dict_dict, G.it_t, G.it_f, G.b_tt, G.b_ft, G.b_nt, G.b_nf, G.b_ta, G.b_fa, G.b_at, G.b_to, G.b_fo, G.lI_0, G.lI_1, G.lI_2, G.lI_3, G.lI_4, G.lI_5, G.lI_m, G.bs_f, G.es_f, G.bb_tt, G.bb_tf, G.bb_ft, G.bb_ff, G.bq_s, G.r_dic, G.k_dic1, G.k_dic2, G.k_dic3, G.k_dic4, G.k_kD1, G.k_kD2, G.k_fl0, G.k_fl1, G.k_pr0, G.k_pr1, G.k_pr2, G.r_dic0, G.d_ixDi, G.d_ixDs, G.d_inGT, G.d_inGL, G.d_ninGT, G.d_ninGL, G.d_inGi, G.d_ninGi, G.k_vals, G.k_items, G.d_setDi, G.dg_nil, G.dg_i, G.dg_s, G.mg_0, G.mg_s, G.dpk_n, G.ky_i, G.ky_s, G.d_eqX, G.d_neX, G.d_inT, G.d_inL, G.d_ninT, G.d_ninL, G.ev_ii, G.ev_bb, G.ev_ss, G.ev_nn, G.ev_tt, G.ev_ll, G.ev_0, G.ev_c, G.ev_c0, G.ev_0c, G.ev_none_bool, G.ev_none_int, G.ev_none_str, G.ev_none_list, G.ev_none_tuple, G.ev_bool_none, G.ev_bool_str, G.ev_bool_list, G.ev_bool_tuple, G.ev_int_none, G.ev_int_str, G.ev_int_list, G.ev_int_tuple, G.ev_str_none, G.ev_str_bool, G.ev_str_int, G.ev_str_list, G.ev_str_tuple, G.ev_list_none, G.ev_list_bool, G.ev_list_int, G.ev_list_str, G.ev_list_tuple, G.ev_tuple_none, G.ev_tuple_bool, G.ev_tuple_int, G.ev_tuple_str, G.ev_tuple_list, G.dec_t, G.not_dec, G.k_popA, G.k_popZ, G.k_pop1, G.r_ext, G.k_ext1, G.k_ext2, G.k_ext3, G.k_ext4, G.r_items, G.k_itemsJ, G.d_listD, G.d_intI, G.d_intB, G.d_strI, G.r_subG, G.k_sub1, G.k_sub2, G.k_sub3, G.k_sub4, G.k_sub5, G.k_sub6, G.k_sub7, G.r_tupL1, G.r_tupL2, G.r_tupL3, G.r_tupL4, G.d_isB, G.d_isnB, G.d_isnN, G.d_revL, G.d_revT, G.r_permA, G.k_perm1, G.k_perm2, G.k_perm3a, G.k_perm3b, G.k_perm3c, G.k_perm3d, G.k_perm3e, Int.reduceEq, Int.reduceLE, Int.reduceLT, Int.reduceAdd, Int.reduceSub, Int.reduceMul, Int.reduceNeg, Nat.reduceAdd, List.nil_append, not_true_eq_false, not_false_eq_true, and_true, true_and, and_false, false_and, or_true, true_or, or_false, false_or, decide_true, decide_false, eq_self, Bool.and_true, Bool.and_false, $ls,*] at $h:ident)
/-! ### the generators told span the group; a group's description is one -/
end M
namespace M
open PySem PySem.Spec PyProof.Rows L2 G
local macro_rules
  | `(tactic| simp? [$ls,*]) => `(tactic| simp (maxSteps := 1000000) (disch := first | assumption | (simp (disch := decide +kernel) only [G.sl_nil, G.sl_cons, List.cons_append, List.nil_append, G.shN_str, G.shN_tup, G.shN_lst, G.shN_int, G.shN_bool, G.shN_none, G.shA_nil, G.shA_cons, G.b_ta, G.ky_i, G.ky_s]; done) | exact G.len_ok (by simp only [G.sl_nil, G.sl_cons]) | decide | decide +kernel | exact G.mulOk_l (by decide) | exact G.mulOk_r (by decide) | omega) only [G.rb_ok, G.rb_ex, G.rb_bad, G.rb_ite, G.lz, G.ls, G.sz, G.ss, G.r_seq, G.k_seq1, G.k_seq2, G.k_seq3, G.k_seq4, G.r_nx, G.r_bk, G.r_ct, G.r_retN, G.r_ret, G.k_ret, G.r_drop, G.k_drop, G.r_if, G.r_ife, G.k_if, G.r_asg, G.k_asg1, G.k_asg2, G.k_asg3, G.k_sl1, G.k_sl2, G.k_sh1, G.k_sh2, G.k_sh3, G.k_sh4, G.k_sh5, G.r_asgG, G.k_asgG, G.k_asgL, G.k_tg, G.r_nm, G.r_tup, G.r_tup1, G.r_tup3, G.r_tup4, G.r_nil, G.r_cons, G.r_V, G.k_V1, G.k_V2, G.k_V4, G.k_V3, G.r_C, G.p_val, G.p_fr, G.p_sl, G.pb_1, G.pb_2, G.pb_3, G.od_1, G.od_2, G.p_1, G.p_2, G.p_3, G.q_1, G.q_2, G.q_3, G.re_1, G.re_2, G.re_ite, G.st_1, G.st_2, G.st_3, G.r_op2, G.k_op2a, G.k_op2b, G.k_op2c, G.r_op1, G.k_op1, G.ob_some, G.r_said, G.k_said1, G.r_opN, G.k_opN, G.r_pk0, G.r_pk1, G.k_pk, G.r_anil, G.r_acons, G.k_acons, G.k_acons2, G.shs_v0, G.shs_v1, G.shs_v2, G.shs_v3, G.shs_v4, G.om_some, G.r_tupT, G.r_lstT, G.k_dt, G.k_dl, G.k_d1, G.k_d2, G.r_fB, G.k_fB, G.r_and, G.r_or, G.r_andV, G.r_orV, G.r_not, G.r_notV, G.k_not, G.k_notV, G.r_yes, G.r_ch, G.k_ch1, G.k_ch2, G.k_ch3, G.k_ch4, G.k_ch5, G.r_call, G.c1_nil, G.c1_t, G.c1_f, G.c1_s, G.c1_s1, G.c1_s2, G.k_ca, G.k_c1, G.k_c2, G.c2_nil, G.c2_v, G.c2_s, G.c2_s1, G.c2_s3, G.c2_s2, G.k_call, G.k_w1, G.k_w2, G.k_w3, G.k_wite, G.wb_nil, G.wb_none, G.wb_some, G.k_wb1, G.k_wb2, G.wbx_nil, G.wbx_none, G.ap_nil, G.ap_nil2, G.ap_cons, G.ma_nil, G.ma_cons, G.ds_nil, G.ds_none, G.ds_some, G.me_nil, G.me_none, G.me_some, G.ou_0, G.ou_s, G.ob_val, G.ob_own, G.ob_un, G.ob_exc, G.ob_prm, G.le_0, G.le_s, G.k_rf1, G.k_rf2, G.k_rf3, G.k_rf4, G.k_rs1, G.k_rs2, G.r_set, G.k_set1, G.k_set2, G.k_set3, G.k_set4, G.k_set5, G.k_set6, G.k_set7, G.k_set8, G.k_set9, G.r_mut, G.k_mu1, G.k_mu2, G.k_mu3, G.k_mu4, G.k_mu5, G.k_mu6, G.k_mu7, G.k_app, G.k_apps, G.r_par, G.k_par1, G.k_par2, G.k_par3, G.k_par4, G.k_par5, G.r_par3, G.k_p3a, G.k_p3b, G.r_parN, G.k_pn1, G.k_pn2, G.k_nx, G.ev_nil, G.ev_cons, G.k_ev1, G.k_ev2, G.rs_nil, G.rs_val, G.rs_fr, G.rs_sl, G.k_rsS1, G.k_rsS2, G.bn_nil, G.bn_val, G.bn_fr, G.r_rep, G.k_rp1, G.k_rp2, G.k_rp3, G.ixN_last, G.set_last, G.ix_last, G.r_for, G.k_for, G.fo_nil, G.fo_cons, G.k_fo0, G.k_fo1, G.k_fo2, G.k_fo3, G.k_fo4, G.r_turn, G.k_tu0, G.k_tu1, G.k_tu2, G.k_tu3, G.k_tu4, G.r_seqI, G.k_seqI, G.k_seqI1, G.k_seqI3, G.k_seqI5, G.k_seqI6, G.k_seqI4, G.k_seqI2, G.r_rng1, G.k_rng1, G.k_rng1b, G.r_rng2, G.k_rng2, G.k_rng2b, G.rgl_0, G.rgl_1, G.rgl_2, G.rgl_3, G.rgl_4, G.rgl_5, G.rgl_6, G.rgl_7, G.rgl_8, G.rgl_9, G.rgl_10, G.rgl_12, G.rgl_16, G.r1l_1, G.r1l_2, G.r1l_3, G.r1l_4, G.r1l_5, G.r1l_6, G.r1l_8, G.rpl_0, G.rpl_1, G.rpl_2, G.rpl_3, G.rpl_4, G.rpl_5, G.rpl_6, G.rpl_7, G.rpl_8, G.r_lc, G.k_lc, G.l_nil, G.l_cons, G.l_A, G.l_B, G.l_C, G.l_C2, G.l_C3, G.l_S1, G.l_S2, G.l_D, G.k_lc1, G.wi_nil, G.wi_cons, G.mulOk_l, G.mulOk_r, G.r_sl, G.k_sla, G.k_slb, G.k_slc, G.k_sld, G.pt_n, G.pt_s, G.k_pt, G.cu_t, G.cu_l, G.cu_1n, G.cu_2n, G.cu_n1, G.d_add, G.d_addT, G.d_addTs, G.d_addL, G.d_addLs, G.d_sub, G.d_mul, G.d_fdiv, G.d_mod, G.d_neg, G.d_cmp, G.d_ixT, G.d_ixL, G.at_0, G.at_1, G.at_2, G.at_3, G.d_lenL, G.d_lenT, G.d_tupL, G.d_tupT, G.d_all, G.k_all, G.d_any, G.k_any, G.bo_nil, G.bo_cons, G.al_nil, G.al_cons, G.al_map, G.an_nil, G.an_cons, G.an_map, G.id_b, G.bo_map, G.d_max, G.d_min, G.d_listL, G.d_listT, G.d_p18, G.d_p13, G.d_p12, G.d_is, G.d_abs, G.d_repr, G.d_eqS, G.d_neS, G.d_eqI, G.d_neI, G.d_isi, G.isy_int_none, G.isy_int_bool, G.isy_int_int, G.isy_int_str, G.isy_int_list, G.isy_int_tuple, G.isy_int_dict, G.isy_bool_none, G.isy_bool_bool, G.isy_bool_int, G.isy_bool_str, G.isy_bool_list, G.isy_bool_tuple, G.isy_bool_dict, G.isy_tuple_none, G.isy_tuple_bool, G.isy_tuple_int, G.isy_tuple_str, G.isy_tuple_list, G.isy_tuple_tuple, G.isy_tuple_dict, G.isy_list_none, G.isy_list_bool, G.isy_list_int, G.isy_list_str, G.isy_list_list, G.isy_list_tuple, G.isy_list_dict, G.isy_str_none, G.isy_str_bool, G.isy_str_int, G.isy_str_str, G.isy_str_list, G.isy_str_tuple, G.isy_str_dict, G.isy_dict_none, G.isy_dict_bool, G.isy_dict_int, G.isy_dict_str, G.isy_dict_list, G.isy_dict_tuple, G.isy_dict_dict, G.it_t, G.it_f, G.b_tt, G.b_ft, G.b_nt, G.b_nf, G.b_ta, G.b_fa, G.b_at, G.b_to, G.b_fo, G.lI_0, G.lI_1, G.lI_2, G.lI_3, G.lI_4, G.lI_5, G.lI_m, G.bs_f, G.es_f, G.bb_tt, G.bb_tf, G.bb_ft, G.bb_ff, G.bq_s, G.r_dic, G.k_dic1, G.k_dic2, G.k_dic3, G.k_dic4, G.k_kD1, G.k_kD2, G.k_fl0, G.k_fl1, G.k_pr0, G.k_pr1, G.k_pr2, G.r_dic0, G.d_ixDi, G.d_ixDs, G.d_inGT, G.d_inGL, G.d_ninGT, G.d_ninGL, G.d_inGi, G.d_ninGi, G.k_vals, G.k_items, G.d_setDi, G.dg_nil, G.dg_i, G.dg_s, G.mg_0, G.mg_s, G.dpk_n, G.ky_i, G.ky_s, G.d_eqX, G.d_neX, G.d_inT, G.d_inL, G.d_ninT, G.d_ninL, G.ev_ii, G.ev_bb, G.ev_ss, G.ev_nn, G.ev_tt, G.ev_ll, G.ev_0, G.ev_c, G.ev_c0, G.ev_0c, G.ev_none_bool, G.ev_none_int, G.ev_none_str, G.ev_none_list, G.ev_none_tuple, G.ev_bool_none, G.ev_bool_str, G.ev_bool_list, G.ev_bool_tuple, G.ev_int_none, G.ev_int_str, G.ev_int_list, G.ev_int_tuple, G.ev_str_none, G.ev_str_bool, G.ev_str_int, G.ev_str_list, G.ev_str_tuple, G.ev_list_none, G.ev_list_bool, G.ev_list_int, G.ev_list_str, G.ev_list_tuple, G.ev_tuple_none, G.ev_tuple_bool, G.ev_tuple_int, G.ev_tuple_str, G.ev_tuple_list, G.dec_t, G.not_dec, G.k_popA, G.k_popZ, G.k_pop1, G.r_ext, G.k_ext1, G.k_ext2, G.k_ext3, G.k_ext4, G.r_items, G.k_itemsJ, G.d_listD, G.d_intI, G.d_intB, G.d_strI, G.r_subG, G.k_sub1, G.k_sub2, G.k_sub3, G.k_sub4, G.k_sub5, G.k_sub6, G.k_sub7, G.r_tupL1, G.r_tupL2, G.r_tupL3, G.r_tupL4, G.d_isB, G.d_isnB, G.d_isnN, G.d_revL, G.d_revT, G.r_permA, G.k_perm1, G.k_perm2, G.k_perm3a, G.k_perm3b, G.k_perm3c, G.k_perm3d, G.k_perm3e, Int.reduceEq, Int.reduceLE, Int.reduceLT, Int.reduceAdd, Int.reduceSub, Int.reduceMul, Int.reduceNeg, Nat.reduceAdd, List.nil_append, not_true_eq_false, not_false_eq_true, and_true, true_and, and_false, false_and, or_true, true_or, or_false, false_or, decide_true, decide_false, eq_self, Bool.and_true, Bool.and_false, $ls,*])
  | `(tactic| simp? [$ls,*] at $h:ident) => `(tactic| simp (maxSteps := 1000000) (disch := first | assumption | (simp (disch := decide +kernel) only [G.sl_nil, G.sl_cons, List.cons_append, List.nil_append, G.shN_str, G.shN_tup, G.shN_lst, G.shN_int, G.shN_bool, G.shN_none, G.shA_nil, G.shA_cons, G.b_ta, G.ky_i, G.ky_s]; done) | exact G.len_ok (by simp only [G.sl_nil, G.sl_cons]) | decide | decide +kernel | exact G.mulOk_l (by decide) | exact G.mulOk_r (by decide) | omega) only [G.rb_ok, G.rb_ex, G.rb_bad, G.rb_ite, G.lz, G.ls, G.sz, G.ss, G.r_seq, G.k_seq1, G.k_seq2, G.k_seq3, G.k_seq4, G.r_nx, G.r_bk, G.r_ct, G.r_retN, G.r_ret, G.k_ret, G.r_drop, G.k_drop, G.r_if, G.r_ife, G.k_if, G.r_asg, G.k_asg1, G.k_asg2, G.k_asg3, G.k_sl1, G.k_sl2, G.k_sh1, G.k_sh2, G.k_sh3, G.k_sh4, G.k_sh5, G.r_asgG, G.k_asgG, G.k_asgL, G.k_tg, G.r_nm, G.r_tup, G.r_tup1, G.r_tup3, G.r_tup4, G.r_nil, G.r_cons, G.r_V, G.k_V1, G.k_V2, G.k_V4, G.k_V3, G.r_C, G.p_val, G.p_fr, G.p_sl, G.pb_1, G.pb_2, G.pb_3, G.od_1, G.od_2, G.p_1, G.p_2, G.p_3, G.q_1, G.q_2, G.q_3, G.re_1, G.re_2, G.re_ite, G.st_1, G.st_2, G.st_3, G.r_op2, G.k_op2a, G.k_op2b, G.k_op2c, G.r_op1, G.k_op1, G.ob_some, G.r_said, G.k_said1, G.r_opN, G.k_opN, G.r_pk0, G.r_pk1, G.k_pk, G.r_anil, G.r_acons, G.k_acons, G.k_acons2, G.shs_v0, G.shs_v1, G.shs_v2, G.shs_v3, G.shs_v4, G.om_some, G.r_tupT, G.r_lstT, G.k_dt, G.k_dl, G.k_d1, G.k_d2, G.r_fB, G.k_fB, G.r_and, G.r_or, G.r_andV, G.r_orV, G.r_not, G.r_notV, G.k_not, G.k_notV, G.r_yes, G.r_ch, G.k_ch1, G.k_ch2, G.k_ch3, G.k_ch4, G.k_ch5, G.r_call, G.c1_nil, G.c1_t, G.c1_f, G.c1_s, G.c1_s1, G.c1_s2, G.k_ca, G.k_c1, G.k_c2, G.c2_nil, G.c2_v, G.c2_s, G.c2_s1, G.c2_s3, G.c2_s2, G.k_call, G.k_w1, G.k_w2, G.k_w3, G.k_wite, G.wb_nil, G.wb_none, G.wb_some, G.k_wb1, G.k_wb2, G.wbx_nil, G.wbx_none, G.ap_nil, G.ap_nil2, G.ap_cons, G.ma_nil, G.ma_cons, G.ds_nil, G.ds_none, G.ds_some, G.me_nil, G.me_none, G.me_some, G.ou_0, G.ou_s, G.ob_val, G.ob_own, G.ob_un, G.ob_exc, G.ob_prm, G.le_0, G.le_s, G.k_rf1, G.k_rf2, G.k_rf3, G.k_rf4, G.k_rs1, G.k_rs2, G.r_set, G.k_set1, G.k_set2, G.k_set3, G.k_set4, G.k_set5, G.k_set6, G.k_set7, G.k_set8, G.k_set9, G.r_mut, G.k_mu1, G.k_mu2, G.k_mu3, G.k_mu4, G.k_mu5, G.k_mu6, G.k_mu7, G.k_app, G.k_apps, G.r_par, G.k_par1, G.k_par2, G.k_par3, G.k_par4, G.k_par5, G.r_par3, G.k_p3a, G.k_p3b, G.r_parN, G.k_pn1, G.k_pn2, G.k_nx, G.ev_nil, G.ev_cons, G.k_ev1, G.k_ev2, G.rs_nil, G.rs_val, G.rs_fr, G.rs_sl, G.k_rsS1, G.k_rsS2, G.bn_nil, G.bn_val, G.bn_fr, G.r_rep, G.k_rp1, G.k_rp2, G.k_rp3, G.ixN_last, G.set_last, G.ix_last, G.r_for, G.k_for, G.fo_nil, G.fo_cons, G.k_fo0, G.k_fo1, G.k_fo2, G.k_fo3, G.k_fo4, G.r_turn, G.k_tu0, G.k_tu1, G.k_tu2, G.k_tu3, G.k_tu4, G.r_seqI, G.k_seqI, G.k_seqI1, G.k_seqI3, G.k_seqI5, G.k_seqI6, G.k_seqI4, G.k_seqI2, G.r_rng1, G.k_rng1, G.k_rng1b, G.r_rng2, G.k_rng2, G.k_rng2b, G.rgl_0, G.rgl_1, G.rgl_2, G.rgl_3, G.rgl_4, G.rgl_5, G.rgl_6, G.rgl_7, G.rgl_8, G.rgl_9, G.rgl_10, G.rgl_12, G.rgl_16, G.r1l_1, G.r1l_2, G.r1l_3, G.r1l_4, G.r1l_5, G.r1l_6, G.r1l_8, G.rpl_0, G.rpl_1, G.rpl_2, G.rpl_3, G.rpl_4, G.rpl_5, G.rpl_6, G.rpl_7, G.rpl_8, G.r_lc, G.k_lc, G.l_nil, G.l_cons, G.l_A, G.l_B, G.l_C, G.l_C2, G.l_C3, G.l_S1, G.l_S2, G.l_D, G.k_lc1, G.wi_nil, G.wi_cons, G.mulOk_l, G.mulOk_r, G.r_sl, G.k_sla, G.k_slb, G.k_slc, G.k_sld, G.pt_n, G.pt_s, G.k_pt, G.cu_t, G.cu_l, G.cu_1n, G.cu_2n, G.cu_n1, G.d_add, G.d_addT, G.d_addTs, G.d_addL, G.d_addLs, G.d_sub, G.d_mul, G.d_fdiv, G.d_mod, G.d_neg, G.d_cmp, G.d_ixT, G.d_ixL, G.at_0, G.at_1, G.at_2, G.at_3, G.d_lenL, G.d_lenT, G.d_tupL, G.d_tupT, G.d_all, G.k_all, G.d_any, G.k_any, G.bo_nil, G.bo_cons, G.al_nil, G.al_cons, G.al_map, G.an_nil, G.an_cons, G.an_map, G.id_b, G.bo_map, G.d_max, G.d_min, G.d_listL, G.d_listT, G.d_p18, G.d_p13, G.d_p12, G.d_is, G.d_abs, G.d_repr, G.d_eqS, G.d_neS, G.d_eqI, G.d_neI, G.d_isi, G.isy_int_none, G.isy_int_bool, G.isy_int_int, G.isy_int_str, G.isy_int_list, G.isy_int_tuple, G.isy_int_dict, G.isy_bool_none, G.isy_bool_bool, G.isy_bool_int, G.isy_bool_str, G.isy_bool_list, G.isy_bool_tuple, G.isy_bool_dict, G.isy_tuple_none, G.isy_tuple_bool, G.isy_tuple_int, G.isy_tuple_str, G.isy_tuple_list, G.isy_tuple_tuple, G.isy_tuple_dict, G.isy_list_none, G.isy_list_bool, G.isy_list_int, G.isy_list_str, G.isy_list_list, G.isy_list_tuple, G.isy_list_dict, G.isy_str_none, G.isy_str_bool, G.isy_str_int, G.isy_str_str, G.isy_str_list, G.isy_str_tuple, G.isy_str_dict, G.isy_dict_none, G.isy_dict_bool, G.isy_dict_int, G.isy_dict_str, G.isy_dict_list, G.isy_dict_tuple, G.isy_dict_dict, G.it_t, G.it_f, G.b_tt, G.b_ft, G.b_nt, G.b_nf, G.b_ta, G.b_fa, G.b_at, G.b_to, G.b_fo, G.lI_0, G.lI_1, G.lI_2, G.lI_3, G.lI_4, G.lI_5, G.lI_m, G.bs_f, G.es_f, G.bb_tt, G.bb_tf, G.bb_ft, G.bb_ff, G.bq_s, G.r_dic, G.k_dic1, G.k_dic2, G.k_dic3, G.k_dic4, G.k_kD1, G.k_kD2, G.k_fl0, G.k_fl1, G.k_pr0, G.k_pr1, G.k_pr2, G.r_dic0, G.d_ixDi, G.d_ixDs, G.d_inGT, G.d_inGL, G.d_ninGT, G.d_ninGL, G.d_inGi, G.d_ninGi, G.k_vals, G.k_items, G.d_setDi, G.dg_nil, G.dg_i, G.dg_s, G.mg_0, G.mg_s, G.dpk_n, G.ky_i, G.ky_s, G.d_eqX, G.d_neX, G.d_inT, G.d_inL, G.d_ninT, G.d_ninL, G.ev_ii, G.ev_bb, G.ev_ss, G.ev_nn, G.ev_tt, G.ev_ll, G.ev_0, G.ev_c, G.ev_c0, G.ev_0c, G.ev_none_bool, G.ev_none_int, G.ev_none_str, G.ev_none_list, G.ev_none_tuple, G.ev_bool_none, G.ev_bool_str, G.ev_bool_list, G.ev_bool_tuple, G.ev_int_none, G.ev_int_str, G.ev_int_list, G.ev_int_tuple, G.ev_str_none, G.ev_str_bool, G.ev_str_int, G.ev_str_list, G.ev_str_tuple, G.ev_list_none, G.ev_list_bool, G.ev_list_int, G.ev_list_str, G.ev_list_tuple, G.ev_tuple_none, G.ev_tuple_bool, G.ev_tuple_int, G.ev_tuple_str, G.ev_tuple_list, G.dec_t, G.not_dec, G.k_popA, G.k_popZ, G.k_pop1, G.r_ext, G.k_ext1, G.k_ext2, G.k_ext3, G.k_ext4, G.r_items, G.k_itemsJ, G.d_listD, G.d_intI, G.d_intB, G.d_strI, G.r_subG, G.k_sub1, G.k_sub2, G.k_sub3, G.k_sub4, G.k_sub5, G.k_sub6, G.k_sub7, G.r_tupL1, G.r_tupL2, G.r_tupL3, G.r_tupL4, G.d_isB, G.d_isnB, G.d_isnN, G.d_revL, G.d_revT, G.r_permA, G.k_perm1, G.k_perm2, G.k_perm3a, G.k_perm3b, G.k_perm3c, G.k_perm3d, G.k_perm3e, Int.reduceEq, Int.reduceLE, Int.reduceLT, Int.reduceAdd, Int.reduceSub, Int.reduceMul, Int.reduceNeg, Nat.reduceAdd, List.nil_append, not_true_eq_false, not_false_eq_true, and_true, true_and, and_false, false_and, or_true, true_or, or_false, false_or, decide_true, decide_false, eq_self, Bool.and_true, Bool.and_false, $ls,*] at $h:ident)
/-! ### is_generators at any value; what describe, contains and generators_of refuse -/
/-! descriptions that are none -/
/-! texts that are no marks -/
end M
namespace M
open PySem PySem.Spec PyProof.Rows L2 G
local macro_rules
  | `(tactic| simp? [$ls,*]) => `(tactic| simp (maxSteps := 1000000) (disch := first | assumption | (simp (disch := decide +kernel) only [G.sl_nil, G.sl_cons, List.cons_append, List.nil_append, G.shN_str, G.shN_tup, G.shN_lst, G.shN_int, G.shN_bool, G.shN_none, G.shA_nil, G.shA_cons, G.b_ta, G.ky_i, G.ky_s]; done) | exact G.len_ok (by simp only [G.sl_nil, G.sl_cons]) | decide | decide +kernel | exact G.mulOk_l (by decide) | exact G.mulOk_r (by decide) | omega) only [G.rb_ok, G.rb_ex, G.rb_bad, G.rb_ite, G.lz, G.ls, G.sz, G.ss, G.r_seq, G.k_seq1, G.k_seq2, G.k_seq3, G.k_seq4, G.r_nx, G.r_bk, G.r_ct, G.r_retN, G.r_ret, G.k_ret, G.r_drop, G.k_drop, G.r_if, G.r_ife, G.k_if, G.r_asg, G.k_asg1, G.k_asg2, G.k_asg3, G.k_sl1, G.k_sl2, G.k_sh1, G.k_sh2, G.k_sh3, G.k_sh4, G.k_sh5, G.r_asgG, G.k_asgG, G.k_asgL, G.k_tg, G.r_nm, G.r_tup, G.r_tup1, G.r_tup3, G.r_tup4, G.r_nil, G.r_cons, G.r_V, G.k_V1, G.k_V2, G.k_V4, G.k_V3, G.r_C, G.p_val, G.p_fr, G.p_sl, G.pb_1, G.pb_2, G.pb_3, G.od_1, G.od_2, G.p_1, G.p_2, G.p_3, G.q_1, G.q_2, G.q_3, G.re_1, G.re_2, G.re_ite, G.st_1, G.st_2, G.st_3, G.r_op2, G.k_op2a, G.k_op2b, G.k_op2c, G.r_op1, G.k_op1, G.ob_some, G.r_said, G.k_said1, G.r_opN, G.k_opN, G.r_pk0, G.r_pk1, G.k_pk, G.r_anil, G.r_acons, G.k_acons, G.k_acons2, G.shs_v0, G.shs_v1, G.shs_v2, G.shs_v3, G.shs_v4, G.om_some, G.r_tupT, G.r_lstT, G.k_dt, G.k_dl, G.k_d1, G.k_d2, G.r_fB, G.k_fB, G.r_and, G.r_or, G.r_andV, G.r_orV, G.r_not, G.r_notV, G.k_not, G.k_notV, G.r_yes, G.r_ch, G.k_ch1, G.k_ch2, G.k_ch3, G.k_ch4, G.k_ch5, G.r_call, G.c1_nil, G.c1_t, G.c1_f, G.c1_s, G.c1_s1, G.c1_s2, G.k_ca, G.k_c1, G.k_c2, G.c2_nil, G.c2_v, G.c2_s, G.c2_s1, G.c2_s3, G.c2_s2, G.k_call, G.k_w1, G.k_w2, G.k_w3, G.k_wite, G.wb_nil, G.wb_none, G.wb_some, G.k_wb1, G.k_wb2, G.wbx_nil, G.wbx_none, G.ap_nil, G.ap_nil2, G.ap_cons, G.ma_nil, G.ma_cons, G.ds_nil, G.ds_none, G.ds_some, G.me_nil, G.me_none, G.me_some, G.ou_0, G.ou_s, G.ob_val, G.ob_own, G.ob_un, G.ob_exc, G.ob_prm, G.le_0, G.le_s, G.k_rf1, G.k_rf2, G.k_rf3, G.k_rf4, G.k_rs1, G.k_rs2, G.r_set, G.k_set1, G.k_set2, G.k_set3, G.k_set4, G.k_set5, G.k_set6, G.k_set7, G.k_set8, G.k_set9, G.r_mut, G.k_mu1, G.k_mu2, G.k_mu3, G.k_mu4, G.k_mu5, G.k_mu6, G.k_mu7, G.k_app, G.k_apps, G.r_par, G.k_par1, G.k_par2, G.k_par3, G.k_par4, G.k_par5, G.r_par3, G.k_p3a, G.k_p3b, G.r_parN, G.k_pn1, G.k_pn2, G.k_nx, G.ev_nil, G.ev_cons, G.k_ev1, G.k_ev2, G.rs_nil, G.rs_val, G.rs_fr, G.rs_sl, G.k_rsS1, G.k_rsS2, G.bn_nil, G.bn_val, G.bn_fr, G.r_rep, G.k_rp1, G.k_rp2, G.k_rp3, G.ixN_last, G.set_last, G.ix_last, G.r_for, G.k_for, G.fo_nil, G.fo_cons, G.k_fo0, G.k_fo1, G.k_fo2, G.k_fo3, G.k_fo4, G.r_turn, G.k_tu0, G.k_tu1, G.k_tu2, G.k_tu3, G.k_tu4, G.r_seqI, G.k_seqI, G.k_seqI1, G.k_seqI3, G.k_seqI5, G.k_seqI6, G.k_seqI4, G.k_seqI2, G.r_rng1, G.k_rng1, G.k_rng1b, G.r_rng2, G.k_rng2, G.k_rng2b, G.rgl_0, G.rgl_1, G.rgl_2, G.rgl_3, G.rgl_4, G.rgl_5, G.rgl_6, G.rgl_7, G.rgl_8, G.rgl_9, G.rgl_10, G.rgl_12, G.rgl_16, G.r1l_1, G.r1l_2, G.r1l_3, G.r1l_4, G.r1l_5, G.r1l_6, G.r1l_8, G.rpl_0, G.rpl_1, G.rpl_2, G.rpl_3, G.rpl_4, G.rpl_5, G.rpl_6, G.rpl_7, G.rpl_8, G.r_lc, G.k_lc, G.l_nil, G.l_cons, G.l_A, G.l_B, G.l_C, G.l_C2, G.l_C3, G.l_S1, G.l_S2, G.l_D, G.k_lc1, G.wi_nil, G.wi_cons, G.mulOk_l, G.mulOk_r, G.r_sl, G.k_sla, G.k_slb, G.k_slc, G.k_sld, G.pt_n, G.pt_s, G.k_pt, G.cu_t, G.cu_l, G.cu_1n, G.cu_2n, G.cu_n1, G.d_add, G.d_addT, G.d_addTs, G.d_addL, G.d_addLs, G.d_sub, G.d_mul, G.d_fdiv, G.d_mod, G.d_neg, G.d_cmp, G.d_ixT, G.d_ixL, G.at_0, G.at_1, G.at_2, G.at_3, G.d_lenL, G.d_lenT, G.d_tupL, G.d_tupT, G.d_all, G.k_all, G.d_any, G.k_any, G.bo_nil, G.bo_cons, G.al_nil, G.al_cons, G.al_map, G.an_nil, G.an_cons, G.an_map, G.id_b, G.bo_map, G.d_max, G.d_min, G.d_listL, G.d_listT, G.d_p18, G.d_p13, G.d_p12, G.d_is, G.d_abs, G.d_repr, G.d_eqS, G.d_neS, G.d_eqI, G.d_neI, G.d_isi, G.isy_int_none, G.isy_int_bool, G.isy_int_int, G.isy_int_str, G.isy_int_list, G.isy_int_tuple, G.isy_int_dict, G.isy_bool_none, G.isy_bool_bool, G.isy_bool_int, G.isy_bool_str, G.isy_bool_list, G.isy_bool_tuple, G.isy_bool_dict, G.isy_tuple_none, G.isy_tuple_bool, G.isy_tuple_int, G.isy_tuple_str, G.isy_tuple_list, G.isy_tuple_tuple, G.isy_tuple_dict, G.isy_list_none, G.isy_list_bool, G.isy_list_int, G.isy_list_str, G.isy_list_list, G.isy_list_tuple, G.isy_list_dict, G.isy_str_none, G.isy_str_bool, G.isy_str_int, G.isy_str_str, G.isy_str_list, G.isy_str_tuple, G.isy_str_dict, G.isy_dict_none, G.isy_dict_bool, G.isy_dict_int, G.isy_dict_str, G.isy_dict_list, G.isy_dict_tuple, G.isy_dict_dict, G.it_t, G.it_f, G.b_tt, G.b_ft, G.b_nt, G.b_nf, G.b_ta, G.b_fa, G.b_at, G.b_to, G.b_fo, G.lI_0, G.lI_1, G.lI_2, G.lI_3, G.lI_4, G.lI_5, G.lI_m, G.bs_f, G.es_f, G.bb_tt, G.bb_tf, G.bb_ft, G.bb_ff, G.bq_s, G.r_dic, G.k_dic1, G.k_dic2, G.k_dic3, G.k_dic4, G.k_kD1, G.k_kD2, G.k_fl0, G.k_fl1, G.k_pr0, G.k_pr1, G.k_pr2, G.r_dic0, G.d_ixDi, G.d_ixDs, G.d_inGT, G.d_inGL, G.d_ninGT, G.d_ninGL, G.d_inGi, G.d_ninGi, G.k_vals, G.k_items, G.d_setDi, G.dg_nil, G.dg_i, G.dg_s, G.mg_0, G.mg_s, G.dpk_n, G.ky_i, G.ky_s, G.d_eqX, G.d_neX, G.d_inT, G.d_inL, G.d_ninT, G.d_ninL, G.ev_ii, G.ev_bb, G.ev_ss, G.ev_nn, G.ev_tt, G.ev_ll, G.ev_0, G.ev_c, G.ev_c0, G.ev_0c, G.ev_none_bool, G.ev_none_int, G.ev_none_str, G.ev_none_list, G.ev_none_tuple, G.ev_bool_none, G.ev_bool_str, G.ev_bool_list, G.ev_bool_tuple, G.ev_int_none, G.ev_int_str, G.ev_int_list, G.ev_int_tuple, G.ev_str_none, G.ev_str_bool, G.ev_str_int, G.ev_str_list, G.ev_str_tuple, G.ev_list_none, G.ev_list_bool, G.ev_list_int, G.ev_list_str, G.ev_list_tuple, G.ev_tuple_none, G.ev_tuple_bool, G.ev_tuple_int, G.ev_tuple_str, G.ev_tuple_list, G.dec_t, G.not_dec, G.k_popA, G.k_popZ, G.k_pop1, G.r_ext, G.k_ext1, G.k_ext2, G.k_ext3, G.k_ext4, G.r_items, G.k_itemsJ, G.d_listD, G.d_intI, G.d_intB, G.d_strI, G.r_subG, G.k_sub1, G.k_sub2, G.k_sub3, G.k_sub4, G.k_sub5, G.k_sub6, G.k_sub7, G.r_tupL1, G.r_tupL2, G.r_tupL3, G.r_tupL4, G.d_isB, G.d_isnB, G.d_isnN, G.d_revL, G.d_revT, G.r_permA, G.k_perm1, G.k_perm2, G.k_perm3a, G.k_perm3b, G.k_perm3c, G.k_perm3d, G.k_perm3e, Int.reduceEq, Int.reduceLE, Int.reduceLT, Int.reduceAdd, Int.reduceSub, Int.reduceMul, Int.reduceNeg, Nat.reduceAdd, List.nil_append, not_true_eq_false, not_false_eq_true, and_true, true_and, and_false, false_and, or_true, true_or, or_false, false_or, decide_true, decide_false, eq_self, Bool.and_true, Bool.and_false, $ls,*])
  | `(tactic| simp? [$ls,*] at $h:ident) => `(tactic| simp (maxSteps := 1000000) (disch := first | assumption | (simp (disch := decide +kernel) only [G.sl_nil, G.sl_cons, List.cons_append, List.nil_append, G.shN_str, G.shN_tup, G.shN_lst, G.shN_int, G.shN_bool, G.shN_none, G.shA_nil, G.shA_cons, G.b_ta, G.ky_i, G.ky_s]; done) | exact G.len_ok (by simp only [G.sl_nil, G.sl_cons]) | decide | decide +kernel | exact G.mulOk_l (by decide) | exact G.mulOk_r (by decide) | omega) only [G.rb_ok, G.rb_ex, G.rb_bad, G.rb_ite, G.lz, G.ls, G.sz, G.ss, G.r_seq, G.k_seq1, G.k_seq2, G.k_seq3, G.k_seq4, G.r_nx, G.r_bk, G.r_ct, G.r_retN, G.r_ret, G.k_ret, G.r_drop, G.k_drop, G.r_if, G.r_ife, G.k_if, G.r_asg, G.k_asg1, G.k_asg2, G.k_asg3, G.k_sl1, G.k_sl2, G.k_sh1, G.k_sh2, G.k_sh3, G.k_sh4, G.k_sh5, G.r_asgG, G.k_asgG, G.k_asgL, G.k_tg, G.r_nm, G.r_tup, G.r_tup1, G.r_tup3, G.r_tup4, G.r_nil, G.r_cons, G.r_V, G.k_V1, G.k_V2, G.k_V4, G.k_V3, G.r_C, G.p_val, G.p_fr, G.p_sl, G.pb_1, G.pb_2, G.pb_3, G.od_1, G.od_2, G.p_1, G.p_2, G.p_3, G.q_1, G.q_2, G.q_3, G.re_1, G.re_2, G.re_ite, G.st_1, G.st_2, G.st_3, G.r_op2, G.k_op2a, G.k_op2b, G.k_op2c, G.r_op1, G.k_op1, G.ob_some, G.r_said, G.k_said1, G.r_opN, G.k_opN, G.r_pk0, G.r_pk1, G.k_pk, G.r_anil, G.r_acons, G.k_acons, G.k_acons2, G.shs_v0, G.shs_v1, G.shs_v2, G.shs_v3, G.shs_v4, G.om_some, G.r_tupT, G.r_lstT, G.k_dt, G.k_dl, G.k_d1, G.k_d2, G.r_fB, G.k_fB, G.r_and, G.r_or, G.r_andV, G.r_orV, G.r_not, G.r_notV, G.k_not, G.k_notV, G.r_yes, G.r_ch, G.k_ch1, G.k_ch2, G.k_ch3, G.k_ch4, G.k_ch5, G.r_call, G.c1_nil, G.c1_t, G.c1_f, G.c1_s, G.c1_s1, G.c1_s2, G.k_ca, G.k_c1, G.k_c2, G.c2_nil, G.c2_v, G.c2_s, G.c2_s1, G.c2_s3, G.c2_s2, G.k_call, G.k_w1, G.k_w2, G.k_w3, G.k_wite, G.wb_nil, G.wb_none, G.wb_some, G.k_wb1, G.k_wb2, G.wbx_nil, G.wbx_none, G.ap_nil, G.ap_nil2, G.ap_cons, G.ma_nil, G.ma_cons, G.ds_nil, G.ds_none, G.ds_some, G.me_nil, G.me_none, G.me_some, G.ou_0, G.ou_s, G.ob_val, G.ob_own, G.ob_un, G.ob_exc, G.ob_prm, G.le_0, G.le_s, G.k_rf1, G.k_rf2, G.k_rf3, G.k_rf4, G.k_rs1, G.k_rs2, G.r_set, G.k_set1, G.k_set2, G.k_set3, G.k_set4, G.k_set5, G.k_set6, G.k_set7, G.k_set8, G.k_set9, G.r_mut, G.k_mu1, G.k_mu2, G.k_mu3, G.k_mu4, G.k_mu5, G.k_mu6, G.k_mu7, G.k_app, G.k_apps, G.r_par, G.k_par1, G.k_par2, G.k_par3, G.k_par4, G.k_par5, G.r_par3, G.k_p3a, G.k_p3b, G.r_parN, G.k_pn1, G.k_pn2, G.k_nx, G.ev_nil, G.ev_cons, G.k_ev1, G.k_ev2, G.rs_nil, G.rs_val, G.rs_fr, G.rs_sl, G.k_rsS1, G.k_rsS2, G.bn_nil, G.bn_val, G.bn_fr, G.r_rep, G.k_rp1, G.k_rp2, G.k_rp3, G.ixN_last, G.set_last, G.ix_last, G.r_for, G.k_for, G.fo_nil, G.fo_cons, G.k_fo0, G.k_fo1, G.k_fo2, G.k_fo3, G.k_fo4, G.r_turn, G.k_tu0, G.k_tu1, G.k_tu2, G.k_tu3, G.k_tu4, G.r_seqI, G.k_seqI, G.k_seqI1, G.k_seqI3, G.k_seqI5, G.k_seqI6, G.k_seqI4, G.k_seqI2, G.r_rng1, G.k_rng1, G.k_rng1b, G.r_rng2, G.k_rng2, G.k_rng2b, G.rgl_0, G.rgl_1, G.rgl_2, G.rgl_3, G.rgl_4, G.rgl_5, G.rgl_6, G.rgl_7, G.rgl_8, G.rgl_9, G.rgl_10, G.rgl_12, G.rgl_16, G.r1l_1, G.r1l_2, G.r1l_3, G.r1l_4, G.r1l_5, G.r1l_6, G.r1l_8, G.rpl_0, G.rpl_1, G.rpl_2, G.rpl_3, G.rpl_4, G.rpl_5, G.rpl_6, G.rpl_7, G.rpl_8, G.r_lc, G.k_lc, G.l_nil, G.l_cons, G.l_A, G.l_B, G.l_C, G.l_C2, G.l_C3, G.l_S1, G.l_S2, G.l_D, G.k_lc1, G.wi_nil, G.wi_cons, G.mulOk_l, G.mulOk_r, G.r_sl, G.k_sla, G.k_slb, G.k_slc, G.k_sld, G.pt_n, G.pt_s, G.k_pt, G.cu_t, G.cu_l, G.cu_1n, G.cu_2n, G.cu_n1, G.d_add, G.d_addT, G.d_addTs, G.d_addL, G.d_addLs, G.d_sub, G.d_mul, G.d_fdiv, G.d_mod, G.d_neg, G.d_cmp, G.d_ixT, G.d_ixL, G.at_0, G.at_1, G.at_2, G.at_3, G.d_lenL, G.d_lenT, G.d_tupL, G.d_tupT, G.d_all, G.k_all, G.d_any, G.k_any, G.bo_nil, G.bo_cons, G.al_nil, G.al_cons, G.al_map, G.an_nil, G.an_cons, G.an_map, G.id_b, G.bo_map, G.d_max, G.d_min, G.d_listL, G.d_listT, G.d_p18, G.d_p13, G.d_p12, G.d_is, G.d_abs, G.d_repr, G.d_eqS, G.d_neS, G.d_eqI, G.d_neI, G.d_isi, G.isy_int_none, G.isy_int_bool, G.isy_int_int, G.isy_int_str, G.isy_int_list, G.isy_int_tuple, G.isy_int_dict, G.isy_bool_none, G.isy_bool_bool, G.isy_bool_int, G.isy_bool_str, G.isy_bool_list, G.isy_bool_tuple, G.isy_bool_dict, G.isy_tuple_none, G.isy_tuple_bool, G.isy_tuple_int, G.isy_tuple_str, G.isy_tuple_list, G.isy_tuple_tuple, G.isy_tuple_dict, G.isy_list_none, G.isy_list_bool, G.isy_list_int, G.isy_list_str, G.isy_list_list, G.isy_list_tuple, G.isy_list_dict, G.isy_str_none, G.isy_str_bool, G.isy_str_int, G.isy_str_str, G.isy_str_list, G.isy_str_tuple, G.isy_str_dict, G.isy_dict_none, G.isy_dict_bool, G.isy_dict_int, G.isy_dict_str, G.isy_dict_list, G.isy_dict_tuple, G.isy_dict_dict, G.it_t, G.it_f, G.b_tt, G.b_ft, G.b_nt, G.b_nf, G.b_ta, G.b_fa, G.b_at, G.b_to, G.b_fo, G.lI_0, G.lI_1, G.lI_2, G.lI_3, G.lI_4, G.lI_5, G.lI_m, G.bs_f, G.es_f, G.bb_tt, G.bb_tf, G.bb_ft, G.bb_ff, G.bq_s, G.r_dic, G.k_dic1, G.k_dic2, G.k_dic3, G.k_dic4, G.k_kD1, G.k_kD2, G.k_fl0, G.k_fl1, G.k_pr0, G.k_pr1, G.k_pr2, G.r_dic0, G.d_ixDi, G.d_ixDs, G.d_inGT, G.d_inGL, G.d_ninGT, G.d_ninGL, G.d_inGi, G.d_ninGi, G.k_vals, G.k_items, G.d_setDi, G.dg_nil, G.dg_i, G.dg_s, G.mg_0, G.mg_s, G.dpk_n, G.ky_i, G.ky_s, G.d_eqX, G.d_neX, G.d_inT, G.d_inL, G.d_ninT, G.d_ninL, G.ev_ii, G.ev_bb, G.ev_ss, G.ev_nn, G.ev_tt, G.ev_ll, G.ev_0, G.ev_c, G.ev_c0, G.ev_0c, G.ev_none_bool, G.ev_none_int, G.ev_none_str, G.ev_none_list, G.ev_none_tuple, G.ev_bool_none, G.ev_bool_str, G.ev_bool_list, G.ev_bool_tuple, G.ev_int_none, G.ev_int_str, G.ev_int_list, G.ev_int_tuple, G.ev_str_none, G.ev_str_bool, G.ev_str_int, G.ev_str_list, G.ev_str_tuple, G.ev_list_none, G.ev_list_bool, G.ev_list_int, G.ev_list_str, G.ev_list_tuple, G.ev_tuple_none, G.ev_tuple_bool, G.ev_tuple_int, G.ev_tuple_str, G.ev_tuple_list, G.dec_t, G.not_dec, G.k_popA, G.k_popZ, G.k_pop1, G.r_ext, G.k_ext1, G.k_ext2, G.k_ext3, G.k_ext4, G.r_items, G.k_itemsJ, G.d_listD, G.d_intI, G.d_intB, G.d_strI, G.r_subG, G.k_sub1, G.k_sub2, G.k_sub3, G.k_sub4, G.k_sub5, G.k_sub6, G.k_sub7, G.r_tupL1, G.r_tupL2, G.r_tupL3, G.r_tupL4, G.d_isB, G.d_isnB, G.d_isnN, G.d_revL, G.d_revT, G.r_permA, G.k_perm1, G.k_perm2, G.k_perm3a, G.k_perm3b, G.k_perm3c, G.k_perm3d, G.k_perm3e, Int.reduceEq, Int.reduceLE, Int.reduceLT, Int.reduceAdd, Int.reduceSub, Int.reduceMul, Int.reduceNeg, Nat.reduceAdd, List.nil_append, not_true_eq_false, not_false_eq_true, and_true, true_and, and_false, false_and, or_true, true_or, or_false, false_or, decide_true, decide_false, eq_self, Bool.and_true, Bool.and_false, $ls,*] at $h:ident)
/-! ### the laws' own search for a group, from the generators that a description gives -/
end M
namespace M
open PySem PySem.Spec PyProof.Rows L2 G TL
local macro_rules
  | `(tactic| simp? [$ls,*]) => `(tactic| simp (maxSteps := 1000000) (disch := first | assumption | (simp (disch := decide +kernel) only [G.sl_nil, G.sl_cons, List.cons_append, List.nil_append, G.shN_str, G.shN_tup, G.shN_lst, G.shN_int, G.shN_bool, G.shN_none, G.shA_nil, G.shA_cons, G.b_ta, G.ky_i, G.ky_s]; done) | exact G.len_ok (by simp only [G.sl_nil, G.sl_cons]) | decide | decide +kernel | exact G.mulOk_l (by decide) | exact G.mulOk_r (by decide) | omega) only [G.rb_ok, G.rb_ex, G.rb_bad, G.rb_ite, G.lz, G.ls, G.sz, G.ss, G.r_seq, G.k_seq1, G.k_seq2, G.k_seq3, G.k_seq4, G.r_nx, G.r_bk, G.r_ct, G.r_retN, G.r_ret, G.k_ret, G.r_drop, G.k_drop, G.r_if, G.r_ife, G.k_if, G.r_asg, G.k_asg1, G.k_asg2, G.k_asg3, G.k_sl1, G.k_sl2, G.k_sh1, G.k_sh2, G.k_sh3, G.k_sh4, G.k_sh5, G.r_asgG, G.k_asgG, G.k_asgL, G.k_tg, G.r_nm, G.r_tup, G.r_tup1, G.r_tup3, G.r_tup4, G.r_nil, G.r_cons, G.r_V, G.k_V1, G.k_V2, G.k_V4, G.k_V3, G.r_C, G.p_val, G.p_fr, G.p_sl, G.pb_1, G.pb_2, G.pb_3, G.od_1, G.od_2, G.p_1, G.p_2, G.p_3, G.q_1, G.q_2, G.q_3, G.re_1, G.re_2, G.re_ite, G.st_1, G.st_2, G.st_3, G.r_op2, G.k_op2a, G.k_op2b, G.k_op2c, G.r_op1, G.k_op1, G.ob_some, G.r_said, G.k_said1, G.r_opN, G.k_opN, G.r_pk0, G.r_pk1, G.k_pk, G.r_anil, G.r_acons, G.k_acons, G.k_acons2, G.shs_v0, G.shs_v1, G.shs_v2, G.shs_v3, G.shs_v4, G.om_some, G.r_tupT, G.r_lstT, G.k_dt, G.k_dl, G.k_d1, G.k_d2, G.r_fB, G.k_fB, G.r_and, G.r_or, G.r_andV, G.r_orV, G.r_not, G.r_notV, G.k_not, G.k_notV, G.r_yes, G.r_ch, G.k_ch1, G.k_ch2, G.k_ch3, G.k_ch4, G.k_ch5, G.r_call, G.c1_nil, G.c1_t, G.c1_f, G.c1_s, G.c1_s1, G.c1_s2, G.k_ca, G.k_c1, G.k_c2, G.c2_nil, G.c2_v, G.c2_s, G.c2_s1, G.c2_s3, G.c2_s2, G.k_call, G.k_w1, G.k_w2, G.k_w3, G.k_wite, G.wb_nil, G.wb_none, G.wb_some, G.k_wb1, G.k_wb2, G.wbx_nil, G.wbx_none, G.ap_nil, G.ap_nil2, G.ap_cons, G.ma_nil, G.ma_cons, G.ds_nil, G.ds_none, G.ds_some, G.me_nil, G.me_none, G.me_some, G.ou_0, G.ou_s, G.ob_val, G.ob_own, G.ob_un, G.ob_exc, G.ob_prm, G.le_0, G.le_s, G.k_rf1, G.k_rf2, G.k_rf3, G.k_rf4, G.k_rs1, G.k_rs2, G.r_set, G.k_set1, G.k_set2, G.k_set3, G.k_set4, G.k_set5, G.k_set6, G.k_set7, G.k_set8, G.k_set9, G.r_mut, G.k_mu1, G.k_mu2, G.k_mu3, G.k_mu4, G.k_mu5, G.k_mu6, G.k_mu7, G.k_app, G.k_apps, G.r_par, G.k_par1, G.k_par2, G.k_par3, G.k_par4, G.k_par5, G.r_par3, G.k_p3a, G.k_p3b, G.r_parN, G.k_pn1, G.k_pn2, G.k_nx, G.ev_nil, G.ev_cons, G.k_ev1, G.k_ev2, G.rs_nil, G.rs_val, G.rs_fr, G.rs_sl, G.k_rsS1, G.k_rsS2, G.bn_nil, G.bn_val, G.bn_fr, G.r_rep, G.k_rp1, G.k_rp2, G.k_rp3, G.ixN_last, G.set_last, G.ix_last, G.r_for, G.k_for, G.fo_nil, G.fo_cons, G.k_fo0, G.k_fo1, G.k_fo2, G.k_fo3, G.k_fo4, G.r_turn, G.k_tu0, G.k_tu1, G.k_tu2, G.k_tu3, G.k_tu4, G.r_seqI, G.k_seqI, G.k_seqI1, G.k_seqI3, G.k_seqI5, G.k_seqI6, G.k_seqI4, G.k_seqI2, G.r_rng1, G.k_rng1, G.k_rng1b, G.r_rng2, G.k_rng2, G.k_rng2b, G.rgl_0, G.rgl_1, G.rgl_2, G.rgl_3, G.rgl_4, G.rgl_5, G.rgl_6, G.rgl_7, G.rgl_8, G.rgl_9, G.rgl_10, G.rgl_12, G.rgl_16, G.r1l_1, G.r1l_2, G.r1l_3, G.r1l_4, G.r1l_5, G.r1l_6, G.r1l_8, G.rpl_0, G.rpl_1, G.rpl_2, G.rpl_3, G.rpl_4, G.rpl_5, G.rpl_6, G.rpl_7, G.rpl_8, G.r_lc, G.k_lc, G.l_nil, G.l_cons, G.l_A, G.l_B, G.l_C, G.l_C2, G.l_C3, G.l_S1, G.l_S2, G.l_D, G.k_lc1, G.wi_nil, G.wi_cons, G.mulOk_l, G.mulOk_r, G.r_sl, G.k_sla, G.k_slb, G.k_slc, G.k_sld, G.pt_n, G.pt_s, G.k_pt, G.cu_t, G.cu_l, G.cu_1n, G.cu_2n, G.cu_n1, G.d_add, G.d_addT, G.d_addTs, G.d_addL, G.d_addLs, G.d_sub, G.d_mul, G.d_fdiv, G.d_mod, G.d_neg, G.d_cmp, G.d_ixT, G.d_ixL, G.at_0, G.at_1, G.at_2, G.at_3, G.d_lenL, G.d_lenT, G.d_tupL, G.d_tupT, G.d_all, G.k_all, G.d_any, G.k_any, G.bo_nil, G.bo_cons, G.al_nil, G.al_cons, G.al_map, G.an_nil, G.an_cons, G.an_map, G.id_b, G.bo_map, G.d_max, G.d_min, G.d_listL, G.d_listT, G.d_p18, G.d_p13, G.d_p12, G.d_is, G.d_abs, G.d_repr, G.d_eqS, G.d_neS, G.d_eqI, G.d_neI, G.d_isi, G.isy_int_none, G.isy_int_bool, G.isy_int_int, G.isy_int_str, G.isy_int_list, G.isy_int_tuple, G.isy_int_dict, G.isy_bool_none, G.isy_bool_bool, G.isy_bool_int, G.isy_bool_str, G.isy_bool_list, G.isy_bool_tuple, G.isy_bool_dict, G.isy_tuple_none, G.isy_tuple_bool, G.isy_tuple_int, G.isy_tuple_str, G.isy_tuple_list, G.isy_tuple_tuple, G.isy_tuple_dict, G.isy_list_none, G.isy_list_bool, G.isy_list_int, G.isy_list_str, G.isy_list_list, G.isy_list_tuple, G.isy_list_dict, G.isy_str_none, G.isy_str_bool, G.isy_str_int, G.isy_str_str, G.isy_str_list, G.isy_str_tuple, G.isy_str_dict, G.isy_dict_none, G.isy_dict_bool, G.isy_dict_int, G.isy_dict_str, G.isy_dict_list, G.isy_dict_tuple, G.isy_dict_dict, G.it_t, G.it_f, G.b_tt, G.b_ft, G.b_nt, G.b_nf, G.b_ta, G.b_fa, G.b_at, G.b_to, G.b_fo, G.lI_0, G.lI_1, G.lI_2, G.lI_3, G.lI_4, G.lI_5, G.lI_m, G.bs_f, G.es_f, G.bb_tt, G.bb_tf, G.bb_ft, G.bb_ff, G.bq_s, G.r_dic, G.k_dic1, G.k_dic2, G.k_dic3, G.k_dic4, G.k_kD1, G.k_kD2, G.k_fl0, G.k_fl1, G.k_pr0, G.k_pr1, G.k_pr2, G.r_dic0, G.d_ixDi, G.d_ixDs, G.d_inGT, G.d_inGL, G.d_ninGT, G.d_ninGL, G.d_inGi, G.d_ninGi, G.k_vals, G.k_items, G.d_setDi, G.dg_nil, G.dg_i, G.dg_s, G.mg_0, G.mg_s, G.dpk_n, G.ky_i, G.ky_s, G.d_eqX, G.d_neX, G.d_inT, G.d_inL, G.d_ninT, G.d_ninL, G.ev_ii, G.ev_bb, G.ev_ss, G.ev_nn, G.ev_tt, G.ev_ll, G.ev_0, G.ev_c, G.ev_c0, G.ev_0c, G.ev_none_bool, G.ev_none_int, G.ev_none_str, G.ev_none_list, G.ev_none_tuple, G.ev_bool_none, G.ev_bool_str, G.ev_bool_list, G.ev_bool_tuple, G.ev_int_none, G.ev_int_str, G.ev_int_list, G.ev_int_tuple, G.ev_str_none, G.ev_str_bool, G.ev_str_int, G.ev_str_list, G.ev_str_tuple, G.ev_list_none, G.ev_list_bool, G.ev_list_int, G.ev_list_str, G.ev_list_tuple, G.ev_tuple_none, G.ev_tuple_bool, G.ev_tuple_int, G.ev_tuple_str, G.ev_tuple_list, G.dec_t, G.not_dec, G.k_popA, G.k_popZ, G.k_pop1, G.r_ext, G.k_ext1, G.k_ext2, G.k_ext3, G.k_ext4, G.r_items, G.k_itemsJ, G.d_listD, G.d_intI, G.d_intB, G.d_strI, G.r_subG, G.k_sub1, G.k_sub2, G.k_sub3, G.k_sub4, G.k_sub5, G.k_sub6, G.k_sub7, G.r_tupL1, G.r_tupL2, G.r_tupL3, G.r_tupL4, G.d_isB, G.d_isnB, G.d_isnN, G.d_revL, G.d_revT, G.r_permA, G.k_perm1, G.k_perm2, G.k_perm3a, G.k_perm3b, G.k_perm3c, G.k_perm3d, G.k_perm3e, Int.reduceEq, Int.reduceLE, Int.reduceLT, Int.reduceAdd, Int.reduceSub, Int.reduceMul, Int.reduceNeg, Nat.reduceAdd, List.nil_append, not_true_eq_false, not_false_eq_true, and_true, true_and, and_false, false_and, or_true, true_or, or_false, false_or, decide_true, decide_false, eq_self, Bool.and_true, Bool.and_false, $ls,*])
  | `(tactic| simp? [$ls,*] at $h:ident) => `(tactic| simp (maxSteps := 1000000) (disch := first | assumption | (simp (disch := decide +kernel) only [G.sl_nil, G.sl_cons, List.cons_append, List.nil_append, G.shN_str, G.shN_tup, G.shN_lst, G.shN_int, G.shN_bool, G.shN_none, G.shA_nil, G.shA_cons, G.b_ta, G.ky_i, G.ky_s]; done) | exact G.len_ok (by simp only [G.sl_nil, G.sl_cons]) | decide | decide +kernel | exact G.mulOk_l (by decide) | exact G.mulOk_r (by decide) | omega) only [G.rb_ok, G.rb_ex, G.rb_bad, G.rb_ite, G.lz, G.ls, G.sz, G.ss, G.r_seq, G.k_seq1, G.k_seq2, G.k_seq3, G.k_seq4, G.r_nx, G.r_bk, G.r_ct, G.r_retN, G.r_ret, G.k_ret, G.r_drop, G.k_drop, G.r_if, G.r_ife, G.k_if, G.r_asg, G.k_asg1, G.k_asg2, G.k_asg3, G.k_sl1, G.k_sl2, G.k_sh1, G.k_sh2, G.k_sh3, G.k_sh4, G.k_sh5, G.r_asgG, G.k_asgG, G.k_asgL, G.k_tg, G.r_nm, G.r_tup, G.r_tup1, G.r_tup3, G.r_tup4, G.r_nil, G.r_cons, G.r_V, G.k_V1, G.k_V2, G.k_V4, G.k_V3, G.r_C, G.p_val, G.p_fr, G.p_sl, G.pb_1, G.pb_2, G.pb_3, G.od_1, G.od_2, G.p_1, G.p_2, G.p_3, G.q_1, G.q_2, G.q_3, G.re_1, G.re_2, G.re_ite, G.st_1, G.st_2, G.st_3, G.r_op2, G.k_op2a, G.k_op2b, G.k_op2c, G.r_op1, G.k_op1, G.ob_some, G.r_said, G.k_said1, G.r_opN, G.k_opN, G.r_pk0, G.r_pk1, G.k_pk, G.r_anil, G.r_acons, G.k_acons, G.k_acons2, G.shs_v0, G.shs_v1, G.shs_v2, G.shs_v3, G.shs_v4, G.om_some, G.r_tupT, G.r_lstT, G.k_dt, G.k_dl, G.k_d1, G.k_d2, G.r_fB, G.k_fB, G.r_and, G.r_or, G.r_andV, G.r_orV, G.r_not, G.r_notV, G.k_not, G.k_notV, G.r_yes, G.r_ch, G.k_ch1, G.k_ch2, G.k_ch3, G.k_ch4, G.k_ch5, G.r_call, G.c1_nil, G.c1_t, G.c1_f, G.c1_s, G.c1_s1, G.c1_s2, G.k_ca, G.k_c1, G.k_c2, G.c2_nil, G.c2_v, G.c2_s, G.c2_s1, G.c2_s3, G.c2_s2, G.k_call, G.k_w1, G.k_w2, G.k_w3, G.k_wite, G.wb_nil, G.wb_none, G.wb_some, G.k_wb1, G.k_wb2, G.wbx_nil, G.wbx_none, G.ap_nil, G.ap_nil2, G.ap_cons, G.ma_nil, G.ma_cons, G.ds_nil, G.ds_none, G.ds_some, G.me_nil, G.me_none, G.me_some, G.ou_0, G.ou_s, G.ob_val, G.ob_own, G.ob_un, G.ob_exc, G.ob_prm, G.le_0, G.le_s, G.k_rf1, G.k_rf2, G.k_rf3, G.k_rf4, G.k_rs1, G.k_rs2, G.r_set, G.k_set1, G.k_set2, G.k_set3, G.k_set4, G.k_set5, G.k_set6, G.k_set7, G.k_set8, G.k_set9, G.r_mut, G.k_mu1, G.k_mu2, G.k_mu3, G.k_mu4, G.k_mu5, G.k_mu6, G.k_mu7, G.k_app, G.k_apps, G.r_par, G.k_par1, G.k_par2, G.k_par3, G.k_par4, G.k_par5, G.r_par3, G.k_p3a, G.k_p3b, G.r_parN, G.k_pn1, G.k_pn2, G.k_nx, G.ev_nil, G.ev_cons, G.k_ev1, G.k_ev2, G.rs_nil, G.rs_val, G.rs_fr, G.rs_sl, G.k_rsS1, G.k_rsS2, G.bn_nil, G.bn_val, G.bn_fr, G.r_rep, G.k_rp1, G.k_rp2, G.k_rp3, G.ixN_last, G.set_last, G.ix_last, G.r_for, G.k_for, G.fo_nil, G.fo_cons, G.k_fo0, G.k_fo1, G.k_fo2, G.k_fo3, G.k_fo4, G.r_turn, G.k_tu0, G.k_tu1, G.k_tu2, G.k_tu3, G.k_tu4, G.r_seqI, G.k_seqI, G.k_seqI1, G.k_seqI3, G.k_seqI5, G.k_seqI6, G.k_seqI4, G.k_seqI2, G.r_rng1, G.k_rng1, G.k_rng1b, G.r_rng2, G.k_rng2, G.k_rng2b, G.rgl_0, G.rgl_1, G.rgl_2, G.rgl_3, G.rgl_4, G.rgl_5, G.rgl_6, G.rgl_7, G.rgl_8, G.rgl_9, G.rgl_10, G.rgl_12, G.rgl_16, G.r1l_1, G.r1l_2, G.r1l_3, G.r1l_4, G.r1l_5, G.r1l_6, G.r1l_8, G.rpl_0, G.rpl_1, G.rpl_2, G.rpl_3, G.rpl_4, G.rpl_5, G.rpl_6, G.rpl_7, G.rpl_8, G.r_lc, G.k_lc, G.l_nil, G.l_cons, G.l_A, G.l_B, G.l_C, G.l_C2, G.l_C3, G.l_S1, G.l_S2, G.l_D, G.k_lc1, G.wi_nil, G.wi_cons, G.mulOk_l, G.mulOk_r, G.r_sl, G.k_sla, G.k_slb, G.k_slc, G.k_sld, G.pt_n, G.pt_s, G.k_pt, G.cu_t, G.cu_l, G.cu_1n, G.cu_2n, G.cu_n1, G.d_add, G.d_addT, G.d_addTs, G.d_addL, G.d_addLs, G.d_sub, G.d_mul, G.d_fdiv, G.d_mod, G.d_neg, G.d_cmp, G.d_ixT, G.d_ixL, G.at_0, G.at_1, G.at_2, G.at_3, G.d_lenL, G.d_lenT, G.d_tupL, G.d_tupT, G.d_all, G.k_all, G.d_any, G.k_any, G.bo_nil, G.bo_cons, G.al_nil, G.al_cons, G.al_map, G.an_nil, G.an_cons, G.an_map, G.id_b, G.bo_map, G.d_max, G.d_min, G.d_listL, G.d_listT, G.d_p18, G.d_p13, G.d_p12, G.d_is, G.d_abs, G.d_repr, G.d_eqS, G.d_neS, G.d_eqI, G.d_neI, G.d_isi, G.isy_int_none, G.isy_int_bool, G.isy_int_int, G.isy_int_str, G.isy_int_list, G.isy_int_tuple, G.isy_int_dict, G.isy_bool_none, G.isy_bool_bool, G.isy_bool_int, G.isy_bool_str, G.isy_bool_list, G.isy_bool_tuple, G.isy_bool_dict, G.isy_tuple_none, G.isy_tuple_bool, G.isy_tuple_int, G.isy_tuple_str, G.isy_tuple_list, G.isy_tuple_tuple, G.isy_tuple_dict, G.isy_list_none, G.isy_list_bool, G.isy_list_int, G.isy_list_str, G.isy_list_list, G.isy_list_tuple, G.isy_list_dict, G.isy_str_none, G.isy_str_bool, G.isy_str_int, G.isy_str_str, G.isy_str_list, G.isy_str_tuple, G.isy_str_dict, G.isy_dict_none, G.isy_dict_bool, G.isy_dict_int, G.isy_dict_str, G.isy_dict_list, G.isy_dict_tuple, G.isy_dict_dict, G.it_t, G.it_f, G.b_tt, G.b_ft, G.b_nt, G.b_nf, G.b_ta, G.b_fa, G.b_at, G.b_to, G.b_fo, G.lI_0, G.lI_1, G.lI_2, G.lI_3, G.lI_4, G.lI_5, G.lI_m, G.bs_f, G.es_f, G.bb_tt, G.bb_tf, G.bb_ft, G.bb_ff, G.bq_s, G.r_dic, G.k_dic1, G.k_dic2, G.k_dic3, G.k_dic4, G.k_kD1, G.k_kD2, G.k_fl0, G.k_fl1, G.k_pr0, G.k_pr1, G.k_pr2, G.r_dic0, G.d_ixDi, G.d_ixDs, G.d_inGT, G.d_inGL, G.d_ninGT, G.d_ninGL, G.d_inGi, G.d_ninGi, G.k_vals, G.k_items, G.d_setDi, G.dg_nil, G.dg_i, G.dg_s, G.mg_0, G.mg_s, G.dpk_n, G.ky_i, G.ky_s, G.d_eqX, G.d_neX, G.d_inT, G.d_inL, G.d_ninT, G.d_ninL, G.ev_ii, G.ev_bb, G.ev_ss, G.ev_nn, G.ev_tt, G.ev_ll, G.ev_0, G.ev_c, G.ev_c0, G.ev_0c, G.ev_none_bool, G.ev_none_int, G.ev_none_str, G.ev_none_list, G.ev_none_tuple, G.ev_bool_none, G.ev_bool_str, G.ev_bool_list, G.ev_bool_tuple, G.ev_int_none, G.ev_int_str, G.ev_int_list, G.ev_int_tuple, G.ev_str_none, G.ev_str_bool, G.ev_str_int, G.ev_str_list, G.ev_str_tuple, G.ev_list_none, G.ev_list_bool, G.ev_list_int, G.ev_list_str, G.ev_list_tuple, G.ev_tuple_none, G.ev_tuple_bool, G.ev_tuple_int, G.ev_tuple_str, G.ev_tuple_list, G.dec_t, G.not_dec, G.k_popA, G.k_popZ, G.k_pop1, G.r_ext, G.k_ext1, G.k_ext2, G.k_ext3, G.k_ext4, G.r_items, G.k_itemsJ, G.d_listD, G.d_intI, G.d_intB, G.d_strI, G.r_subG, G.k_sub1, G.k_sub2, G.k_sub3, G.k_sub4, G.k_sub5, G.k_sub6, G.k_sub7, G.r_tupL1, G.r_tupL2, G.r_tupL3, G.r_tupL4, G.d_isB, G.d_isnB, G.d_isnN, G.d_revL, G.d_revT, G.r_permA, G.k_perm1, G.k_perm2, G.k_perm3a, G.k_perm3b, G.k_perm3c, G.k_perm3d, G.k_perm3e, Int.reduceEq, Int.reduceLE, Int.reduceLT, Int.reduceAdd, Int.reduceSub, Int.reduceMul, Int.reduceNeg, Nat.reduceAdd, List.nil_append, not_true_eq_false, not_false_eq_true, and_true, true_and, and_false, false_and, or_true, true_or, or_false, false_or, decide_true, decide_false, eq_self, Bool.and_true, Bool.and_false, $ls,*] at $h:ident)
/-! ### the text of an integer -/
def intX (i : Int) : Str := (toString i : String)
theorem intX_nat (n : Nat) : tl (intX (n : Int)) = numL n := tl_num n
theorem intX_neg (n : Nat) : tl (intX (Int.negSucc n)) = 45 :: numL (n + 1) := by
  show tl (Str.ofString ("-" ++ toString (n + 1))) = _
  rw [tl_ofString, String.toList_append, List.map_append]
  have : (toString (n + 1)).toList.map Char.toNat = numL (n + 1) := by rw [← tl_num (n + 1), tl_ofString]; rfl
  rw [this]
  rfl
/-- the signs of an integer -/
theorem intX_cases (i : Int) : (∃ n : Nat, i = n ∧ tl (intX i) = numL n) ∨ ∃ n : Nat, i = Int.negSucc n ∧ tl (intX i) = 45 :: numL (n + 1) := by
  cases i with
  | ofNat n => exact .inl ⟨n, rfl, intX_nat n⟩
  | negSucc n => exact .inr ⟨n, rfl, intX_neg n⟩
theorem intX_signs (i : Int) {c : Nat} (h : c ∈ tl (intX i)) : c = 45 ∨ (48 ≤ c ∧ c ≤ 57) := by
  rcases intX_cases i with ⟨n, _, e⟩ | ⟨n, _, e⟩ <;> rw [e] at h
  · exact .inr (numL_digits n c h)
  · rcases List.mem_cons.mp h with h | h
    · exact .inl h
    · exact .inr (numL_digits _ c h)
theorem sm_ten {i : Int} (h : Sm i) : i.natAbs < 10 ^ 31 := Nat.lt_of_lt_of_le h (by decide)
theorem intX_len {i : Int} (h : Sm i) : (intX i).length ≤ 32 := by
  have := sm_ten h
  rw [len_tl]
  rcases intX_cases i with ⟨n, rfl, e⟩ | ⟨n, rfl, e⟩ <;> rw [e]
  · have := numL_len (n := n) (k := 31) (by decide) (by omega)
    omega
  · have := numL_len (n := n + 1) (k := 31) (by decide) (by omega)
    rw [List.length_cons]
    omega
theorem intX_log {i : Int} (h : Sm i) : i.natAbs.log2 < 1920 := by
  by_cases z : i.natAbs = 0
  · rw [z]; decide
  · exact (Nat.log2_lt z).mpr (Nat.lt_of_lt_of_le h (Nat.pow_le_pow_right (by decide) (by decide)))
theorem d_strX {i : Int} (h : Sm i) : toStrD [.int i] = some (.val (.str (intX i))) := if_pos (intX_log h)
theorem fs_int {acc : Str} {i : Int} (h : Sm i) (ha : acc.length ≤ 1000) : fsStep acc (.int i) = some (acc ++ intX i) := by
  refine k_fsI ⟨intX_log h, ?_⟩
  show (acc ++ intX i).length ≤ sizeLine
  have := intX_len h
  rw [Str.length_append, sizeLine_eq]
  omega
theorem fs_str {acc y : Str} (ha : acc.length ≤ 1000) (hy : y.length ≤ 1000) : fsStep acc (.str y) = some (acc ++ y) := by
  refine k_fsS ⟨?_, ?_⟩
  · rw [sizeLine_eq]; omega
  · rw [Str.length_append, sizeLine_eq]; omega
theorem add_str {a b : Str} (ha : a.length ≤ 1000) (hb : b.length ≤ 1000) : addD (.str a) (.str b) = some (.val (.str (a ++ b))) := if_pos (by rw [sizeLine_eq]; omega)
/-- the text of a square, of a symmetry -/
def sqX (x y : Int) : Str := intX x ++ "," ++ intX y
def symX (s : Sym) : Str := intX s.k.i ++ ":" ++ intX s.x ++ "," ++ intX s.y
theorem kd_sm (k : Kd) : Sm k.i := by cases k <;> (unfold Sm; decide)
theorem sqX_len {x y : Int} (hx : Sm x) (hy : Sm y) : (sqX x y).length ≤ 65 := by
  have h1 := intX_len hx
  have h2 := intX_len hy
  unfold sqX
  rw [Str.length_append, Str.length_append]
  have : (("," : Str)).length = 1 := rfl
  omega
theorem symX_eq (s : Sym) : symX s = intX s.k.i ++ ":" ++ sqX s.x s.y := by
  unfold symX sqX
  rw [Str.append_assoc (intX s.k.i ++ ":" ++ intX s.x), Str.append_assoc (intX s.k.i ++ ":"), ← Str.append_assoc (intX s.x)]
theorem symX_len {s : Sym} (hx : Sm s.x) (hy : Sm s.y) : (symX s).length ≤ 100 := by
  have h1 := intX_len (kd_sm s.k)
  have h2 := sqX_len hx hy
  rw [symX_eq, Str.length_append, Str.length_append]
  have : ((":" : Str)).length = 1 := rfl
  omega
theorem square_text_ok {x y : Int} (hx : Sm x) (hy : Sm y) : F_square_text [.val (.tuple [.int x, .int y])] = .ok (.val (.str (sqX x y)), [.un]) := by
  have l1 := intX_len hx
  have c2 : (("," : Str)).length = 1 := rfl
  have f1 := fs_int (acc := Str.empty) hx (by decide)
  rw [Str.empty_append] at f1
  have f2 := fs_str (acc := intX x) (y := ",") (by omega) (by omega)
  have f3 := fs_int (acc := intX x ++ ",") hy (by rw [Str.length_append]; omega)
  unfold sqX
  generalize intX x = t1 at *
  generalize intX y = t2 at *
  rw [r_square_text]
  unfold B_square_text
  simp? [r_fsE, r_fs0, r_fs1, k_fs1, k_fs2, f1, f2, f3]
theorem symmetry_text_ok {s : Sym} (hx : Sm s.x) (hy : Sm s.y) : F_symmetry_text [.val s.d] = .ok (.val (.str (symX s)), [.un]) := by
  have l1 := intX_len (kd_sm s.k)
  have l2 := sqX_len hx hy
  have c2 : ((":" : Str)).length = 1 := rfl
  have f1 := fs_int (acc := Str.empty) (kd_sm s.k) (by decide)
  rw [Str.empty_append] at f1
  have f2 := fs_str (acc := intX s.k.i) (y := ":") (by omega) (by omega)
  have f3 := fs_str (acc := intX s.k.i ++ ":") (y := sqX s.x s.y) (by rw [Str.length_append]; omega) (by omega)
  have e := square_text_ok hx hy
  show F_symmetry_text [.val (.tuple [.int s.k.i, .int s.x, .int s.y])] = _
  rw [symX_eq]
  generalize intX s.k.i = t1 at *
  generalize sqX s.x s.y = t2 at *
  rw [r_symmetry_text]
  unfold B_symmetry_text
  simp? [r_fsE, r_fs0, r_fs1, k_fs1, k_fs2, f1, f2, f3, e]
/-! ### reading -/
theorem numL_head (n : Nat) : ∀ r, numL n = 48 :: r → n = 0 := by
  induction n using Nat.strongRecOn with
  | _ n ih =>
    intro r h
    by_cases h1 : n < 10
    · rw [numL_lt h1] at h
      injection h with h
      omega
    · rw [numL_step (by omega)] at h
      obtain ⟨c, q, e⟩ := List.exists_cons_of_ne_nil (numL_ne (n / 10))
      rw [e, List.cons_append] at h
      injection h with h h'
      rw [h] at e
      have := ih (n / 10) (by omega) q e
      omega
theorem natural_in_ok {n : Nat} (h : Sm n) : F_natural_in [.val (.str (intX n))] = .ok (.val (.int n), [.un]) := by
  have et := intX_nat n
  have ln := intX_len h
  obtain ⟨c, r, e⟩ := List.exists_cons_of_ne_nil (numL_ne n)
  have ei : intText? (intX n) = some (n : Int) := int_num (by rw [← et, ← len_tl]; omega)
  have ed : intTD [.str (intX n)] = some (.val (.int n)) := d_intT (by omega) ei
  have dg : ∀ c ∈ tl (intX n), c ∈ tl ("0123456789" : Str) := fun c hc => by
    rw [et] at hc
    have := numL_digits n c hc
    have key : ∀ d : Nat, d < 10 → 48 + d ∈ tl ("0123456789" : Str) := by decide
    have k := key (c - 48) (by omega)
    rwa [show 48 + (c - 48) = c by omega] at k
  have lc : ∀ b0 : B, lcL (nmG 1) yesB (op2 inSgD (fV 1) (fC c_DIGITS)) [1] 0 ((tl (intX n)).map fun c => .str ⟨#[c]⟩) [b0, .un] = some ((tl (intX n)).map fun _ => .bool true, [b0, .un]) := fun b0 => lc_map (fun _ => .bool true) (fun c hc => by
    have := dg c hc
    simp? [d_inSg, decide_eq_true this]) (by rw [← len_tl, sizeLine_eq]; omega)
  have w1 : (intX n == ("" : Str)) = false := by
    rw [beq_eq_false_iff_ne]
    intro q
    have : tl (intX n) = [] := by rw [q]; rfl
    rw [et] at this
    exact numL_ne n this
  have ix : ixD (.str (intX n)) (.int 0) = some (.val (.str ⟨#[c]⟩)) := by
    show (if (intX n).length ≤ sizeLine then _ else _) = _
    rw [if_pos (by rw [sizeLine_eq]; omega)]
    show (atI (tl (intX n)) 0).map _ = _
    rw [et, e, at_0]
    rfl
  have bt : boolsD ((tl (intX n)).map fun _ => PyData.bool true) = some ((tl (intX n)).map fun _ => true) := bo_map (u := fun _ => true)
  have ba : ((tl (intX n)).map fun _ : Nat => true).all id = true := by simp
  by_cases hc : c = 48
  · have n0 : n = 0 := numL_head n r (by rw [e, hc])
    have w2 : (intX n == ("0" : Str)) = true := by rw [n0]; decide
    have w3 : ((⟨#[c]⟩ : Str) == ("0" : Str)) = true := by rw [hc]; decide
    generalize intX n = w at *
    rw [r_natural_in]
    unfold B_natural_in
    simp? [w1, w2, w3, k_seqIS, lc, ix, ed, bt, ba]
  · have w3 : ((⟨#[c]⟩ : Str) == ("0" : Str)) = false := by
      rw [beq_eq_false_iff_ne]
      intro q
      have : tl (⟨#[c]⟩ : Str) = tl ("0" : Str) := by rw [q]
      injection this with this
      exact hc this
    generalize intX n = w at *
    rw [r_natural_in]
    unfold B_natural_in
    simp? [w1, w3, k_seqIS, lc, ix, ed, bt, ba]
theorem nn_int (i : Int) : isNoneD (.int i) = false := id rfl
theorem nn_tup (ds : List PyData) : isNoneD (.tuple ds) = false := id rfl
theorem cutS_1 (c : Nat) (z : Str) (r : List Nat) (h : tl z = c :: r) : cutS z none (some 1) = ⟨#[c]⟩ := by
  refine ext_tl ?_
  show (((tl z).drop (HT.sIx z.length 0 none)).take (HT.sIx z.length z.length (some 1) - HT.sIx z.length 0 none)) = [c]
  rw [len_tl, h]
  exact cu_n1
theorem cutS_r (c : Nat) (z w : Str) (h : tl z = c :: tl w) : cutS z (some 1) none = w := by
  refine ext_tl ?_
  show (((tl z).drop (HT.sIx z.length 0 (some 1))).take (HT.sIx z.length z.length none - HT.sIx z.length 0 (some 1))) = tl w
  rw [len_tl, h]
  exact cu_1n
theorem integer_in_ok {i : Int} (h : Sm i) : F_integer_in [.val (.str (intX i))] = .ok (.val (.int i), [.un]) := by
  have ln := intX_len h
  have lz : (intX i).length ≤ sizeLine := by rw [sizeLine_eq]; omega
  have c1 : ∀ o o2, cutD (.str (intX i)) o o2 = some (.val (.str (cutS (intX i) o o2))) := fun o o2 => if_pos lz
  rcases intX_cases i with ⟨n, rfl, e⟩ | ⟨n, rfl, e⟩
  · obtain ⟨c, r, e2⟩ := List.exists_cons_of_ne_nil (numL_ne n)
    have a := cutS_1 c (intX n) r (e.trans e2)
    have dc := numL_digits n c (by rw [e2]; exact List.mem_cons_self ..)
    have w : ((⟨#[c]⟩ : Str) == ("-" : Str)) = false := by
      rw [beq_eq_false_iff_ne]
      intro q
      have : tl (⟨#[c]⟩ : Str) = tl ("-" : Str) := by rw [q]
      have : [c] = [45] := this
      injection this with this
      omega
    have en := natural_in_ok h
    have cc := c1 none (some 1)
    rw [a] at cc
    generalize intX (n : Int) = t at *
    rw [r_integer_in]
    unfold B_integer_in
    simp? [cc, w, en]
  · have hn : Sm ((n + 1 : Nat) : Int) := h
    have a := cutS_1 45 (intX (Int.negSucc n)) _ e
    have b := cutS_r 45 (intX (Int.negSucc n)) (intX ((n + 1 : Nat) : Int)) (by rw [e, intX_nat])
    have w : ((⟨#[45]⟩ : Str) == ("-" : Str)) = true := by decide
    have en := natural_in_ok hn
    have cc := c1 none (some 1)
    rw [a] at cc
    have cd := c1 (some 1) none
    rw [b] at cd
    have nz : ¬ ((n + 1 : Nat) : Int) = 0 := by omega
    have ee : (0 : Int) - ((n + 1 : Nat) : Int) = Int.negSucc n := by omega
    generalize intX (Int.negSucc n) = t at *
    generalize intX ((n + 1 : Nat) : Int) = t2 at *
    generalize ((n + 1 : Nat) : Int) = m at *
    rw [r_integer_in]
    unfold B_integer_in
    simp? [cc, cd, w, en, nz, ee, nn_int]
theorem split_ok {y : Str} {s : Nat} (ey : tl y = [s]) (hs : s < 256) {parts : List Str} (hne : parts ≠ []) (hp : ∀ p ∈ parts, s ∉ tl p) {x : Str} (ex : Txt.join y parts = x) (hx : x.length ≤ 100000) : splitD (.str x) (.str y) = some (.fr (.list (parts.map PyData.str))) := by
  refine d_split ⟨?_, ?_⟩ ?_
  · rw [len_tl, ey]; rfl
  · rw [sizeLine_eq]; omega
  · rw [← ex]
    refine split_join ey ?_ hne hp
    rw [← Array.all_toList]
    show (tl y).all _ = true
    rw [ey]
    simpa using hs
theorem sqX_join (x y : Int) : Txt.join "," [intX x, intX y] = sqX x y := join_eq "," [intX x, intX y]
theorem square_in_ok {x y : Int} (hx : Sm x) (hy : Sm y) : F_square_in [.val (.str (sqX x y))] = .ok (.val (.tuple [.int x, .int y]), [.un]) := by
  have sp := split_ok (y := ",") (s := 44) rfl (by decide) (parts := [intX x, intX y]) (by simp) (fun p hp => by
    simp only [List.mem_cons, List.not_mem_nil, or_false] at hp
    intro h
    rcases hp with rfl | rfl
    · have := intX_signs x h; omega
    · have := intX_signs y h; omega) (sqX_join x y) (by have := sqX_len hx hy; omega)
  have e1 := integer_in_ok hx
  have e2 := integer_in_ok hy
  have nn : ninG .none (.tuple [.int x, .int y]) = some (.val (.bool true)) := rfl
  rw [List.map_cons, List.map_cons, List.map_nil] at sp
  generalize sqX x y = t at *
  generalize intX x = t1 at *
  generalize intX y = t2 at *
  rw [r_square_in]
  unfold B_square_in
  simp? [r_smE, k_sm1, k_sm2, k_sm3, k_sm4, sp, e1, e2, nn]
theorem symX_join (s : Sym) : Txt.join ":" [intX s.k.i, sqX s.x s.y] = symX s := (join_eq ":" [intX s.k.i, sqX s.x s.y]).trans (symX_eq s).symm
theorem sqX_signs (x y : Int) {c : Nat} (h : c ∈ tl (sqX x y)) : c = 45 ∨ c = 44 ∨ (48 ≤ c ∧ c ≤ 57) := by
  unfold sqX at h
  rw [tl_append, tl_append] at h
  rcases List.mem_append.mp h with h | h
  · rcases List.mem_append.mp h with h | h
    · have := intX_signs x h; omega
    · rw [List.mem_singleton.mp (show c ∈ [44] from h)]; omega
  · have := intX_signs y h; omega
theorem symX_signs (s : Sym) {c : Nat} (h : c ∈ tl (symX s)) : c = 45 ∨ c = 44 ∨ (48 ≤ c ∧ c ≤ 58) := by
  rw [symX_eq, tl_append, tl_append] at h
  rcases List.mem_append.mp h with h | h
  · rcases List.mem_append.mp h with h | h
    · have := intX_signs _ h; omega
    · rw [List.mem_singleton.mp (show c ∈ [58] from h)]; omega
  · have := sqX_signs _ _ h; omega
theorem symmetry_in_ok {s : Sym} (hx : Sm s.x) (hy : Sm s.y) : F_symmetry_in [.val (.str (symX s))] = .ok (.val s.d, [.un]) := by
  have sp := split_ok (y := ":") (s := 58) rfl (by decide) (parts := [intX s.k.i, sqX s.x s.y]) (by simp) (fun p hp => by
    simp only [List.mem_cons, List.not_mem_nil, or_false] at hp
    intro h
    rcases hp with rfl | rfl
    · have := intX_signs _ h; omega
    · have := sqX_signs _ _ h; omega) (symX_join s) (by have := symX_len hx hy; omega)
  obtain ⟨n, hn⟩ : ∃ n : Nat, s.k.i = n := ⟨s.k.i.toNat, by cases s.k <;> rfl⟩
  have e1 : F_natural_in [.val (.str (intX s.k.i))] = .ok (.val (.int s.k.i), [.un]) := by
    have := kd_sm s.k
    rw [hn] at this ⊢
    exact natural_in_ok this
  have e2 := square_in_ok hx hy
  have is : F_is_symmetry [.val (.tuple [.int s.k.i, .int s.x, .int s.y])] = .ok (.val (.bool true), [.un]) := is_symmetry_ok
  rw [List.map_cons, List.map_cons, List.map_nil] at sp
  show F_symmetry_in [.val (.str (symX s))] = .ok (.val (.tuple [.int s.k.i, .int s.x, .int s.y]), [.un])
  generalize symX s = t at *
  generalize intX s.k.i = t1 at *
  generalize sqX s.x s.y = t2 at *
  rw [r_symmetry_in]
  unfold B_symmetry_in
  simp? [r_smE, k_sm1, k_sm2, k_sm3, k_sm4, sp, e1, e2, is, nn_int, nn_tup]
end M
namespace M
open PySem PySem.Spec PyProof.Rows L2 G TL
local macro_rules
  | `(tactic| simp? [$ls,*]) => `(tactic| simp (maxSteps := 1000000) (disch := first | assumption | (simp (disch := decide +kernel) only [G.sl_nil, G.sl_cons, List.cons_append, List.nil_append, G.shN_str, G.shN_tup, G.shN_lst, G.shN_int, G.shN_bool, G.shN_none, G.shA_nil, G.shA_cons, G.b_ta, G.ky_i, G.ky_s]; done) | exact G.len_ok (by simp only [G.sl_nil, G.sl_cons]) | decide | decide +kernel | exact G.mulOk_l (by decide) | exact G.mulOk_r (by decide) | omega) only [G.rb_ok, G.rb_ex, G.rb_bad, G.rb_ite, G.lz, G.ls, G.sz, G.ss, G.r_seq, G.k_seq1, G.k_seq2, G.k_seq3, G.k_seq4, G.r_nx, G.r_bk, G.r_ct, G.r_retN, G.r_ret, G.k_ret, G.r_drop, G.k_drop, G.r_if, G.r_ife, G.k_if, G.r_asg, G.k_asg1, G.k_asg2, G.k_asg3, G.k_sl1, G.k_sl2, G.k_sh1, G.k_sh2, G.k_sh3, G.k_sh4, G.k_sh5, G.r_asgG, G.k_asgG, G.k_asgL, G.k_tg, G.r_nm, G.r_tup, G.r_tup1, G.r_tup3, G.r_tup4, G.r_nil, G.r_cons, G.r_V, G.k_V1, G.k_V2, G.k_V4, G.k_V3, G.r_C, G.p_val, G.p_fr, G.p_sl, G.pb_1, G.pb_2, G.pb_3, G.od_1, G.od_2, G.p_1, G.p_2, G.p_3, G.q_1, G.q_2, G.q_3, G.re_1, G.re_2, G.re_ite, G.st_1, G.st_2, G.st_3, G.r_op2, G.k_op2a, G.k_op2b, G.k_op2c, G.r_op1, G.k_op1, G.ob_some, G.r_said, G.k_said1, G.r_opN, G.k_opN, G.r_pk0, G.r_pk1, G.k_pk, G.r_anil, G.r_acons, G.k_acons, G.k_acons2, G.shs_v0, G.shs_v1, G.shs_v2, G.shs_v3, G.shs_v4, G.om_some, G.r_tupT, G.r_lstT, G.k_dt, G.k_dl, G.k_d1, G.k_d2, G.r_fB, G.k_fB, G.r_and, G.r_or, G.r_andV, G.r_orV, G.r_not, G.r_notV, G.k_not, G.k_notV, G.r_yes, G.r_ch, G.k_ch1, G.k_ch2, G.k_ch3, G.k_ch4, G.k_ch5, G.r_call, G.c1_nil, G.c1_t, G.c1_f, G.c1_s, G.c1_s1, G.c1_s2, G.k_ca, G.k_c1, G.k_c2, G.c2_nil, G.c2_v, G.c2_s, G.c2_s1, G.c2_s3, G.c2_s2, G.k_call, G.k_w1, G.k_w2, G.k_w3, G.k_wite, G.wb_nil, G.wb_none, G.wb_some, G.k_wb1, G.k_wb2, G.wbx_nil, G.wbx_none, G.ap_nil, G.ap_nil2, G.ap_cons, G.ma_nil, G.ma_cons, G.ds_nil, G.ds_none, G.ds_some, G.me_nil, G.me_none, G.me_some, G.ou_0, G.ou_s, G.ob_val, G.ob_own, G.ob_un, G.ob_exc, G.ob_prm, G.le_0, G.le_s, G.k_rf1, G.k_rf2, G.k_rf3, G.k_rf4, G.k_rs1, G.k_rs2, G.r_set, G.k_set1, G.k_set2, G.k_set3, G.k_set4, G.k_set5, G.k_set6, G.k_set7, G.k_set8, G.k_set9, G.r_mut, G.k_mu1, G.k_mu2, G.k_mu3, G.k_mu4, G.k_mu5, G.k_mu6, G.k_mu7, G.k_app, G.k_apps, G.r_par, G.k_par1, G.k_par2, G.k_par3, G.k_par4, G.k_par5, G.r_par3, G.k_p3a, G.k_p3b, G.r_parN, G.k_pn1, G.k_pn2, G.k_nx, G.ev_nil, G.ev_cons, G.k_ev1, G.k_ev2, G.rs_nil, G.rs_val, G.rs_fr, G.rs_sl, G.k_rsS1, G.k_rsS2, G.bn_nil, G.bn_val, G.bn_fr, G.r_rep, G.k_rp1, G.k_rp2, G.k_rp3, G.ixN_last, G.set_last, G.ix_last, G.r_for, G.k_for, G.fo_nil, G.fo_cons, G.k_fo0, G.k_fo1, G.k_fo2, G.k_fo3, G.k_fo4, G.r_turn, G.k_tu0, G.k_tu1, G.k_tu2, G.k_tu3, G.k_tu4, G.r_seqI, G.k_seqI, G.k_seqI1, G.k_seqI3, G.k_seqI5, G.k_seqI6, G.k_seqI4, G.k_seqI2, G.r_rng1, G.k_rng1, G.k_rng1b, G.r_rng2, G.k_rng2, G.k_rng2b, G.rgl_0, G.rgl_1, G.rgl_2, G.rgl_3, G.rgl_4, G.rgl_5, G.rgl_6, G.rgl_7, G.rgl_8, G.rgl_9, G.rgl_10, G.rgl_12, G.rgl_16, G.r1l_1, G.r1l_2, G.r1l_3, G.r1l_4, G.r1l_5, G.r1l_6, G.r1l_8, G.rpl_0, G.rpl_1, G.rpl_2, G.rpl_3, G.rpl_4, G.rpl_5, G.rpl_6, G.rpl_7, G.rpl_8, G.r_lc, G.k_lc, G.l_nil, G.l_cons, G.l_A, G.l_B, G.l_C, G.l_C2, G.l_C3, G.l_S1, G.l_S2, G.l_D, G.k_lc1, G.wi_nil, G.wi_cons, G.mulOk_l, G.mulOk_r, G.r_sl, G.k_sla, G.k_slb, G.k_slc, G.k_sld, G.pt_n, G.pt_s, G.k_pt, G.cu_t, G.cu_l, G.cu_1n, G.cu_2n, G.cu_n1, G.d_add, G.d_addT, G.d_addTs, G.d_addL, G.d_addLs, G.d_sub, G.d_mul, G.d_fdiv, G.d_mod, G.d_neg, G.d_cmp, G.d_ixT, G.d_ixL, G.at_0, G.at_1, G.at_2, G.at_3, G.d_lenL, G.d_lenT, G.d_tupL, G.d_tupT, G.d_all, G.k_all, G.d_any, G.k_any, G.bo_nil, G.bo_cons, G.al_nil, G.al_cons, G.al_map, G.an_nil, G.an_cons, G.an_map, G.id_b, G.bo_map, G.d_max, G.d_min, G.d_listL, G.d_listT, G.d_p18, G.d_p13, G.d_p12, G.d_is, G.d_abs, G.d_repr, G.d_eqS, G.d_neS, G.d_eqI, G.d_neI, G.d_isi, G.isy_int_none, G.isy_int_bool, G.isy_int_int, G.isy_int_str, G.isy_int_list, G.isy_int_tuple, G.isy_int_dict, G.isy_bool_none, G.isy_bool_bool, G.isy_bool_int, G.isy_bool_str, G.isy_bool_list, G.isy_bool_tuple, G.isy_bool_dict, G.isy_tuple_none, G.isy_tuple_bool, G.isy_tuple_int, G.isy_tuple_str, G.isy_tuple_list, G.isy_tuple_tuple, G.isy_tuple_dict, G.isy_list_none, G.isy_list_bool, G.isy_list_int, G.isy_list_str, G.isy_list_list, G.isy_list_tuple, G.isy_list_dict, G.isy_str_none, G.isy_str_bool, G.isy_str_int, G.isy_str_str, G.isy_str_list, G.isy_str_tuple, G.isy_str_dict, G.isy_dict_none, G.isy_dict_bool, G.isy_dict_int, G.isy_dict_str, G.isy_dict_list, G.isy_dict_tuple, G.isy_dict_dict, G.it_t, G.it_f, G.b_tt, G.b_ft, G.b_nt, G.b_nf, G.b_ta, G.b_fa, G.b_at, G.b_to, G.b_fo, G.lI_0, G.lI_1, G.lI_2, G.lI_3, G.lI_4, G.lI_5, G.lI_m, G.bs_f, G.es_f, G.bb_tt, G.bb_tf, G.bb_ft, G.bb_ff, G.bq_s, G.r_dic, G.k_dic1, G.k_dic2, G.k_dic3, G.k_dic4, G.k_kD1, G.k_kD2, G.k_fl0, G.k_fl1, G.k_pr0, G.k_pr1, G.k_pr2, G.r_dic0, G.d_ixDi, G.d_ixDs, G.d_inGT, G.d_inGL, G.d_ninGT, G.d_ninGL, G.d_inGi, G.d_ninGi, G.k_vals, G.k_items, G.d_setDi, G.dg_nil, G.dg_i, G.dg_s, G.mg_0, G.mg_s, G.dpk_n, G.ky_i, G.ky_s, G.d_eqX, G.d_neX, G.d_inT, G.d_inL, G.d_ninT, G.d_ninL, G.ev_ii, G.ev_bb, G.ev_ss, G.ev_nn, G.ev_tt, G.ev_ll, G.ev_0, G.ev_c, G.ev_c0, G.ev_0c, G.ev_none_bool, G.ev_none_int, G.ev_none_str, G.ev_none_list, G.ev_none_tuple, G.ev_bool_none, G.ev_bool_str, G.ev_bool_list, G.ev_bool_tuple, G.ev_int_none, G.ev_int_str, G.ev_int_list, G.ev_int_tuple, G.ev_str_none, G.ev_str_bool, G.ev_str_int, G.ev_str_list, G.ev_str_tuple, G.ev_list_none, G.ev_list_bool, G.ev_list_int, G.ev_list_str, G.ev_list_tuple, G.ev_tuple_none, G.ev_tuple_bool, G.ev_tuple_int, G.ev_tuple_str, G.ev_tuple_list, G.dec_t, G.not_dec, G.k_popA, G.k_popZ, G.k_pop1, G.r_ext, G.k_ext1, G.k_ext2, G.k_ext3, G.k_ext4, G.r_items, G.k_itemsJ, G.d_listD, G.d_intI, G.d_intB, G.d_strI, G.r_subG, G.k_sub1, G.k_sub2, G.k_sub3, G.k_sub4, G.k_sub5, G.k_sub6, G.k_sub7, G.r_tupL1, G.r_tupL2, G.r_tupL3, G.r_tupL4, G.d_isB, G.d_isnB, G.d_isnN, G.d_revL, G.d_revT, G.r_permA, G.k_perm1, G.k_perm2, G.k_perm3a, G.k_perm3b, G.k_perm3c, G.k_perm3d, G.k_perm3e, Int.reduceEq, Int.reduceLE, Int.reduceLT, Int.reduceAdd, Int.reduceSub, Int.reduceMul, Int.reduceNeg, Nat.reduceAdd, List.nil_append, not_true_eq_false, not_false_eq_true, and_true, true_and, and_false, false_and, or_true, true_or, or_false, false_or, decide_true, decide_false, eq_self, Bool.and_true, Bool.and_false, $ls,*])
  | `(tactic| simp? [$ls,*] at $h:ident) => `(tactic| simp (maxSteps := 1000000) (disch := first | assumption | (simp (disch := decide +kernel) only [G.sl_nil, G.sl_cons, List.cons_append, List.nil_append, G.shN_str, G.shN_tup, G.shN_lst, G.shN_int, G.shN_bool, G.shN_none, G.shA_nil, G.shA_cons, G.b_ta, G.ky_i, G.ky_s]; done) | exact G.len_ok (by simp only [G.sl_nil, G.sl_cons]) | decide | decide +kernel | exact G.mulOk_l (by decide) | exact G.mulOk_r (by decide) | omega) only [G.rb_ok, G.rb_ex, G.rb_bad, G.rb_ite, G.lz, G.ls, G.sz, G.ss, G.r_seq, G.k_seq1, G.k_seq2, G.k_seq3, G.k_seq4, G.r_nx, G.r_bk, G.r_ct, G.r_retN, G.r_ret, G.k_ret, G.r_drop, G.k_drop, G.r_if, G.r_ife, G.k_if, G.r_asg, G.k_asg1, G.k_asg2, G.k_asg3, G.k_sl1, G.k_sl2, G.k_sh1, G.k_sh2, G.k_sh3, G.k_sh4, G.k_sh5, G.r_asgG, G.k_asgG, G.k_asgL, G.k_tg, G.r_nm, G.r_tup, G.r_tup1, G.r_tup3, G.r_tup4, G.r_nil, G.r_cons, G.r_V, G.k_V1, G.k_V2, G.k_V4, G.k_V3, G.r_C, G.p_val, G.p_fr, G.p_sl, G.pb_1, G.pb_2, G.pb_3, G.od_1, G.od_2, G.p_1, G.p_2, G.p_3, G.q_1, G.q_2, G.q_3, G.re_1, G.re_2, G.re_ite, G.st_1, G.st_2, G.st_3, G.r_op2, G.k_op2a, G.k_op2b, G.k_op2c, G.r_op1, G.k_op1, G.ob_some, G.r_said, G.k_said1, G.r_opN, G.k_opN, G.r_pk0, G.r_pk1, G.k_pk, G.r_anil, G.r_acons, G.k_acons, G.k_acons2, G.shs_v0, G.shs_v1, G.shs_v2, G.shs_v3, G.shs_v4, G.om_some, G.r_tupT, G.r_lstT, G.k_dt, G.k_dl, G.k_d1, G.k_d2, G.r_fB, G.k_fB, G.r_and, G.r_or, G.r_andV, G.r_orV, G.r_not, G.r_notV, G.k_not, G.k_notV, G.r_yes, G.r_ch, G.k_ch1, G.k_ch2, G.k_ch3, G.k_ch4, G.k_ch5, G.r_call, G.c1_nil, G.c1_t, G.c1_f, G.c1_s, G.c1_s1, G.c1_s2, G.k_ca, G.k_c1, G.k_c2, G.c2_nil, G.c2_v, G.c2_s, G.c2_s1, G.c2_s3, G.c2_s2, G.k_call, G.k_w1, G.k_w2, G.k_w3, G.k_wite, G.wb_nil, G.wb_none, G.wb_some, G.k_wb1, G.k_wb2, G.wbx_nil, G.wbx_none, G.ap_nil, G.ap_nil2, G.ap_cons, G.ma_nil, G.ma_cons, G.ds_nil, G.ds_none, G.ds_some, G.me_nil, G.me_none, G.me_some, G.ou_0, G.ou_s, G.ob_val, G.ob_own, G.ob_un, G.ob_exc, G.ob_prm, G.le_0, G.le_s, G.k_rf1, G.k_rf2, G.k_rf3, G.k_rf4, G.k_rs1, G.k_rs2, G.r_set, G.k_set1, G.k_set2, G.k_set3, G.k_set4, G.k_set5, G.k_set6, G.k_set7, G.k_set8, G.k_set9, G.r_mut, G.k_mu1, G.k_mu2, G.k_mu3, G.k_mu4, G.k_mu5, G.k_mu6, G.k_mu7, G.k_app, G.k_apps, G.r_par, G.k_par1, G.k_par2, G.k_par3, G.k_par4, G.k_par5, G.r_par3, G.k_p3a, G.k_p3b, G.r_parN, G.k_pn1, G.k_pn2, G.k_nx, G.ev_nil, G.ev_cons, G.k_ev1, G.k_ev2, G.rs_nil, G.rs_val, G.rs_fr, G.rs_sl, G.k_rsS1, G.k_rsS2, G.bn_nil, G.bn_val, G.bn_fr, G.r_rep, G.k_rp1, G.k_rp2, G.k_rp3, G.ixN_last, G.set_last, G.ix_last, G.r_for, G.k_for, G.fo_nil, G.fo_cons, G.k_fo0, G.k_fo1, G.k_fo2, G.k_fo3, G.k_fo4, G.r_turn, G.k_tu0, G.k_tu1, G.k_tu2, G.k_tu3, G.k_tu4, G.r_seqI, G.k_seqI, G.k_seqI1, G.k_seqI3, G.k_seqI5, G.k_seqI6, G.k_seqI4, G.k_seqI2, G.r_rng1, G.k_rng1, G.k_rng1b, G.r_rng2, G.k_rng2, G.k_rng2b, G.rgl_0, G.rgl_1, G.rgl_2, G.rgl_3, G.rgl_4, G.rgl_5, G.rgl_6, G.rgl_7, G.rgl_8, G.rgl_9, G.rgl_10, G.rgl_12, G.rgl_16, G.r1l_1, G.r1l_2, G.r1l_3, G.r1l_4, G.r1l_5, G.r1l_6, G.r1l_8, G.rpl_0, G.rpl_1, G.rpl_2, G.rpl_3, G.rpl_4, G.rpl_5, G.rpl_6, G.rpl_7, G.rpl_8, G.r_lc, G.k_lc, G.l_nil, G.l_cons, G.l_A, G.l_B, G.l_C, G.l_C2, G.l_C3, G.l_S1, G.l_S2, G.l_D, G.k_lc1, G.wi_nil, G.wi_cons, G.mulOk_l, G.mulOk_r, G.r_sl, G.k_sla, G.k_slb, G.k_slc, G.k_sld, G.pt_n, G.pt_s, G.k_pt, G.cu_t, G.cu_l, G.cu_1n, G.cu_2n, G.cu_n1, G.d_add, G.d_addT, G.d_addTs, G.d_addL, G.d_addLs, G.d_sub, G.d_mul, G.d_fdiv, G.d_mod, G.d_neg, G.d_cmp, G.d_ixT, G.d_ixL, G.at_0, G.at_1, G.at_2, G.at_3, G.d_lenL, G.d_lenT, G.d_tupL, G.d_tupT, G.d_all, G.k_all, G.d_any, G.k_any, G.bo_nil, G.bo_cons, G.al_nil, G.al_cons, G.al_map, G.an_nil, G.an_cons, G.an_map, G.id_b, G.bo_map, G.d_max, G.d_min, G.d_listL, G.d_listT, G.d_p18, G.d_p13, G.d_p12, G.d_is, G.d_abs, G.d_repr, G.d_eqS, G.d_neS, G.d_eqI, G.d_neI, G.d_isi, G.isy_int_none, G.isy_int_bool, G.isy_int_int, G.isy_int_str, G.isy_int_list, G.isy_int_tuple, G.isy_int_dict, G.isy_bool_none, G.isy_bool_bool, G.isy_bool_int, G.isy_bool_str, G.isy_bool_list, G.isy_bool_tuple, G.isy_bool_dict, G.isy_tuple_none, G.isy_tuple_bool, G.isy_tuple_int, G.isy_tuple_str, G.isy_tuple_list, G.isy_tuple_tuple, G.isy_tuple_dict, G.isy_list_none, G.isy_list_bool, G.isy_list_int, G.isy_list_str, G.isy_list_list, G.isy_list_tuple, G.isy_list_dict, G.isy_str_none, G.isy_str_bool, G.isy_str_int, G.isy_str_str, G.isy_str_list, G.isy_str_tuple, G.isy_str_dict, G.isy_dict_none, G.isy_dict_bool, G.isy_dict_int, G.isy_dict_str, G.isy_dict_list, G.isy_dict_tuple, G.isy_dict_dict, G.it_t, G.it_f, G.b_tt, G.b_ft, G.b_nt, G.b_nf, G.b_ta, G.b_fa, G.b_at, G.b_to, G.b_fo, G.lI_0, G.lI_1, G.lI_2, G.lI_3, G.lI_4, G.lI_5, G.lI_m, G.bs_f, G.es_f, G.bb_tt, G.bb_tf, G.bb_ft, G.bb_ff, G.bq_s, G.r_dic, G.k_dic1, G.k_dic2, G.k_dic3, G.k_dic4, G.k_kD1, G.k_kD2, G.k_fl0, G.k_fl1, G.k_pr0, G.k_pr1, G.k_pr2, G.r_dic0, G.d_ixDi, G.d_ixDs, G.d_inGT, G.d_inGL, G.d_ninGT, G.d_ninGL, G.d_inGi, G.d_ninGi, G.k_vals, G.k_items, G.d_setDi, G.dg_nil, G.dg_i, G.dg_s, G.mg_0, G.mg_s, G.dpk_n, G.ky_i, G.ky_s, G.d_eqX, G.d_neX, G.d_inT, G.d_inL, G.d_ninT, G.d_ninL, G.ev_ii, G.ev_bb, G.ev_ss, G.ev_nn, G.ev_tt, G.ev_ll, G.ev_0, G.ev_c, G.ev_c0, G.ev_0c, G.ev_none_bool, G.ev_none_int, G.ev_none_str, G.ev_none_list, G.ev_none_tuple, G.ev_bool_none, G.ev_bool_str, G.ev_bool_list, G.ev_bool_tuple, G.ev_int_none, G.ev_int_str, G.ev_int_list, G.ev_int_tuple, G.ev_str_none, G.ev_str_bool, G.ev_str_int, G.ev_str_list, G.ev_str_tuple, G.ev_list_none, G.ev_list_bool, G.ev_list_int, G.ev_list_str, G.ev_list_tuple, G.ev_tuple_none, G.ev_tuple_bool, G.ev_tuple_int, G.ev_tuple_str, G.ev_tuple_list, G.dec_t, G.not_dec, G.k_popA, G.k_popZ, G.k_pop1, G.r_ext, G.k_ext1, G.k_ext2, G.k_ext3, G.k_ext4, G.r_items, G.k_itemsJ, G.d_listD, G.d_intI, G.d_intB, G.d_strI, G.r_subG, G.k_sub1, G.k_sub2, G.k_sub3, G.k_sub4, G.k_sub5, G.k_sub6, G.k_sub7, G.r_tupL1, G.r_tupL2, G.r_tupL3, G.r_tupL4, G.d_isB, G.d_isnB, G.d_isnN, G.d_revL, G.d_revT, G.r_permA, G.k_perm1, G.k_perm2, G.k_perm3a, G.k_perm3b, G.k_perm3c, G.k_perm3d, G.k_perm3e, Int.reduceEq, Int.reduceLE, Int.reduceLT, Int.reduceAdd, Int.reduceSub, Int.reduceMul, Int.reduceNeg, Nat.reduceAdd, List.nil_append, not_true_eq_false, not_false_eq_true, and_true, true_and, and_false, false_and, or_true, true_or, or_false, false_or, decide_true, decide_false, eq_self, Bool.and_true, Bool.and_false, $ls,*] at $h:ident)
/-! ### the text of generators -/
theorem joinL_len (S : List Nat) : ∀ ps : List (List Nat), (joinL S ps).length ≤ (ps.map List.length).sum + ps.length * S.length
  | [] => Nat.zero_le _
  | [p] => by simp [joinL]
  | p :: q :: r => by
    have ih := joinL_len S (q :: r)
    show (p ++ (S ++ joinL S (q :: r))).length ≤ _
    rw [List.length_append, List.length_append, List.map_cons, List.sum_cons, List.length_cons, Nat.add_mul]
    omega
theorem sum_leX {α : Type} {f : α → Nat} {k : Nat} : ∀ {l : List α}, (∀ x ∈ l, f x ≤ k) → (l.map f).sum ≤ l.length * k
  | [], _ => Nat.zero_le _
  | x :: l, h => by
    have := sum_leX (f := f) (k := k) (l := l) fun y hy => h y (List.mem_cons_of_mem _ hy)
    have := h x (List.mem_cons_self ..)
    rw [List.map_cons, List.sum_cons, List.length_cons, Nat.add_mul]
    omega
def SmS (l : List Sym) : Prop := ∀ s ∈ l, Sm s.x ∧ Sm s.y
def joX (l : List Sym) : Str := Txt.join " " (l.map symX)
def symsX (l : List Sym) : Str := if l = [] then "-" else joX l
theorem joX_tl (l : List Sym) : tl (joX l) = joinL [32] (l.map fun s => tl (symX s)) := by
  unfold joX
  rw [join_eq, tl_join, List.map_map]
  rfl
theorem sum_symX {l : List Sym} (h : SmS l) : ((l.map symX).map (·.length)).sum ≤ l.length * 100 := by
  rw [List.map_map]
  exact sum_leX fun s hs => symX_len (h s hs).1 (h s hs).2
theorem joX_len {l : List Sym} (h : SmS l) : (joX l).length ≤ l.length * 101 := by
  rw [len_tl, joX_tl]
  refine Nat.le_trans (joinL_len _ _) ?_
  rw [List.map_map, List.length_map]
  have : (l.map (List.length ∘ fun s => tl (symX s))).sum ≤ l.length * 100 := sum_leX fun s hs => by
    show (tl (symX s)).length ≤ 100
    rw [← len_tl]
    exact symX_len (h s hs).1 (h s hs).2
  simp only [List.length_singleton]
  omega
theorem colon_in (s : Sym) : 58 ∈ tl (symX s) := by
  rw [symX_eq, tl_append, tl_append]
  exact List.mem_append_left _ (List.mem_append_right _ (show 58 ∈ [58] from List.mem_singleton.mpr rfl))
theorem colon_jo {l : List Sym} (h : l ≠ []) : 58 ∈ tl (joX l) := by
  rw [joX_tl]
  match l, h with
  | [s], _ => exact colon_in s
  | s :: t :: r, _ => exact List.mem_append_left _ (colon_in s)
theorem join_d {l : List Sym} (h : SmS l) (hl : l.length ≤ 100) : joinD (.str " ") (.list (l.map fun s => PyData.str (symX s))) = some (.val (.str (joX l))) := by
  have := d_join (a := " ") (ys := l.map symX) (r := joX l) (by
    have := sum_symX h
    have c : ((" " : Str)).length = 1 := rfl
    rw [List.length_map, c]
    omega) rfl
  rw [List.map_map] at this
  exact this
theorem lc_text {f : SE} {b0 : B} {l : List Sym} (hl : l.length ≤ 100) (hf : ∀ s ∈ l, f [.val s.d] = .ok (.val (.str (symX s)), [.un])) : lcL (nmG 1) yesB (callF [false] f [] (aCons (fV 1) aNil)) [1] 0 (l.map Sym.d) [b0, .un] = some (l.map fun s => .str (symX s), [b0, .un]) :=
  lc_map (fun s : Sym => .str (symX s)) (fun s hs => by
    have e := hf s hs
    generalize s.d = sd at *
    simp? [e]) (by rw [sizeLine_eq]; omega)
theorem ne_symsT (l : List Sym) : neD (.tuple (l.map Sym.d)) (.tuple []) = some (.val (.bool (!l.isEmpty))) := by
  rw [d_neX (shN_tup.trans (shA_map fun _ => rfl)) (by decide)]
  cases l <;> rfl
theorem symmetries_text_ok {l : List Sym} (h : SmS l) (hl : l.length ≤ 100) : F_symmetries_text [.val (.tuple (l.map Sym.d))] = .ok (.val (.str (symsX l)), [.un]) := by
  have lc : ∀ b0 : B, _ := fun b0 => lc_text (f := F_symmetry_text) (b0 := b0) hl fun s hs => symmetry_text_ok (h s hs).1 (h s hs).2
  have jd := join_d h hl
  have ne := ne_symsT l
  by_cases z : l = []
  · unfold symsX
    rw [if_pos z]
    rw [z] at ne ⊢
    rw [r_symmetries_text]
    unfold B_symmetries_text
    simp? [ne, List.isEmpty_nil, List.map_nil]
  · unfold symsX
    rw [if_neg z]
    have e : l.isEmpty = false := by cases l with
      | nil => exact absurd rfl z
      | cons _ _ => rfl
    rw [e] at ne
    generalize joX l = j at *
    generalize l.map Sym.d = ld at *
    generalize (l.map fun s => PyData.str (symX s)) = lx at *
    rw [r_symmetries_text]
    unfold B_symmetries_text
    simp? [r_smE, k_sm1, k_sm2, k_sm3, k_sm4, lc, jd, ne]
theorem format_symmetry_ok {s : Sym} (hx : Sm s.x) (hy : Sm s.y) : F_format_symmetry [.val s.d] = .ok (.val (.str (symX s)), [.un]) := by
  have e1 : F_need_symmetry [.val s.d] = .ok (.val .none, [.un]) := need_symmetry_ok
  have e2 := symmetry_text_ok hx hy
  generalize s.d = sd at *
  rw [r_format_symmetry]
  unfold B_format_symmetry
  simp? [e1, e2]
theorem format_generators_ok {l : List Sym} (h : SmS l) (hl : l.length ≤ 6) : F_format_generators [.val (.tuple (l.map Sym.d))] = .ok (.val (.str (symsX l)), [.un]) := by
  have e1 := need_generators_ok (gens := l) hl
  have e2 := symmetries_text_ok h (by omega)
  generalize l.map Sym.d = sd at *
  rw [r_format_generators]
  unfold B_format_generators
  simp? [e1, e2]
theorem parse_symmetry_ok {s : Sym} (hx : Sm s.x) (hy : Sm s.y) : F_parse_symmetry [.val (.str (symX s))] = .ok (.val s.d, [.un]) := by
  have e := symmetry_in_ok hx hy
  show F_parse_symmetry [.val (.str (symX s))] = .ok (.val (.tuple [.int s.k.i, .int s.x, .int s.y]), [.un])
  have e : F_symmetry_in [.val (.str (symX s))] = .ok (.val (.tuple [.int s.k.i, .int s.x, .int s.y]), [.un]) := e
  generalize symX s = t at *
  rw [r_parse_symmetry]
  unfold B_parse_symmetry
  simp? [e, nn_tup]
theorem generators_in_ok {l : List Sym} (h : SmS l) (hl : l.length ≤ 6) : F_generators_in [.val (.str (symsX l))] = .ok (.val (.tuple (l.map Sym.d)), [.un]) := by
  by_cases z : l = []
  · subst z
    show F_generators_in [.val (.str "-")] = .ok (.val (.tuple []), [.un])
    have w : (("-" : Str) == ("-" : Str)) = true := by decide
    rw [r_generators_in]
    unfold B_generators_in
    simp? [w]
  · have w : (joX l == ("-" : Str)) = false := by
      rw [beq_eq_false_iff_ne]
      intro q
      have := colon_jo z
      rw [q] at this
      have : 58 ∈ [45] := this
      simp at this
    have sp := split_ok (y := " ") (s := 32) rfl (by decide) (parts := l.map symX) (by simpa using z) (fun p hp => by
      obtain ⟨s, _, rfl⟩ := List.mem_map.mp hp
      intro q
      have := symX_signs s q
      omega) (x := joX l) rfl (by have := joX_len h; omega)
    rw [List.map_map] at sp
    have lc : ∀ b0 b1 : B, lcL (nmG 2) yesB (callF [false] F_symmetry_in [] (aCons (fV 2) aNil)) [2] 0 (l.map (PyData.str ∘ symX)) [b0, b1, .un] = some (l.map Sym.d, [b0, b1, .un]) := fun b0 b1 => lc_map (enc := PyData.str ∘ symX) (fun s : Sym => s.d) (fun s hs => by
      have e := symmetry_in_ok (h s hs).1 (h s hs).2
      show lcL _ _ _ _ _ [.str (symX s)] _ = _
      generalize symX s = t at *
      generalize s.d = sd at *
      simp? [e]) (by rw [sizeLine_eq]; omega)
    have ig := is_generators_ok hl
    have e : symsX l = joX l := if_neg z
    rw [e]
    generalize joX l = t at *
    generalize l.map (PyData.str ∘ symX) = lx at *
    generalize l.map Sym.d = ld at *
    rw [r_generators_in]
    unfold B_generators_in
    simp? [w, r_smE, k_sm1, k_sm2, k_sm3, k_sm4, sp, lc, ig]
theorem parse_generators_ok {l : List Sym} (h : SmS l) (hl : l.length ≤ 6) : F_parse_generators [.val (.str (symsX l))] = .ok (.val (.tuple (l.map Sym.d)), [.un]) := by
  have e := generators_in_ok h hl
  generalize symsX l = t at *
  generalize l.map Sym.d = ld at *
  rw [r_parse_generators]
  unfold B_parse_generators
  simp? [e, nn_tup]
/-! ### repr of texts -/
end M
namespace L_k87
open PySem PySem.Spec PyProof.Rows L2 G M TL
local macro_rules
  | `(tactic| simp? [$ls,*]) => `(tactic| simp (maxSteps := 1000000) (disch := first | assumption | (simp (disch := decide +kernel) only [G.sl_nil, G.sl_cons, List.cons_append, List.nil_append, G.shN_str, G.shN_tup, G.shN_lst, G.shN_int, G.shN_bool, G.shN_none, G.shA_nil, G.shA_cons, G.b_ta, G.ky_i, G.ky_s]; done) | exact G.len_ok (by simp only [G.sl_nil, G.sl_cons]) | decide | decide +kernel | exact G.mulOk_l (by decide) | exact G.mulOk_r (by decide) | omega) only [G.rb_ok, G.rb_ex, G.rb_bad, G.rb_ite, G.lz, G.ls, G.sz, G.ss, G.r_seq, G.k_seq1, G.k_seq2, G.k_seq3, G.k_seq4, G.r_nx, G.r_bk, G.r_ct, G.r_retN, G.r_ret, G.k_ret, G.r_drop, G.k_drop, G.r_if, G.r_ife, G.k_if, G.r_asg, G.k_asg1, G.k_asg2, G.k_asg3, G.k_sl1, G.k_sl2, G.k_sh1, G.k_sh2, G.k_sh3, G.k_sh4, G.k_sh5, G.r_asgG, G.k_asgG, G.k_asgL, G.k_tg, G.r_nm, G.r_tup, G.r_tup1, G.r_tup3, G.r_tup4, G.r_nil, G.r_cons, G.r_V, G.k_V1, G.k_V2, G.k_V4, G.k_V3, G.r_C, G.p_val, G.p_fr, G.p_sl, G.pb_1, G.pb_2, G.pb_3, G.od_1, G.od_2, G.p_1, G.p_2, G.p_3, G.q_1, G.q_2, G.q_3, G.re_1, G.re_2, G.re_ite, G.st_1, G.st_2, G.st_3, G.r_op2, G.k_op2a, G.k_op2b, G.k_op2c, G.r_op1, G.k_op1, G.ob_some, G.r_said, G.k_said1, G.r_opN, G.k_opN, G.r_pk0, G.r_pk1, G.k_pk, G.r_anil, G.r_acons, G.k_acons, G.k_acons2, G.shs_v0, G.shs_v1, G.shs_v2, G.shs_v3, G.shs_v4, G.om_some, G.r_tupT, G.r_lstT, G.k_dt, G.k_dl, G.k_d1, G.k_d2, G.r_fB, G.k_fB, G.r_and, G.r_or, G.r_andV, G.r_orV, G.r_not, G.r_notV, G.k_not, G.k_notV, G.r_yes, G.r_ch, G.k_ch1, G.k_ch2, G.k_ch3, G.k_ch4, G.k_ch5, G.r_call, G.c1_nil, G.c1_t, G.c1_f, G.c1_s, G.c1_s1, G.c1_s2, G.k_ca, G.k_c1, G.k_c2, G.c2_nil, G.c2_v, G.c2_s, G.c2_s1, G.c2_s3, G.c2_s2, G.k_call, G.k_w1, G.k_w2, G.k_w3, G.k_wite, G.wb_nil, G.wb_none, G.wb_some, G.k_wb1, G.k_wb2, G.wbx_nil, G.wbx_none, G.ap_nil, G.ap_nil2, G.ap_cons, G.ma_nil, G.ma_cons, G.ds_nil, G.ds_none, G.ds_some, G.me_nil, G.me_none, G.me_some, G.ou_0, G.ou_s, G.ob_val, G.ob_own, G.ob_un, G.ob_exc, G.ob_prm, G.le_0, G.le_s, G.k_rf1, G.k_rf2, G.k_rf3, G.k_rf4, G.k_rs1, G.k_rs2, G.r_set, G.k_set1, G.k_set2, G.k_set3, G.k_set4, G.k_set5, G.k_set6, G.k_set7, G.k_set8, G.k_set9, G.r_mut, G.k_mu1, G.k_mu2, G.k_mu3, G.k_mu4, G.k_mu5, G.k_mu6, G.k_mu7, G.k_app, G.k_apps, G.r_par, G.k_par1, G.k_par2, G.k_par3, G.k_par4, G.k_par5, G.r_par3, G.k_p3a, G.k_p3b, G.r_parN, G.k_pn1, G.k_pn2, G.k_nx, G.ev_nil, G.ev_cons, G.k_ev1, G.k_ev2, G.rs_nil, G.rs_val, G.rs_fr, G.rs_sl, G.k_rsS1, G.k_rsS2, G.bn_nil, G.bn_val, G.bn_fr, G.r_rep, G.k_rp1, G.k_rp2, G.k_rp3, G.ixN_last, G.set_last, G.ix_last, G.r_for, G.k_for, G.fo_nil, G.fo_cons, G.k_fo0, G.k_fo1, G.k_fo2, G.k_fo3, G.k_fo4, G.r_turn, G.k_tu0, G.k_tu1, G.k_tu2, G.k_tu3, G.k_tu4, G.r_seqI, G.k_seqI, G.k_seqI1, G.k_seqI3, G.k_seqI5, G.k_seqI6, G.k_seqI4, G.k_seqI2, G.r_rng1, G.k_rng1, G.k_rng1b, G.r_rng2, G.k_rng2, G.k_rng2b, G.rgl_0, G.rgl_1, G.rgl_2, G.rgl_3, G.rgl_4, G.rgl_5, G.rgl_6, G.rgl_7, G.rgl_8, G.rgl_9, G.rgl_10, G.rgl_12, G.rgl_16, G.r1l_1, G.r1l_2, G.r1l_3, G.r1l_4, G.r1l_5, G.r1l_6, G.r1l_8, G.rpl_0, G.rpl_1, G.rpl_2, G.rpl_3, G.rpl_4, G.rpl_5, G.rpl_6, G.rpl_7, G.rpl_8, G.r_lc, G.k_lc, G.l_nil, G.l_cons, G.l_A, G.l_B, G.l_C, G.l_C2, G.l_C3, G.l_S1, G.l_S2, G.l_D, G.k_lc1, G.wi_nil, G.wi_cons, G.mulOk_l, G.mulOk_r, G.r_sl, G.k_sla, G.k_slb, G.k_slc, G.k_sld, G.pt_n, G.pt_s, G.k_pt, G.cu_t, G.cu_l, G.cu_1n, G.cu_2n, G.cu_n1, G.d_add, G.d_addT, G.d_addTs, G.d_addL, G.d_addLs, G.d_sub, G.d_mul, G.d_fdiv, G.d_mod, G.d_neg, G.d_cmp, G.d_ixT, G.d_ixL, G.at_0, G.at_1, G.at_2, G.at_3, G.d_lenL, G.d_lenT, G.d_tupL, G.d_tupT, G.d_all, G.k_all, G.d_any, G.k_any, G.bo_nil, G.bo_cons, G.al_nil, G.al_cons, G.al_map, G.an_nil, G.an_cons, G.an_map, G.id_b, G.bo_map, G.d_max, G.d_min, G.d_listL, G.d_listT, G.d_p18, G.d_p13, G.d_p12, G.d_is, G.d_abs, G.d_repr, G.d_eqS, G.d_neS, G.d_eqI, G.d_neI, G.d_isi, G.isy_int_none, G.isy_int_bool, G.isy_int_int, G.isy_int_str, G.isy_int_list, G.isy_int_tuple, G.isy_int_dict, G.isy_bool_none, G.isy_bool_bool, G.isy_bool_int, G.isy_bool_str, G.isy_bool_list, G.isy_bool_tuple, G.isy_bool_dict, G.isy_tuple_none, G.isy_tuple_bool, G.isy_tuple_int, G.isy_tuple_str, G.isy_tuple_list, G.isy_tuple_tuple, G.isy_tuple_dict, G.isy_list_none, G.isy_list_bool, G.isy_list_int, G.isy_list_str, G.isy_list_list, G.isy_list_tuple, G.isy_list_dict, G.isy_str_none, G.isy_str_bool, G.isy_str_int, G.isy_str_str, G.isy_str_list, G.isy_str_tuple, G.isy_str_dict, G.isy_dict_none, G.isy_dict_bool, G.isy_dict_int, G.isy_dict_str, G.isy_dict_list, G.isy_dict_tuple, G.isy_dict_dict, G.it_t, G.it_f, G.b_tt, G.b_ft, G.b_nt, G.b_nf, G.b_ta, G.b_fa, G.b_at, G.b_to, G.b_fo, G.lI_0, G.lI_1, G.lI_2, G.lI_3, G.lI_4, G.lI_5, G.lI_m, G.bs_f, G.es_f, G.bb_tt, G.bb_tf, G.bb_ft, G.bb_ff, G.bq_s, G.r_dic, G.k_dic1, G.k_dic2, G.k_dic3, G.k_dic4, G.k_kD1, G.k_kD2, G.k_fl0, G.k_fl1, G.k_pr0, G.k_pr1, G.k_pr2, G.r_dic0, G.d_ixDi, G.d_ixDs, G.d_inGT, G.d_inGL, G.d_ninGT, G.d_ninGL, G.d_inGi, G.d_ninGi, G.k_vals, G.k_items, G.d_setDi, G.dg_nil, G.dg_i, G.dg_s, G.mg_0, G.mg_s, G.dpk_n, G.ky_i, G.ky_s, G.d_eqX, G.d_neX, G.d_inT, G.d_inL, G.d_ninT, G.d_ninL, G.ev_ii, G.ev_bb, G.ev_ss, G.ev_nn, G.ev_tt, G.ev_ll, G.ev_0, G.ev_c, G.ev_c0, G.ev_0c, G.ev_none_bool, G.ev_none_int, G.ev_none_str, G.ev_none_list, G.ev_none_tuple, G.ev_bool_none, G.ev_bool_str, G.ev_bool_list, G.ev_bool_tuple, G.ev_int_none, G.ev_int_str, G.ev_int_list, G.ev_int_tuple, G.ev_str_none, G.ev_str_bool, G.ev_str_int, G.ev_str_list, G.ev_str_tuple, G.ev_list_none, G.ev_list_bool, G.ev_list_int, G.ev_list_str, G.ev_list_tuple, G.ev_tuple_none, G.ev_tuple_bool, G.ev_tuple_int, G.ev_tuple_str, G.ev_tuple_list, G.dec_t, G.not_dec, G.k_popA, G.k_popZ, G.k_pop1, G.r_ext, G.k_ext1, G.k_ext2, G.k_ext3, G.k_ext4, G.r_items, G.k_itemsJ, G.d_listD, G.d_intI, G.d_intB, G.d_strI, G.r_subG, G.k_sub1, G.k_sub2, G.k_sub3, G.k_sub4, G.k_sub5, G.k_sub6, G.k_sub7, G.r_tupL1, G.r_tupL2, G.r_tupL3, G.r_tupL4, G.d_isB, G.d_isnB, G.d_isnN, G.d_revL, G.d_revT, G.r_permA, G.k_perm1, G.k_perm2, G.k_perm3a, G.k_perm3b, G.k_perm3c, G.k_perm3d, G.k_perm3e, Int.reduceEq, Int.reduceLE, Int.reduceLT, Int.reduceAdd, Int.reduceSub, Int.reduceMul, Int.reduceNeg, Nat.reduceAdd, List.nil_append, not_true_eq_false, not_false_eq_true, and_true, true_and, and_false, false_and, or_true, true_or, or_false, false_or, decide_true, decide_false, eq_self, Bool.and_true, Bool.and_false, $ls,*])
  | `(tactic| simp? [$ls,*] at $h:ident) => `(tactic| simp (maxSteps := 1000000) (disch := first | assumption | (simp (disch := decide +kernel) only [G.sl_nil, G.sl_cons, List.cons_append, List.nil_append, G.shN_str, G.shN_tup, G.shN_lst, G.shN_int, G.shN_bool, G.shN_none, G.shA_nil, G.shA_cons, G.b_ta, G.ky_i, G.ky_s]; done) | exact G.len_ok (by simp only [G.sl_nil, G.sl_cons]) | decide | decide +kernel | exact G.mulOk_l (by decide) | exact G.mulOk_r (by decide) | omega) only [G.rb_ok, G.rb_ex, G.rb_bad, G.rb_ite, G.lz, G.ls, G.sz, G.ss, G.r_seq, G.k_seq1, G.k_seq2, G.k_seq3, G.k_seq4, G.r_nx, G.r_bk, G.r_ct, G.r_retN, G.r_ret, G.k_ret, G.r_drop, G.k_drop, G.r_if, G.r_ife, G.k_if, G.r_asg, G.k_asg1, G.k_asg2, G.k_asg3, G.k_sl1, G.k_sl2, G.k_sh1, G.k_sh2, G.k_sh3, G.k_sh4, G.k_sh5, G.r_asgG, G.k_asgG, G.k_asgL, G.k_tg, G.r_nm, G.r_tup, G.r_tup1, G.r_tup3, G.r_tup4, G.r_nil, G.r_cons, G.r_V, G.k_V1, G.k_V2, G.k_V4, G.k_V3, G.r_C, G.p_val, G.p_fr, G.p_sl, G.pb_1, G.pb_2, G.pb_3, G.od_1, G.od_2, G.p_1, G.p_2, G.p_3, G.q_1, G.q_2, G.q_3, G.re_1, G.re_2, G.re_ite, G.st_1, G.st_2, G.st_3, G.r_op2, G.k_op2a, G.k_op2b, G.k_op2c, G.r_op1, G.k_op1, G.ob_some, G.r_said, G.k_said1, G.r_opN, G.k_opN, G.r_pk0, G.r_pk1, G.k_pk, G.r_anil, G.r_acons, G.k_acons, G.k_acons2, G.shs_v0, G.shs_v1, G.shs_v2, G.shs_v3, G.shs_v4, G.om_some, G.r_tupT, G.r_lstT, G.k_dt, G.k_dl, G.k_d1, G.k_d2, G.r_fB, G.k_fB, G.r_and, G.r_or, G.r_andV, G.r_orV, G.r_not, G.r_notV, G.k_not, G.k_notV, G.r_yes, G.r_ch, G.k_ch1, G.k_ch2, G.k_ch3, G.k_ch4, G.k_ch5, G.r_call, G.c1_nil, G.c1_t, G.c1_f, G.c1_s, G.c1_s1, G.c1_s2, G.k_ca, G.k_c1, G.k_c2, G.c2_nil, G.c2_v, G.c2_s, G.c2_s1, G.c2_s3, G.c2_s2, G.k_call, G.k_w1, G.k_w2, G.k_w3, G.k_wite, G.wb_nil, G.wb_none, G.wb_some, G.k_wb1, G.k_wb2, G.wbx_nil, G.wbx_none, G.ap_nil, G.ap_nil2, G.ap_cons, G.ma_nil, G.ma_cons, G.ds_nil, G.ds_none, G.ds_some, G.me_nil, G.me_none, G.me_some, G.ou_0, G.ou_s, G.ob_val, G.ob_own, G.ob_un, G.ob_exc, G.ob_prm, G.le_0, G.le_s, G.k_rf1, G.k_rf2, G.k_rf3, G.k_rf4, G.k_rs1, G.k_rs2, G.r_set, G.k_set1, G.k_set2, G.k_set3, G.k_set4, G.k_set5, G.k_set6, G.k_set7, G.k_set8, G.k_set9, G.r_mut, G.k_mu1, G.k_mu2, G.k_mu3, G.k_mu4, G.k_mu5, G.k_mu6, G.k_mu7, G.k_app, G.k_apps, G.r_par, G.k_par1, G.k_par2, G.k_par3, G.k_par4, G.k_par5, G.r_par3, G.k_p3a, G.k_p3b, G.r_parN, G.k_pn1, G.k_pn2, G.k_nx, G.ev_nil, G.ev_cons, G.k_ev1, G.k_ev2, G.rs_nil, G.rs_val, G.rs_fr, G.rs_sl, G.k_rsS1, G.k_rsS2, G.bn_nil, G.bn_val, G.bn_fr, G.r_rep, G.k_rp1, G.k_rp2, G.k_rp3, G.ixN_last, G.set_last, G.ix_last, G.r_for, G.k_for, G.fo_nil, G.fo_cons, G.k_fo0, G.k_fo1, G.k_fo2, G.k_fo3, G.k_fo4, G.r_turn, G.k_tu0, G.k_tu1, G.k_tu2, G.k_tu3, G.k_tu4, G.r_seqI, G.k_seqI, G.k_seqI1, G.k_seqI3, G.k_seqI5, G.k_seqI6, G.k_seqI4, G.k_seqI2, G.r_rng1, G.k_rng1, G.k_rng1b, G.r_rng2, G.k_rng2, G.k_rng2b, G.rgl_0, G.rgl_1, G.rgl_2, G.rgl_3, G.rgl_4, G.rgl_5, G.rgl_6, G.rgl_7, G.rgl_8, G.rgl_9, G.rgl_10, G.rgl_12, G.rgl_16, G.r1l_1, G.r1l_2, G.r1l_3, G.r1l_4, G.r1l_5, G.r1l_6, G.r1l_8, G.rpl_0, G.rpl_1, G.rpl_2, G.rpl_3, G.rpl_4, G.rpl_5, G.rpl_6, G.rpl_7, G.rpl_8, G.r_lc, G.k_lc, G.l_nil, G.l_cons, G.l_A, G.l_B, G.l_C, G.l_C2, G.l_C3, G.l_S1, G.l_S2, G.l_D, G.k_lc1, G.wi_nil, G.wi_cons, G.mulOk_l, G.mulOk_r, G.r_sl, G.k_sla, G.k_slb, G.k_slc, G.k_sld, G.pt_n, G.pt_s, G.k_pt, G.cu_t, G.cu_l, G.cu_1n, G.cu_2n, G.cu_n1, G.d_add, G.d_addT, G.d_addTs, G.d_addL, G.d_addLs, G.d_sub, G.d_mul, G.d_fdiv, G.d_mod, G.d_neg, G.d_cmp, G.d_ixT, G.d_ixL, G.at_0, G.at_1, G.at_2, G.at_3, G.d_lenL, G.d_lenT, G.d_tupL, G.d_tupT, G.d_all, G.k_all, G.d_any, G.k_any, G.bo_nil, G.bo_cons, G.al_nil, G.al_cons, G.al_map, G.an_nil, G.an_cons, G.an_map, G.id_b, G.bo_map, G.d_max, G.d_min, G.d_listL, G.d_listT, G.d_p18, G.d_p13, G.d_p12, G.d_is, G.d_abs, G.d_repr, G.d_eqS, G.d_neS, G.d_eqI, G.d_neI, G.d_isi, G.isy_int_none, G.isy_int_bool, G.isy_int_int, G.isy_int_str, G.isy_int_list, G.isy_int_tuple, G.isy_int_dict, G.isy_bool_none, G.isy_bool_bool, G.isy_bool_int, G.isy_bool_str, G.isy_bool_list, G.isy_bool_tuple, G.isy_bool_dict, G.isy_tuple_none, G.isy_tuple_bool, G.isy_tuple_int, G.isy_tuple_str, G.isy_tuple_list, G.isy_tuple_tuple, G.isy_tuple_dict, G.isy_list_none, G.isy_list_bool, G.isy_list_int, G.isy_list_str, G.isy_list_list, G.isy_list_tuple, G.isy_list_dict, G.isy_str_none, G.isy_str_bool, G.isy_str_int, G.isy_str_str, G.isy_str_list, G.isy_str_tuple, G.isy_str_dict, G.isy_dict_none, G.isy_dict_bool, G.isy_dict_int, G.isy_dict_str, G.isy_dict_list, G.isy_dict_tuple, G.isy_dict_dict, G.it_t, G.it_f, G.b_tt, G.b_ft, G.b_nt, G.b_nf, G.b_ta, G.b_fa, G.b_at, G.b_to, G.b_fo, G.lI_0, G.lI_1, G.lI_2, G.lI_3, G.lI_4, G.lI_5, G.lI_m, G.bs_f, G.es_f, G.bb_tt, G.bb_tf, G.bb_ft, G.bb_ff, G.bq_s, G.r_dic, G.k_dic1, G.k_dic2, G.k_dic3, G.k_dic4, G.k_kD1, G.k_kD2, G.k_fl0, G.k_fl1, G.k_pr0, G.k_pr1, G.k_pr2, G.r_dic0, G.d_ixDi, G.d_ixDs, G.d_inGT, G.d_inGL, G.d_ninGT, G.d_ninGL, G.d_inGi, G.d_ninGi, G.k_vals, G.k_items, G.d_setDi, G.dg_nil, G.dg_i, G.dg_s, G.mg_0, G.mg_s, G.dpk_n, G.ky_i, G.ky_s, G.d_eqX, G.d_neX, G.d_inT, G.d_inL, G.d_ninT, G.d_ninL, G.ev_ii, G.ev_bb, G.ev_ss, G.ev_nn, G.ev_tt, G.ev_ll, G.ev_0, G.ev_c, G.ev_c0, G.ev_0c, G.ev_none_bool, G.ev_none_int, G.ev_none_str, G.ev_none_list, G.ev_none_tuple, G.ev_bool_none, G.ev_bool_str, G.ev_bool_list, G.ev_bool_tuple, G.ev_int_none, G.ev_int_str, G.ev_int_list, G.ev_int_tuple, G.ev_str_none, G.ev_str_bool, G.ev_str_int, G.ev_str_list, G.ev_str_tuple, G.ev_list_none, G.ev_list_bool, G.ev_list_int, G.ev_list_str, G.ev_list_tuple, G.ev_tuple_none, G.ev_tuple_bool, G.ev_tuple_int, G.ev_tuple_str, G.ev_tuple_list, G.dec_t, G.not_dec, G.k_popA, G.k_popZ, G.k_pop1, G.r_ext, G.k_ext1, G.k_ext2, G.k_ext3, G.k_ext4, G.r_items, G.k_itemsJ, G.d_listD, G.d_intI, G.d_intB, G.d_strI, G.r_subG, G.k_sub1, G.k_sub2, G.k_sub3, G.k_sub4, G.k_sub5, G.k_sub6, G.k_sub7, G.r_tupL1, G.r_tupL2, G.r_tupL3, G.r_tupL4, G.d_isB, G.d_isnB, G.d_isnN, G.d_revL, G.d_revT, G.r_permA, G.k_perm1, G.k_perm2, G.k_perm3a, G.k_perm3b, G.k_perm3c, G.k_perm3d, G.k_perm3e, Int.reduceEq, Int.reduceLE, Int.reduceLT, Int.reduceAdd, Int.reduceSub, Int.reduceMul, Int.reduceNeg, Nat.reduceAdd, List.nil_append, not_true_eq_false, not_false_eq_true, and_true, true_and, and_false, false_and, or_true, true_or, or_false, false_or, decide_true, decide_false, eq_self, Bool.and_true, Bool.and_false, $ls,*] at $h:ident)
theorem t1 {f : Int} : symX ⟨.k7, f, -2⟩ = "7:" ++ intX f ++ ",-2" := by
  refine ext_tl ?_
  have e1 : tl (intX Kd.k7.i) = [55] := by decide
  have e2 : tl (intX (-2)) = [45, 50] := by decide
  have e3 : tl (":" : Str) = [58] := by decide
  have e4 : tl ("," : Str) = [44] := by decide
  have e5 : tl ("7:" : Str) = [55, 58] := by decide
  have e6 : tl (",-2" : Str) = [44, 45, 50] := by decide
  unfold symX
  simp only [tl_append, e1, e2, e3, e4, e5, e6, List.cons_append, List.nil_append, List.append_assoc]
theorem intX_minus {f : Int} (h : 0 ≤ f) : tl (intX (0 - f - 1)) = 45 :: tl (intX (f + 1)) := by
  obtain ⟨n, rfl⟩ : ∃ n : Nat, f = n := ⟨f.toNat, by omega⟩
  rw [show (0 : Int) - n - 1 = Int.negSucc n by omega, show (n : Int) + 1 = ((n + 1 : Nat) : Int) by omega, intX_neg, intX_nat]
theorem t2 {f : Int} (h : 0 ≤ f) : "3:-" ++ intX (f + 1) ++ ",0" = symX ⟨.k3, 0 - f - 1, 0⟩ := by
  refine ext_tl ?_
  have e1 : tl (intX Kd.k3.i) = [51] := by decide
  have e2 : tl (intX 0) = [48] := by decide
  have e3 : tl (":" : Str) = [58] := by decide
  have e4 : tl ("," : Str) = [44] := by decide
  have e5 : tl ("3:-" : Str) = [51, 58, 45] := by decide
  have e6 : tl (",0" : Str) = [44, 48] := by decide
  unfold symX
  simp only [tl_append, e1, e2, e3, e4, e5, e6, intX_minus h, List.cons_append, List.nil_append, List.append_assoc]
theorem t3 {f : Int} : symsX [⟨.k1, 0, 0⟩, ⟨.k0, f, 0⟩, ⟨.k6, -3, 1000⟩] = "1:0,0 0:" ++ intX f ++ ",0 6:-3,1000" := by
  have e0 : symsX [⟨.k1, 0, 0⟩, ⟨.k0, f, 0⟩, ⟨.k6, -3, 1000⟩] = joX [⟨.k1, 0, 0⟩, ⟨.k0, f, 0⟩, ⟨.k6, -3, 1000⟩] := if_neg (by simp)
  rw [e0]
  refine ext_tl ?_
  rw [joX_tl]
  have a1 : tl (symX ⟨.k1, 0, 0⟩) = [49, 58, 48, 44, 48] := by decide
  have a2 : tl (symX ⟨.k6, -3, 1000⟩) = [54, 58, 45, 51, 44, 49, 48, 48, 48] := by decide
  have a3 : tl (symX ⟨.k0, f, 0⟩) = 48 :: 58 :: (tl (intX f) ++ [44, 48]) := by
    have e1 : tl (intX Kd.k0.i) = [48] := by decide
    have e2 : tl (intX 0) = [48] := by decide
    have e3 : tl (":" : Str) = [58] := by decide
    have e4 : tl ("," : Str) = [44] := by decide
    unfold symX
    simp only [tl_append, e1, e2, e3, e4, List.cons_append, List.nil_append, List.append_assoc]
  have e5 : tl ("1:0,0 0:" : Str) = [49, 58, 48, 44, 48, 32, 48, 58] := by decide
  have e6 : tl (",0 6:-3,1000" : Str) = [44, 48, 32, 54, 58, 45, 51, 44, 49, 48, 48, 48] := by decide
  rw [tl_append, tl_append, e5, e6]
  show tl (symX ⟨.k1, 0, 0⟩) ++ ([32] ++ (tl (symX ⟨.k0, f, 0⟩) ++ ([32] ++ tl (symX ⟨.k6, -3, 1000⟩)))) = _
  rw [a1, a2, a3]
  simp only [List.cons_append, List.nil_append, List.append_assoc]
theorem sm_k {i : Int} (h : i.natAbs ≤ 10000) : Sm i := by unfold Sm; omega
theorem right_ok {f : Int} (f0 : 0 ≤ f) (f1 : f < 999) : F__law_texts_are_right [.val (.int f)] = .ok (.val (.bool true), [.un]) := by
  have e1 : F_format_symmetry [.val (.tuple [.int 7, .int f, .int (-2)])] = .ok (.val (.str (symX ⟨.k7, f, -2⟩)), [.un]) := format_symmetry_ok (s := ⟨.k7, f, -2⟩) (sm_k (by dsimp only; omega)) (sm_k (by dsimp only; omega))
  have e2 : F_format_symmetry [.val (.tuple [.int 0, .int 0, .int 0])] = .ok (.val (.str (symX ⟨.k0, 0, 0⟩)), [.un]) := format_symmetry_ok (s := ⟨.k0, 0, 0⟩) (sm_k (by decide)) (sm_k (by decide))
  have e3 : F_parse_symmetry [.val (.str (symX ⟨.k3, 0 - f - 1, 0⟩))] = .ok (.val (.tuple [.int 3, .int (0 - f - 1), .int 0]), [.un]) := parse_symmetry_ok (s := ⟨.k3, 0 - f - 1, 0⟩) (sm_k (by dsimp only; omega)) (sm_k (by dsimp only; omega))
  have e4 : F_format_generators [.val (.tuple [])] = .ok (.val (.str "-"), [.un]) := format_generators_ok (l := []) (fun _ h => (nomatch h)) (by decide)
  have e5 : F_parse_generators [.val (.str "-")] = .ok (.val (.tuple []), [.un]) := parse_generators_ok (l := []) (fun _ h => (nomatch h)) (by decide)
  have q1 : symsX [⟨.k0, 1, 1⟩] = "0:1,1" := by decide
  have e6 : F_parse_generators [.val (.str (symsX [⟨.k0, 1, 1⟩]))] = .ok (.val (.tuple [.tuple [.int 0, .int 1, .int 1]]), [.un]) := parse_generators_ok (l := [⟨.k0, 1, 1⟩]) (fun g h => by
    rw [List.mem_singleton.mp h]
    exact ⟨sm_k (by decide), sm_k (by decide)⟩) (by decide)
  rw [q1] at e6
  have e7 : F_format_generators [.val (.tuple [.tuple [.int 1, .int 0, .int 0], .tuple [.int 0, .int f, .int 0], .tuple [.int 6, .int (-3), .int 1000]])] = .ok (.val (.str (symsX [⟨.k1, 0, 0⟩, ⟨.k0, f, 0⟩, ⟨.k6, -3, 1000⟩])), [.un]) := format_generators_ok (l := [⟨.k1, 0, 0⟩, ⟨.k0, f, 0⟩, ⟨.k6, -3, 1000⟩]) (fun g h => by
    simp only [List.mem_cons, List.not_mem_nil, or_false] at h
    rcases h with rfl | rfl | rfl <;> exact ⟨sm_k (by dsimp only; omega), sm_k (by dsimp only; omega)⟩) (by simp)
  have q2 : symX ⟨.k0, 0, 0⟩ = "0:0,0" := by decide
  rw [t1] at e1
  rw [q2] at e2
  rw [t3] at e7
  rw [← t2 f0] at e3
  have s1 := d_strX (i := f) (sm_k (by omega))
  have s2 := d_strX (i := f + 1) (sm_k (by omega))
  have l1 := intX_len (i := f) (sm_k (by omega))
  have l2 := intX_len (i := f + 1) (sm_k (by omega))
  have c1 : (("7:" : Str)).length = 2 := rfl
  have c2 : ((",-2" : Str)).length = 3 := rfl
  have c3 : (("3:-" : Str)).length = 3 := rfl
  have c4 : ((",0" : Str)).length = 2 := rfl
  have c5 : (("1:0,0 0:" : Str)).length = 8 := rfl
  have c6 : ((",0 6:-3,1000" : Str)).length = 12 := rfl
  have a1 := add_str (a := "7:") (b := intX f) (by omega) (by omega)
  have a2 := add_str (a := "7:" ++ intX f) (b := ",-2") (by rw [Str.length_append]; omega) (by omega)
  have a3 := add_str (a := "3:-") (b := intX (f + 1)) (by omega) (by omega)
  have a4 := add_str (a := "3:-" ++ intX (f + 1)) (b := ",0") (by rw [Str.length_append]; omega) (by omega)
  have a5 := add_str (a := "1:0,0 0:") (b := intX f) (by omega) (by omega)
  have a6 := add_str (a := "1:0,0 0:" ++ intX f) (b := ",0 6:-3,1000") (by rw [Str.length_append]; omega) (by omega)
  have w : ∀ x : Str, (x == x) = true := fun x => beq_self_eq_true x
  have n0 : neD (.tuple []) (.tuple []) = some (.val (.bool false)) := rfl
  have n1 : neD (.tuple [.tuple [.int 0, .int 1, .int 1]]) (.tuple [.tuple [.int 0, .int 1, .int 1]]) = some (.val (.bool false)) := rfl
  generalize intX f = tf at *
  generalize intX (f + 1) = tg at *
  generalize ("7:" : Str) ++ tf ++ (",-2" : Str) = u1 at *
  generalize ("3:-" : Str) ++ tg ++ (",0" : Str) = u2 at *
  generalize ("1:0,0 0:" : Str) ++ tf ++ (",0 6:-3,1000" : Str) = u3 at *
  rw [r__law_texts_are_right]
  unfold B__law_texts_are_right
  simp? [e1, e2, e3, e4, e5, e6, e7, s1, s2, a1, a2, a3, a4, a5, a6, w, n0, n1]
/-! the refusals -/
abbrev z3 : PyData := .tuple [.int 0, .int 0, .int 0]
abbrev vs1 : List PyData := [.none, .tuple [], .int 0, .str "0:0,0", .list [.int 0, .int 0, .int 0], .tuple [.int 8, .int 0, .int 0], .tuple [.int 0, .int 0], .tuple [.bool true, .int 0, .int 0], .tuple [.int 0, .int 0, .int 0, .int 0], .tuple [z3], .dict []]
abbrev vs2 : List PyData := [.none, .int 0, .str "-", .list [], z3, .tuple [.tuple [.int 0, .int 0]], .tuple [z3, z3, z3, z3, z3, z3, z3], .tuple [z3, .none], .list [z3], .dict []]
abbrev vs3 : List PyData := [.none, .str "", .str "8:0,0", .str "0:0", .str "-", .str "0:0,0 0:0,0", .int 7, .tuple []]
abbrev vs4 : List PyData := [.none, .str "", .str "8:0,0", .str "0:0", .str "--", .str "0:0,0  0:0,0", .int 7, .tuple []]
theorem turn1 {b0 b1 b2 b3 b4 : B} {v : PyData} (hv : v ∈ vs1) : turn (nmG 1) L1_law_k87 v [b0, b1, b2, b3, b4] = .ok (.nx [b0, .val v, .val (.str v.shown), b3, b4]) := by
  simp only [List.mem_cons, List.not_mem_nil, or_false] at hv
  rcases hv with rfl | rfl | rfl | rfl | rfl | rfl | rfl | rfl | rfl | rfl | rfl <;> kernel_rfl
theorem turn2 {b0 b1 b2 b3 b4 : B} {v : PyData} (hv : v ∈ vs2 ++ [.tuple [.tuple [.int 8, .int 0, .int 0]]]) : turn (nmG 1) L2_law_k87 v [b0, b1, b2, b3, b4] = .ok (.nx [b0, .val v, .val (.str v.shown), b3, b4]) := by
  simp only [vs2, List.cons_append, List.nil_append, List.mem_cons, List.not_mem_nil, or_false] at hv
  rcases hv with rfl | rfl | rfl | rfl | rfl | rfl | rfl | rfl | rfl | rfl | rfl <;> kernel_rfl
theorem turn3 {b0 b1 b2 b3 b4 : B} {v : PyData} (hv : v ∈ vs3) : turn (nmG 1) L3_law_k87 v [b0, b1, b2, b3, b4] = .ok (.nx [b0, .val v, b2, b3, b4]) := by
  simp only [List.mem_cons, List.not_mem_nil, or_false] at hv
  rcases hv with rfl | rfl | rfl | rfl | rfl | rfl | rfl | rfl <;> kernel_rfl
theorem turn4 {b0 b1 b2 b3 b4 : B} {v : PyData} (hv : v ∈ vs4) : turn (nmG 1) L4_law_k87 v [b0, b1, b2, b3, b4] = .ok (.nx [b0, .val v, b2, b3, b4]) := by
  simp only [List.mem_cons, List.not_mem_nil, or_false] at hv
  rcases hv with rfl | rfl | rfl | rfl | rfl | rfl | rfl | rfl <;> kernel_rfl
theorem loop {b : SS} {vs : List PyData} (h : ∀ v ∈ vs, ∀ b0 b1 b2 b3 b4 : B, ∃ c2, turn (nmG 1) b v [b0, b1, b2, b3, b4] = .ok (.nx [b0, .val v, c2, b3, b4])) (b0 b1 b2 b3 b4 : B) : ∃ c1 c2 : B, forL (nmG 1) b vs [b0, b1, b2, b3, b4] = .ok (.nx [b0, c1, c2, b3, b4]) := by
  obtain ⟨ρ', e, c1, c2, rfl⟩ := fo_inv (enc := id) (t := nmG 1) (b := b) (fun ρ => ∃ c1 c2 : B, ρ = [b0, c1, c2, b3, b4]) (xs := vs) (ρ := [b0, b1, b2, b3, b4]) ⟨b1, b2, rfl⟩ (by
    rintro v hv _ ⟨c1, c2, rfl⟩
    obtain ⟨d2, e⟩ := h v hv b0 c1 c2 b3 b4
    exact ⟨_, e, _, d2, rfl⟩)
  rw [List.map_id] at e
  exact ⟨c1, c2, e⟩
def lastE : SE := (lcE (rng1I (aCons (opN max2D (aCons (fC (.int 1)) (aCons (opN min2D (aCons (opN lenD (aCons (fV 0) aNil)) (aCons (fC (.int 3)) aNil))) aNil))) aNil)) (nmG 4) yesB (callF [false] F__law_texts_are_right [] (aCons (op2 modD (callF [false, false] F__law_cell [] (aCons (fV 0) (aCons (fV 4) aNil))) (fC (.int 999))) aNil)) [4])
theorem B_eq : B_law_k87 = (seqS (forS (seqI bothK (lstE (aCons (fC .none) (aCons (tupE aNil) (aCons (fC (.int 0)) (aCons (fC (.str "0:0,0")) (aCons (lstE (aCons (fC (.int 0)) (aCons (fC (.int 0)) (aCons (fC (.int 0)) aNil)))) (aCons (tupE (aCons (fC (.int 8)) (aCons (fC (.int 0)) (aCons (fC (.int 0)) aNil)))) (aCons (tupE (aCons (fC (.int 0)) (aCons (fC (.int 0)) aNil))) (aCons (tupE (aCons (fC (.bool true)) (aCons (fC (.int 0)) (aCons (fC (.int 0)) aNil)))) (aCons (tupE (aCons (fC (.int 0)) (aCons (fC (.int 0)) (aCons (fC (.int 0)) (aCons (fC (.int 0)) aNil))))) (aCons (tupE (aCons (tupE (aCons (fC (.int 0)) (aCons (fC (.int 0)) (aCons (fC (.int 0)) aNil)))) aNil)) (aCons dic0E aNil))))))))))))) (nmG 1) L1_law_k87) (seqS (asgS 3 (lstE (aCons (fC .none) (aCons (fC (.int 0)) (aCons (fC (.str "-")) (aCons (lstE aNil) (aCons (tupE (aCons (fC (.int 0)) (aCons (fC (.int 0)) (aCons (fC (.int 0)) aNil)))) (aCons (tupE (aCons (tupE (aCons (fC (.int 0)) (aCons (fC (.int 0)) aNil))) aNil)) (aCons (op2 mulTD (tupE (aCons (tupE (aCons (fC (.int 0)) (aCons (fC (.int 0)) (aCons (fC (.int 0)) aNil)))) aNil)) (fC (.int 7))) (aCons (tupE (aCons (tupE (aCons (fC (.int 0)) (aCons (fC (.int 0)) (aCons (fC (.int 0)) aNil)))) (aCons (fC .none) aNil))) (aCons (lstE (aCons (tupE (aCons (fC (.int 0)) (aCons (fC (.int 0)) (aCons (fC (.int 0)) aNil)))) aNil)) (aCons dic0E aNil)))))))))))) (seqS (forS (seqI bothK (op2 addD (fV 3) (lstE (aCons (tupE (aCons (tupE (aCons (fC (.int 8)) (aCons (fC (.int 0)) (aCons (fC (.int 0)) aNil)))) aNil)) aNil)))) (nmG 1) L2_law_k87) (seqS (forS (seqI bothK (lstE (aCons (fC .none) (aCons (fC (.str "")) (aCons (fC (.str "8:0,0")) (aCons (fC (.str "0:0")) (aCons (fC (.str "-")) (aCons (fC (.str "0:0,0 0:0,0")) (aCons (fC (.int 7)) (aCons (tupE aNil) aNil)))))))))) (nmG 1) L3_law_k87) (seqS (forS (seqI bothK (lstE (aCons (fC .none) (aCons (fC (.str "")) (aCons (fC (.str "8:0,0")) (aCons (fC (.str "0:0")) (aCons (fC (.str "--")) (aCons (fC (.str "0:0,0  0:0,0")) (aCons (fC (.int 7)) (aCons (tupE aNil) aNil)))))))))) (nmG 1) L4_law_k87) (retS (opN allD (aCons lastE aNil)))))))) := rfl
theorem law_ok (ns : List Int) (hl : ns.length ≤ 63) : ∃ ρ, F_law_k87 [.val (.list (ns.map PyData.int))] = .ok (.val (.bool true), ρ) := by
  rw [r_law_k87]
  obtain ⟨x1, x2, l1⟩ := loop (b := L1_law_k87) (vs := vs1) (fun v hv b0 b1 b2 b3 b4 => ⟨_, turn1 hv⟩) (.val (.list (ns.map PyData.int))) .un .un .un .un
  obtain ⟨y1, y2, l2⟩ := loop (b := L2_law_k87) (vs := vs2 ++ [.tuple [.tuple [.int 8, .int 0, .int 0]]]) (fun v hv b0 b1 b2 b3 b4 => ⟨_, turn2 hv⟩) (.val (.list (ns.map PyData.int))) x1 x2 (.own (.list vs2)) .un
  obtain ⟨u1, u2, l3⟩ := loop (b := L3_law_k87) (vs := vs3) (fun v hv b0 b1 b2 b3 b4 => ⟨_, turn3 hv⟩) (.val (.list (ns.map PyData.int))) y1 y2 (.own (.list vs2)) .un
  obtain ⟨w1, w2, l4⟩ := loop (b := L4_law_k87) (vs := vs4) (fun v hv b0 b1 b2 b3 b4 => ⟨_, turn4 hv⟩) (.val (.list (ns.map PyData.int))) u1 u2 (.own (.list vs2)) .un
  obtain ⟨m, hm, eo⟩ := outerI_ok (ns := ns) (bs := [w1, w2, .own (.list vs2), B.un]) 3 (by decide) (by decide)
  have mt : mulTD (.tuple [z3]) (.int 7) = some (.val (.tuple [z3, z3, z3, z3, z3, z3, z3])) := by rfl
  have lc : lcL (nmG 4) yesB (callF [false] F__law_texts_are_right [] (aCons (op2 modD (callF [false, false] F__law_cell [] (aCons (fV 0) (aCons (fV 4) aNil))) (fC (.int 999))) aNil)) [4] 0 ((List.range m).map fun i : Nat => PyData.int (0 + i)) [.val (.list (ns.map PyData.int)), w1, w2, .own (.list vs2), .un] = some ((List.range m).map fun _ => .bool true, [.val (.list (ns.map PyData.int)), w1, w2, .own (.list vs2), .un]) := lc_map (fun _ => .bool true) (fun i _ => by
    obtain ⟨z, ez⟩ := cell_ok ns i
    have h0 : (0 : Int) + (i : Int) = i := by omega
    rw [h0]
    have dv : divOk 999 = true := by decide
    have r := right_ok (f := z.fmod 999) (Int.fmod_nonneg_of_pos _ (by decide)) (Int.fmod_lt_of_pos _ (by decide))
    generalize (.list vs2 : PyData) = l2 at *
    generalize (PyData.list (ns.map PyData.int)) = sc at *
    simp? [ez, r, dv]) (by rw [List.length_range, sizeLine_eq]; omega)
  have ba : boolsD ((List.range m).map fun _ => PyData.bool true) = some ((List.range m).map fun _ => true) := bo_map (u := fun _ => true)
  have bb : ((List.range m).map fun _ : Nat => true).all id = true := by simp
  have le : lastE [.val (.list (ns.map PyData.int)), w1, w2, .own (.list vs2), .un] = .ok (.fr (.list ((List.range m).map fun _ => .bool true)), [.val (.list (ns.map PyData.int)), w1, w2, .own (.list vs2), .un]) := by
    unfold lastE
    rw [r_lc]
    have eo : rng1I (aCons (opN max2D (aCons (fC (.int 1)) (aCons (opN min2D (aCons (opN lenD (aCons (fV 0) aNil)) (aCons (fC (.int 3)) aNil))) aNil))) aNil) [.val (.list (ns.map PyData.int)), w1, w2, .own (.list vs2), .un] = _ := eo
    rw [eo]
    show lcK1 [4] (lcL _ _ _ [4] 0 ((List.range m).map fun i : Nat => PyData.int (0 + i)) [.val (.list (ns.map PyData.int)), w1, w2, .own (.list vs2), .un]) = _
    rw [lc]
    rfl
  clear lc eo
  simp only [vs1, vs2, vs3, vs4, z3, List.cons_append, List.nil_append] at l1 l2 l3 l4 le mt
  generalize (PyData.list (ns.map PyData.int)) = sc at *
  refine ⟨?_, ?eq⟩
  case eq =>
    rw [B_eq]
    simp? [l1, l2, l3, l4, mt, le, ba, bb]
    exact rfl
end L_k87
open PySem PySem.W PyProof.Rows in
set_option maxHeartbeats 0 in
theorem PySem.Challenge.cw_gridsym_k87_texts_by_hand_and_by_names_holds : PySem.Challenge.rw_gridsym_k87_texts_by_hand_and_by_names.Holds := by
  w_on; o_law; k_head; (case hw => w_witness2)
  k_fill
  refine G.end_walk (l := PySem.Challenge.rw_gridsym_k87_texts_by_hand_and_by_names) (n := 63) (k := 9) (x := "_law_script") (F := fun _ => M.F_law_k87) rfl (by decide) rfl ⟨rfl, by decide, by decide⟩ (by decide +kernel) (fun w h Y => PySem.W.km_in_of Y) ?F (fun _ ns hl => L_k87.law_ok ns hl)
  case F =>
    intro w mg fa h Y KX NG hmg
    have z_ValueError : mg "ValueError" = none := PySem.W.mg_none_of KX NG (by k_is)
    have z_all : mg "all" = none := PySem.W.mg_none_of KX NG (by k_is)
    have z_bool : mg "bool" = none := PySem.W.mg_none_of KX NG (by k_is)
    have z_int : mg "int" = none := PySem.W.mg_none_of KX NG (by k_is)
    have z_isinstance : mg "isinstance" = none := PySem.W.mg_none_of KX NG (by k_is)
    have z_len : mg "len" = none := PySem.W.mg_none_of KX NG (by k_is)
    have z_max : mg "max" = none := PySem.W.mg_none_of KX NG (by k_is)
    have z_min : mg "min" = none := PySem.W.mg_none_of KX NG (by k_is)
    have z_range : mg "range" = none := PySem.W.mg_none_of KX NG (by k_is)
    have z_repr : mg "repr" = none := PySem.W.mg_none_of KX NG (by k_is)
    have z_str : mg "str" = none := PySem.W.mg_none_of KX NG (by k_is)
    have z_tuple : mg "tuple" = none := PySem.W.mg_none_of KX NG (by k_is)
    have k_COLON := G.conK_mk (mg := mg) (x := "COLON") (d := M.c_COLON) KX NG (by k_is) G.kd_str
    have k_COMMA := G.conK_mk (mg := mg) (x := "COMMA") (d := M.c_COMMA) KX NG (by k_is) G.kd_str
    have k_DIGITS := G.conK_mk (mg := mg) (x := "DIGITS") (d := M.c_DIGITS) KX NG (by k_is) G.kd_str
    have k_KINDS := G.conK_mk (mg := mg) (x := "KINDS") (d := M.c_KINDS) KX NG (by k_is) G.kd_int
    have k_MINUS := G.conK_mk (mg := mg) (x := "MINUS") (d := M.c_MINUS) KX NG (by k_is) G.kd_str
    have k_MOST_GENERATORS := G.conK_mk (mg := mg) (x := "MOST_GENERATORS") (d := M.c_MOST_GENERATORS) KX NG (by k_is) G.kd_int
    have k_NONE := G.conK_mk (mg := mg) (x := "NONE") (d := M.c_NONE) KX NG (by k_is) G.kd_str
    have x_GeneratorsError := G.excK_mk (mg := mg) (x := "GeneratorsError") (newId := "ValueError.__new__") (bm := [.type "ValueError", .type "Exception", .type "BaseException", .type "object"]) KX NG (by k_is) (by k_exc) (by k_is) (by k_is) (by k_is)
    have x_ParseError := G.excK_mk (mg := mg) (x := "ParseError") (newId := "ValueError.__new__") (bm := [.type "ValueError", .type "Exception", .type "BaseException", .type "object"]) KX NG (by k_is) (by k_exc) (by k_is) (by k_is) (by k_is)
    have x_SymmetryError := G.excK_mk (mg := mg) (x := "SymmetryError") (newId := "ValueError.__new__") (bm := [.type "ValueError", .type "Exception", .type "BaseException", .type "object"]) KX NG (by k_is) (by k_exc) (by k_is) (by k_is) (by k_is)
    have h__law_error_marks := G.fnK_mk (mg := mg) (dV := .none) (x := "_law_error_marks") (st := L_k87.s__law_error_marks) (ps := ["_law_error"]) KX NG (by k_is) (by k_is) (by k_is) (by k_is)
    have h__law_error_name := G.fnK_mk (mg := mg) (dV := .none) (x := "_law_error_name") (st := L_k87.s__law_error_name) (ps := ["_law_error"]) KX NG (by k_is) (by k_is) (by k_is) (by k_is)
    have h__law_said := G.fnK_mk (mg := mg) (dV := .none) (x := "_law_said") (st := L_k87.s__law_said) (ps := ["_law_call"]) KX NG (by k_is) (by k_is) (by k_is) (by k_is)
    have h_natural_in := G.fnK_mk (mg := mg) (dV := .none) (x := "natural_in") (st := L_k87.s_natural_in) (ps := ["word"]) KX NG (by k_is) (by k_is) (by k_is) (by k_is)
    have h_integer_in := G.fnK_mk (mg := mg) (dV := .none) (x := "integer_in") (st := L_k87.s_integer_in) (ps := ["word"]) KX NG (by k_is) (by k_is) (by k_is) (by k_is)
    have h_square_in := G.fnK_mk (mg := mg) (dV := .none) (x := "square_in") (st := L_k87.s_square_in) (ps := ["word"]) KX NG (by k_is) (by k_is) (by k_is) (by k_is)
    have h_is_integer := G.fnK_mk (mg := mg) (dV := .none) (x := "is_integer") (st := L_k87.s_is_integer) (ps := ["thing"]) KX NG (by k_is) (by k_is) (by k_is) (by k_is)
    have h_is_between := G.fnK_mk (mg := mg) (dV := .none) (x := "is_between") (st := L_k87.s_is_between) (ps := ["thing", "least", "most"]) KX NG (by k_is) (by k_is) (by k_is) (by k_is)
    have h_is_symmetry := G.fnK_mk (mg := mg) (dV := .none) (x := "is_symmetry") (st := L_k87.s_is_symmetry) (ps := ["thing"]) KX NG (by k_is) (by k_is) (by k_is) (by k_is)
    have h_symmetry_in := G.fnK_mk (mg := mg) (dV := .none) (x := "symmetry_in") (st := L_k87.s_symmetry_in) (ps := ["word"]) KX NG (by k_is) (by k_is) (by k_is) (by k_is)
    have h_parse_symmetry := G.fnK_mk (mg := mg) (dV := .none) (x := "parse_symmetry") (st := L_k87.s_parse_symmetry) (ps := ["text"]) KX NG (by k_is) (by k_is) (by k_is) (by k_is)
    have h_is_generators := G.fnK_mk (mg := mg) (dV := .none) (x := "is_generators") (st := L_k87.s_is_generators) (ps := ["thing"]) KX NG (by k_is) (by k_is) (by k_is) (by k_is)
    have h_generators_in := G.fnK_mk (mg := mg) (dV := .none) (x := "generators_in") (st := L_k87.s_generators_in) (ps := ["text"]) KX NG (by k_is) (by k_is) (by k_is) (by k_is)
    have h_parse_generators := G.fnK_mk (mg := mg) (dV := .none) (x := "parse_generators") (st := L_k87.s_parse_generators) (ps := ["text"]) KX NG (by k_is) (by k_is) (by k_is) (by k_is)
    have h_need_generators := G.fnK_mk (mg := mg) (dV := .none) (x := "need_generators") (st := L_k87.s_need_generators) (ps := ["thing"]) KX NG (by k_is) (by k_is) (by k_is) (by k_is)
    have h_square_text := G.fnK_mk (mg := mg) (dV := .none) (x := "square_text") (st := L_k87.s_square_text) (ps := ["square"]) KX NG (by k_is) (by k_is) (by k_is) (by k_is)
    have h_symmetry_text := G.fnK_mk (mg := mg) (dV := .none) (x := "symmetry_text") (st := L_k87.s_symmetry_text) (ps := ["symmetry"]) KX NG (by k_is) (by k_is) (by k_is) (by k_is)
    have h_symmetries_text := G.fnK_mk (mg := mg) (dV := .none) (x := "symmetries_text") (st := L_k87.s_symmetries_text) (ps := ["symmetries"]) KX NG (by k_is) (by k_is) (by k_is) (by k_is)
    have h_format_generators := G.fnK_mk (mg := mg) (dV := .none) (x := "format_generators") (st := L_k87.s_format_generators) (ps := ["generators"]) KX NG (by k_is) (by k_is) (by k_is) (by k_is)
    have h_need_symmetry := G.fnK_mk (mg := mg) (dV := .none) (x := "need_symmetry") (st := L_k87.s_need_symmetry) (ps := ["thing"]) KX NG (by k_is) (by k_is) (by k_is) (by k_is)
    have h_format_symmetry := G.fnK_mk (mg := mg) (dV := .none) (x := "format_symmetry") (st := L_k87.s_format_symmetry) (ps := ["symmetry"]) KX NG (by k_is) (by k_is) (by k_is) (by k_is)
    have h__law_texts_are_right := G.fnK_mk (mg := mg) (dV := .none) (x := "_law_texts_are_right") (st := L_k87.s__law_texts_are_right) (ps := ["_law_far"]) KX NG (by k_is) (by k_is) (by k_is) (by k_is)
    have h__law_cell := G.fnK_mk (mg := mg) (dV := .none) (x := "_law_cell") (st := L_k87.s__law_cell) (ps := ["_law_script", "_law_index"]) KX NG (by k_is) (by k_is) (by k_is) (by k_is)
    have h_law := G.fnK_mk (mg := mg) (dV := .none) (x := "law") (st := L_k87.s_law) (ps := ["_law_script"]) KX NG (by k_is) (by k_is) (by k_is) (by k_is)
    have e := hmg.symm.trans h_law.at_
    cases e
    have ix_CommandError : mg "CommandError" = some (.ref _) := PySem.W.mg_of KX NG (by k_is)
    have ix_CompatibilityError : mg "CompatibilityError" = some (.ref _) := PySem.W.mg_of KX NG (by k_is)
    have ix_ContainmentError : mg "ContainmentError" = some (.ref _) := PySem.W.mg_of KX NG (by k_is)
    have ix_DescriptionError : mg "DescriptionError" = some (.ref _) := PySem.W.mg_of KX NG (by k_is)
    have ix_GeneratorsError : mg "GeneratorsError" = some (.ref _) := PySem.W.mg_of KX NG (by k_is)
    have ix_GridsymError : mg "GridsymError" = some (.ref _) := PySem.W.mg_of KX NG (by k_is)
    have ix_LimitError : mg "LimitError" = some (.ref _) := PySem.W.mg_of KX NG (by k_is)
    have ix_NumberError : mg "NumberError" = some (.ref _) := PySem.W.mg_of KX NG (by k_is)
    have ix_ParseError : mg "ParseError" = some (.ref _) := PySem.W.mg_of KX NG (by k_is)
    have ix_PatternError : mg "PatternError" = some (.ref _) := PySem.W.mg_of KX NG (by k_is)
    have ix_ProgramError : mg "ProgramError" = some (.ref _) := PySem.W.mg_of KX NG (by k_is)
    have ix_SquareError : mg "SquareError" = some (.ref _) := PySem.W.mg_of KX NG (by k_is)
    have ix_SymmetryError : mg "SymmetryError" = some (.ref _) := PySem.W.mg_of KX NG (by k_is)
    have ix_UndoError : mg "UndoError" = some (.ref _) := PySem.W.mg_of KX NG (by k_is)
    obtain ⟨es, es0, em0, ok_CommandError, ok_CompatibilityError, ok_ContainmentError, ok_DescriptionError, ok_GeneratorsError, ok_LimitError, ok_NumberError, ok_ParseError, ok_PatternError, ok_ProgramError, ok_SquareError, ok_SymmetryError, ok_UndoError, ok_ValueError⟩ : ∃ es : List (Str × Addr), (∀ n ∈ M.said_ns, ∀ C, mg n = some (.ref C) → (n, C) ∈ es) ∧ (∀ q ∈ es, PySem.W.exmOne (G.frOf KX) (.ref q.2) (.ref (G.refA ix_GridsymError)) = some true) ∧ G.IsxOk (G.frOf KX) es (.ref (G.refA ix_CommandError)) (G.isN "CommandError") ∧ G.IsxOk (G.frOf KX) es (.ref (G.refA ix_CompatibilityError)) (G.isN "CompatibilityError") ∧ G.IsxOk (G.frOf KX) es (.ref (G.refA ix_ContainmentError)) (G.isN "ContainmentError") ∧ G.IsxOk (G.frOf KX) es (.ref (G.refA ix_DescriptionError)) (G.isN "DescriptionError") ∧ G.IsxOk (G.frOf KX) es (.ref (G.refA ix_GeneratorsError)) (G.isN "GeneratorsError") ∧ G.IsxOk (G.frOf KX) es (.ref (G.refA ix_LimitError)) (G.isN "LimitError") ∧ G.IsxOk (G.frOf KX) es (.ref (G.refA ix_NumberError)) (G.isN "NumberError") ∧ G.IsxOk (G.frOf KX) es (.ref (G.refA ix_ParseError)) (G.isN "ParseError") ∧ G.IsxOk (G.frOf KX) es (.ref (G.refA ix_PatternError)) (G.isN "PatternError") ∧ G.IsxOk (G.frOf KX) es (.ref (G.refA ix_ProgramError)) (G.isN "ProgramError") ∧ G.IsxOk (G.frOf KX) es (.ref (G.refA ix_SquareError)) (G.isN "SquareError") ∧ G.IsxOk (G.frOf KX) es (.ref (G.refA ix_SymmetryError)) (G.isN "SymmetryError") ∧ G.IsxOk (G.frOf KX) es (.ref (G.refA ix_UndoError)) (G.isN "UndoError") ∧ G.IsxOk (G.frOf KX) es (.type "ValueError") G.isAll := by
      have ec : (List.all ([("SquareError", G.refA ix_SquareError), ("SymmetryError", G.refA ix_SymmetryError), ("GeneratorsError", G.refA ix_GeneratorsError), ("NumberError", G.refA ix_NumberError), ("ProgramError", G.refA ix_ProgramError), ("DescriptionError", G.refA ix_DescriptionError), ("ContainmentError", G.refA ix_ContainmentError), ("PatternError", G.refA ix_PatternError), ("CompatibilityError", G.refA ix_CompatibilityError), ("UndoError", G.refA ix_UndoError), ("ParseError", G.refA ix_ParseError), ("CommandError", G.refA ix_CommandError)] : List (Str × Addr)) fun p => G.excCB (G.frOf KX) p.2) = true := by kernel_rfl
      exact ⟨[("SquareError", G.refA ix_SquareError), ("SymmetryError", G.refA ix_SymmetryError), ("GeneratorsError", G.refA ix_GeneratorsError), ("NumberError", G.refA ix_NumberError), ("ProgramError", G.refA ix_ProgramError), ("DescriptionError", G.refA ix_DescriptionError), ("ContainmentError", G.refA ix_ContainmentError), ("PatternError", G.refA ix_PatternError), ("CompatibilityError", G.refA ix_CompatibilityError), ("UndoError", G.refA ix_UndoError), ("ParseError", G.refA ix_ParseError), ("CommandError", G.refA ix_CommandError)], G.es_end (es := [("SquareError", G.refA ix_SquareError), ("SymmetryError", G.refA ix_SymmetryError), ("GeneratorsError", G.refA ix_GeneratorsError), ("NumberError", G.refA ix_NumberError), ("ProgramError", G.refA ix_ProgramError), ("DescriptionError", G.refA ix_DescriptionError), ("ContainmentError", G.refA ix_ContainmentError), ("PatternError", G.refA ix_PatternError), ("CompatibilityError", G.refA ix_CompatibilityError), ("UndoError", G.refA ix_UndoError), ("ParseError", G.refA ix_ParseError), ("CommandError", G.refA ix_CommandError)]) (List.forall_mem_cons.mpr ⟨ix_SquareError, List.forall_mem_cons.mpr ⟨ix_SymmetryError, List.forall_mem_cons.mpr ⟨ix_GeneratorsError, List.forall_mem_cons.mpr ⟨ix_NumberError, List.forall_mem_cons.mpr ⟨ix_ProgramError, List.forall_mem_cons.mpr ⟨ix_DescriptionError, List.forall_mem_cons.mpr ⟨ix_ContainmentError, List.forall_mem_cons.mpr ⟨ix_PatternError, List.forall_mem_cons.mpr ⟨ix_CompatibilityError, List.forall_mem_cons.mpr ⟨ix_UndoError, List.forall_mem_cons.mpr ⟨ix_ParseError, List.forall_mem_cons.mpr ⟨ix_CommandError, (fun _ h => (nomatch h))⟩⟩⟩⟩⟩⟩⟩⟩⟩⟩⟩⟩) rfl, G.exm_end (by kernel_rfl), G.isx_end ec (by kernel_rfl), G.isx_end ec (by kernel_rfl), G.isx_end ec (by kernel_rfl), G.isx_end ec (by kernel_rfl), G.isx_end ec (by kernel_rfl), G.isx_end ec (by kernel_rfl), G.isx_end ec (by kernel_rfl), G.isx_end ec (by kernel_rfl), G.isx_end ec (by kernel_rfl), G.isx_end ec (by kernel_rfl), G.isx_end ec (by kernel_rfl), G.isx_end ec (by kernel_rfl), G.isx_end ec (by kernel_rfl), G.isx_end ec (by kernel_rfl)⟩
    obtain ⟨ts, YT, ck⟩ : ∃ ts : List Addr, (∀ P ∈ ts, h.get? P = some (PySem.W.tabObj #[])) ∧ G.tabsB (G.frOf KX) [(G.fnA h_law, ("law" : Str) ++ ".<locals>." ++ "<lambda>")] ts = true := ⟨_, PySem.W.km_tabs_of Y, by kernel_rfl⟩
    obtain ⟨Γ, cs, rfl, tbs, mks⟩ := G.gx_end (es := es) KX YT ck
    have es_ := es0
    refine ⟨_, cs, Γ, tbs, fun s u => G.binds_at h_law (fun _ _ _ _ _ _ _ => rfl) s u, fun base _ _ sys TB => ?_⟩
    have g__law_error_marks := L_k87.g__law_error_marks (P := PySem.Challenge.pw_gridsym_k87_texts_by_hand_and_by_names) (w := w) (base := base) (Γ := Γ) h__law_error_marks sys z_isinstance ix_CommandError ok_CommandError ix_CompatibilityError ok_CompatibilityError ix_ContainmentError ok_ContainmentError ix_DescriptionError ok_DescriptionError ix_GeneratorsError ok_GeneratorsError ix_LimitError ok_LimitError ix_NumberError ok_NumberError ix_ParseError ok_ParseError ix_PatternError ok_PatternError ix_ProgramError ok_ProgramError ix_SquareError ok_SquareError ix_SymmetryError ok_SymmetryError ix_UndoError ok_UndoError
    have hf__law_error_marks := G.calledH_of h__law_error_marks (L_k87.b__law_error_marks h__law_error_marks) g__law_error_marks
    have g__law_error_name := L_k87.g__law_error_name (P := PySem.Challenge.pw_gridsym_k87_texts_by_hand_and_by_names) (w := w) (base := base) (Γ := Γ) h__law_error_name sys z_ValueError z_isinstance ok_ValueError hf__law_error_marks
    have hf__law_error_name := G.calledH_of h__law_error_name (L_k87.b__law_error_name h__law_error_name) g__law_error_name
    have sd__law_said := L_k87.sd__law_said (P := PySem.Challenge.pw_gridsym_k87_texts_by_hand_and_by_names) (w := w) (base := base) (Γ := Γ) h__law_said sys z_str hf__law_error_name z_repr ix_GridsymError em0
    have g_natural_in := L_k87.g_natural_in (P := PySem.Challenge.pw_gridsym_k87_texts_by_hand_and_by_names) (w := w) (Γ := Γ) h_natural_in sys z_all z_int k_DIGITS
    have f_natural_in := G.called_of h_natural_in (L_k87.b_natural_in h_natural_in) g_natural_in
    have g_integer_in := L_k87.g_integer_in (P := PySem.Challenge.pw_gridsym_k87_texts_by_hand_and_by_names) (w := w) (Γ := Γ) h_integer_in sys k_MINUS f_natural_in
    have f_integer_in := G.called_of h_integer_in (L_k87.b_integer_in h_integer_in) g_integer_in
    have g_square_in := L_k87.g_square_in (P := PySem.Challenge.pw_gridsym_k87_texts_by_hand_and_by_names) (w := w) (Γ := Γ) h_square_in sys z_len z_tuple k_COMMA f_integer_in
    have f_square_in := G.called_of h_square_in (L_k87.b_square_in h_square_in) g_square_in
    have g_is_integer := L_k87.g_is_integer (P := PySem.Challenge.pw_gridsym_k87_texts_by_hand_and_by_names) (w := w) (Γ := Γ) h_is_integer sys z_bool z_int z_isinstance
    have f_is_integer := G.called_of h_is_integer (L_k87.b_is_integer h_is_integer) g_is_integer
    have g_is_between := L_k87.g_is_between (P := PySem.Challenge.pw_gridsym_k87_texts_by_hand_and_by_names) (w := w) (Γ := Γ) h_is_between sys f_is_integer
    have f_is_between := G.called_of h_is_between (L_k87.b_is_between h_is_between) g_is_between
    have g_is_symmetry := L_k87.g_is_symmetry (P := PySem.Challenge.pw_gridsym_k87_texts_by_hand_and_by_names) (w := w) (Γ := Γ) h_is_symmetry sys z_all z_isinstance z_len z_tuple k_KINDS f_is_between f_is_integer
    have f_is_symmetry := G.called_of h_is_symmetry (L_k87.b_is_symmetry h_is_symmetry) g_is_symmetry
    have g_symmetry_in := L_k87.g_symmetry_in (P := PySem.Challenge.pw_gridsym_k87_texts_by_hand_and_by_names) (w := w) (Γ := Γ) h_symmetry_in sys z_len k_COLON f_is_symmetry f_natural_in f_square_in
    have f_symmetry_in := G.called_of h_symmetry_in (L_k87.b_symmetry_in h_symmetry_in) g_symmetry_in
    have g_parse_symmetry := L_k87.g_parse_symmetry (P := PySem.Challenge.pw_gridsym_k87_texts_by_hand_and_by_names) (w := w) (Γ := Γ) h_parse_symmetry sys z_isinstance z_str x_ParseError f_symmetry_in
    have kf_parse_symmetry := G.calledK_of h_parse_symmetry g_parse_symmetry fun _ _ _ _ _ _ ws hl => match ws, hl with | [_], _ => rfl
    have f_parse_symmetry := G.called_of h_parse_symmetry (L_k87.b_parse_symmetry h_parse_symmetry) g_parse_symmetry
    have g_is_generators := L_k87.g_is_generators (P := PySem.Challenge.pw_gridsym_k87_texts_by_hand_and_by_names) (w := w) (Γ := Γ) h_is_generators sys z_all z_isinstance z_len z_tuple k_MOST_GENERATORS f_is_symmetry
    have f_is_generators := G.called_of h_is_generators (L_k87.b_is_generators h_is_generators) g_is_generators
    have g_generators_in := L_k87.g_generators_in (P := PySem.Challenge.pw_gridsym_k87_texts_by_hand_and_by_names) (w := w) (Γ := Γ) h_generators_in sys z_tuple k_NONE f_is_generators f_symmetry_in
    have f_generators_in := G.called_of h_generators_in (L_k87.b_generators_in h_generators_in) g_generators_in
    have g_parse_generators := L_k87.g_parse_generators (P := PySem.Challenge.pw_gridsym_k87_texts_by_hand_and_by_names) (w := w) (Γ := Γ) h_parse_generators sys z_isinstance z_str x_ParseError f_generators_in
    have kf_parse_generators := G.calledK_of h_parse_generators g_parse_generators fun _ _ _ _ _ _ ws hl => match ws, hl with | [_], _ => rfl
    have f_parse_generators := G.called_of h_parse_generators (L_k87.b_parse_generators h_parse_generators) g_parse_generators
    have g_need_generators := L_k87.g_need_generators (P := PySem.Challenge.pw_gridsym_k87_texts_by_hand_and_by_names) (w := w) (Γ := Γ) h_need_generators sys x_GeneratorsError f_is_generators
    have f_need_generators := G.called_of h_need_generators (L_k87.b_need_generators h_need_generators) g_need_generators
    have g_square_text := L_k87.g_square_text (P := PySem.Challenge.pw_gridsym_k87_texts_by_hand_and_by_names) (w := w) (Γ := Γ) h_square_text sys k_COMMA
    have f_square_text := G.called_of h_square_text (L_k87.b_square_text h_square_text) g_square_text
    have g_symmetry_text := L_k87.g_symmetry_text (P := PySem.Challenge.pw_gridsym_k87_texts_by_hand_and_by_names) (w := w) (Γ := Γ) h_symmetry_text sys k_COLON f_square_text
    have f_symmetry_text := G.called_of h_symmetry_text (L_k87.b_symmetry_text h_symmetry_text) g_symmetry_text
    have g_symmetries_text := L_k87.g_symmetries_text (P := PySem.Challenge.pw_gridsym_k87_texts_by_hand_and_by_names) (w := w) (Γ := Γ) h_symmetries_text sys k_NONE f_symmetry_text
    have f_symmetries_text := G.called_of h_symmetries_text (L_k87.b_symmetries_text h_symmetries_text) g_symmetries_text
    have g_format_generators := L_k87.g_format_generators (P := PySem.Challenge.pw_gridsym_k87_texts_by_hand_and_by_names) (w := w) (Γ := Γ) h_format_generators sys f_need_generators f_symmetries_text
    have kf_format_generators := G.calledK_of h_format_generators g_format_generators fun _ _ _ _ _ _ ws hl => match ws, hl with | [_], _ => rfl
    have f_format_generators := G.called_of h_format_generators (L_k87.b_format_generators h_format_generators) g_format_generators
    have g_need_symmetry := L_k87.g_need_symmetry (P := PySem.Challenge.pw_gridsym_k87_texts_by_hand_and_by_names) (w := w) (Γ := Γ) h_need_symmetry sys x_SymmetryError f_is_symmetry
    have f_need_symmetry := G.called_of h_need_symmetry (L_k87.b_need_symmetry h_need_symmetry) g_need_symmetry
    have g_format_symmetry := L_k87.g_format_symmetry (P := PySem.Challenge.pw_gridsym_k87_texts_by_hand_and_by_names) (w := w) (Γ := Γ) h_format_symmetry sys f_need_symmetry f_symmetry_text
    have kf_format_symmetry := G.calledK_of h_format_symmetry g_format_symmetry fun _ _ _ _ _ _ ws hl => match ws, hl with | [_], _ => rfl
    have f_format_symmetry := G.called_of h_format_symmetry (L_k87.b_format_symmetry h_format_symmetry) g_format_symmetry
    have g__law_texts_are_right := L_k87.g__law_texts_are_right (P := PySem.Challenge.pw_gridsym_k87_texts_by_hand_and_by_names) (w := w) (Γ := Γ) h__law_texts_are_right sys z_str f_format_generators f_format_symmetry f_parse_generators kf_format_generators kf_format_symmetry kf_parse_generators kf_parse_symmetry
    have f__law_texts_are_right := G.called_of h__law_texts_are_right (L_k87.b__law_texts_are_right h__law_texts_are_right) g__law_texts_are_right
    have g__law_cell := L_k87.g__law_cell (P := PySem.Challenge.pw_gridsym_k87_texts_by_hand_and_by_names) (w := w) (Γ := Γ) h__law_cell sys z_len
    have f__law_cell := G.called_of h__law_cell (L_k87.b__law_cell h__law_cell) g__law_cell
    have mk_law := mks base mg TB (G.fnA h_law, ("law" : Str) ++ ".<locals>." ++ "<lambda>") (List.Mem.head _)
    exact L_k87.g_law h_law sys z_all z_len z_max z_min z_range z_repr mk_law sd__law_said es_ f__law_cell f__law_texts_are_right f_format_generators f_format_symmetry f_parse_generators f_parse_symmetry
